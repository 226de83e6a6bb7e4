import PyProof.Rows.All
import Wide.All
import OpenK.AllK
import Wide.FinOn
import HandS.ForMost
import HandS.HeadHook1
import HandS.TupAny
import HandS.Deep
import HandS.IsInst
import HandS.Wide
import HandS.WideBits
import HandS.Exc
import HandS.ExcOwn
import HandS.WordsExc
import HandS.TryOnly
import HandS.Defaults
import HandS.EndBits
import HandS.Style
import PyProof.ReprRoads
import HandS.RaiseMore
import HandS.Words
import HandS.Text
import HandS.TupMul
import HandS.Iter
import HandS.HeadHook2
import HandS.Head0
import HandS.Head1
import HandS.Head2
import HandS.HeadEnd
import PySem.Challenge.RW_giftstreams_k82_what_is_a_plan
section
set_option Elab.async false
set_option linter.all false
set_option maxRecDepth 100000
set_option maxHeartbeats 1000000
namespace G
open PySem PySem.Spec PyProof.Rows L2

/-! ## values, cells, results -/
/-- a value: tuples and finished lists by value, what is still changed by a cell's number -/
inductive D where
  | non
  | bl (b : Bool)
  | int (i : Int)
  | str (x : Str)
  | tup (l : List D)
  | lst (l : List D)
  | cell (i : Nat)
  | dct0
  | exc (c : Str)
  deriving Inhabited
inductive Cell where
  | lst (l : List D)
  | ro (l : List D)
  | dct (l : List (Key × D))
  | ins (C : Str) (fs : List (Str × D))
  | dead
abbrev Store := List Cell
abbrev Mp := Nat → Addr
inductive Res (α : Type) where
  | ok (a : α) (st : Store)
  | err (c : Str) (st : Store)
  | bad
abbrev M (α : Type) := Store → Res α
def M.ret {α : Type} (a : α) : M α := fun st => .ok a st
def M.andThen {α β : Type} (x : M α) (f : α → M β) : M β := fun st => match x st with
  | .ok a st' => f a st'
  | .err c st' => .err c st'
  | .bad => .bad
def M.stuck {α : Type} : M α := fun _ => .bad
instance : Monad M where
  pure := M.ret
  bind := M.andThen
theorem bind_ok {α β : Type} {x : M α} {f : α → M β} {st st' : Store} {a : α} (h : x st = .ok a st') : (x >>= f) st = f a st' := by
  show M.andThen x f st = _
  unfold M.andThen; rw [h]
theorem pure_app {α : Type} (a : α) (st : Store) : (pure a : M α) st = .ok a st := rfl

/-! ## how a heap bears values and cells -/
def Cell.live : Cell → Prop
  | .dead => False
  | .ro _ => False
  | _ => True
/-- the addresses of the cells that may still be written -/
def Own (m : Mp) (st : Store) (a : Addr) : Prop := ∃ i c, st[i]? = some c ∧ c.live ∧ m i = a
/-- a list that is handed in: it stands still -/
def RoL (K : PySem.W.Frag) (H : Hp) (a : Addr) (xs : List V) : Prop := (∃ o, H a = some (.frz o (.lst xs))) ∨ ∃ (o : Obj) (its : Array Value) (n : Nat), K.lookup a = some o ∧ o.cls = .type "list" ∧ o.dict = none ∧ o.data = .seq its n ∧ its.size ≤ sizeLine ∧ Vals xs its.toList
theorem RoL.sq {K : PySem.W.Frag} {H : Hp} {a : Addr} {xs : List V} (h : RoL K H a xs) : SqL K H a xs := by
  rcases h with h | h
  · exact .inl (.inr h)
  · exact .inr h
/-- what the two relations need of the state -/
structure Wd where
  K : PySem.W.Frag
  m : Mp
  st : Store
  H : Hp
  /-- addresses at which no finished value stands (a list that a comprehension grows) -/
  rv : List Addr
/-- what is tracked and written by no cell -/
def Fz (w : Wd) (a : Addr) (o : HO) : Prop := w.H a = some o ∧ ¬ Own w.m w.st a
/-- .. and may be a value -/
def Fr (w : Wd) (a : Addr) (o : HO) : Prop := Fz w a o ∧ a ∉ w.rv
mutual
def Rep (w : Wd) : D → V → Prop
  | .non, v => v = .non
  | .bl b, v => v = .bl b
  | .int i, v => v = .int i
  | .str x, v => v = .str x
  | .tup l, v => ∃ a xs, v = .ref a ∧ SqT w.K w.H a xs ∧ Reps w l xs ∧ l.length ≤ sizeLine
  | .lst l, v => ∃ a xs, v = .ref a ∧ Fr w a (.lst xs) ∧ Reps w l xs ∧ l.length ≤ sizeLine
  | .cell i, v => v = .ref (w.m i) ∧ i < w.st.length
  | .dct0, v => ∃ a, v = .ref a ∧ Fr w a (.dK [])
  | .exc _, _ => False
def Reps (w : Wd) : List D → List V → Prop
  | [], vs => vs = []
  | d :: ds, vs => ∃ x xs, vs = x :: xs ∧ Rep w d x ∧ Reps w ds xs
end
def RepK (w : Wd) : List (Key × D) → List (Key × V) → Prop
  | [], vs => vs = []
  | d :: ds, vs => ∃ x xs, vs = x :: xs ∧ x.1 = d.1 ∧ Rep w d.2 x.2 ∧ RepK w ds xs
def RepF (w : Wd) : List (Str × D) → List (Str × V) → Prop
  | [], vs => vs = []
  | d :: ds, vs => ∃ x xs, vs = x :: xs ∧ x.1 = d.1 ∧ Rep w d.2 x.2 ∧ RepF w ds xs
def CellOk (w : Wd) (a : Addr) : Cell → Prop
  | .lst l => ∃ xs, w.H a = some (.lst xs) ∧ Reps w l xs ∧ l.length ≤ sizeLine
  | .ro l => ∃ xs, RoL w.K w.H a xs ∧ Reps w l xs ∧ l.length ≤ sizeLine
  | .dct l => ∃ kvs, w.H a = some (.dK kvs) ∧ RepK w l kvs
  | .ins C fs => ∃ dx gs, w.H a = some (.ins (He.ga w.K C) dx gs) ∧ RepF w fs gs
  | .dead => True
structure RS (w : Wd) : Prop where
  cells : ∀ i c, w.st[i]? = some c → CellOk w (w.m i) c
  inj : ∀ i j c c', w.st[i]? = some c → w.st[j]? = some c' → c.live → c'.live → w.m i = w.m j → i = j
  rvs : ∀ a ∈ w.rv, w.H a ≠ none
  rvo : ∀ a ∈ w.rv, ¬ Own w.m w.st a
structure Aft (w w' : Wd) : Prop where
  k : w'.K = w.K
  rv : w'.rv = w.rv
  rs : RS w'
  ext : ∀ i, i < w.st.length → w'.m i = w.m i
  len : w.st.length ≤ w'.st.length
  tup : ∀ a xs, SqT w.K w.H a xs → SqT w'.K w'.H a xs
  fz : ∀ a o, Fz w a o → Fz w' a o
theorem Aft.refl {w : Wd} (r : RS w) : Aft w w := ⟨rfl, rfl, r, fun _ _ => rfl, Nat.le_refl _, fun _ _ h => h, fun _ _ h => h⟩
theorem Aft.trans {w w1 w2 : Wd} (a : Aft w w1) (b : Aft w1 w2) : Aft w w2 :=
  ⟨b.k.trans a.k, b.rv.trans a.rv, b.rs, fun i h => (b.ext i (Nat.lt_of_lt_of_le h a.len)).trans (a.ext i h), Nat.le_trans a.len b.len, fun x xs h => b.tup x xs (a.tup x xs h), fun x xs h => b.fz x xs (a.fz x xs h)⟩
/-- what values need of the change -/
structure Bears (w w' : Wd) : Prop where
  ext : ∀ i, i < w.st.length → w'.m i = w.m i
  len : w.st.length ≤ w'.st.length
  tup : ∀ a xs, SqT w.K w.H a xs → SqT w'.K w'.H a xs
  fr : ∀ a o, Fr w a o → Fr w' a o
theorem Aft.bears {w w' : Wd} (a : Aft w w') : Bears w w' := ⟨a.ext, a.len, a.tup, fun x o h => ⟨a.fz x o h.1, by rw [a.rv]; exact h.2⟩⟩
theorem Bears.trans {w w1 w2 : Wd} (a : Bears w w1) (b : Bears w1 w2) : Bears w w2 :=
  ⟨fun i h => (b.ext i (Nat.lt_of_lt_of_le h a.len)).trans (a.ext i h), Nat.le_trans a.len b.len, fun x xs h => b.tup x xs (a.tup x xs h), fun x xs h => b.fr x xs (a.fr x xs h)⟩
mutual
theorem Bears.rep {w w' : Wd} (b : Bears w w') : ∀ (d : D) (v : V), Rep w d v → Rep w' d v
  | .non, v, h => by simpa only [Rep] using h
  | .bl _, v, h => by simpa only [Rep] using h
  | .int _, v, h => by simpa only [Rep] using h
  | .str _, v, h => by simpa only [Rep] using h
  | .tup l, v, h => by
    simp only [Rep] at h ⊢
    obtain ⟨a, xs, e, s, r, hl⟩ := h
    exact ⟨a, xs, e, b.tup a xs s, b.reps l xs r, hl⟩
  | .lst l, v, h => by
    simp only [Rep] at h ⊢
    obtain ⟨a, xs, e, s, r, hl⟩ := h
    exact ⟨a, xs, e, b.fr a _ s, b.reps l xs r, hl⟩
  | .cell i, v, h => by
    simp only [Rep] at h ⊢
    exact ⟨h.1.trans (by rw [b.ext i h.2]), Nat.lt_of_lt_of_le h.2 b.len⟩
  | .dct0, v, h => by
    simp only [Rep] at h ⊢
    obtain ⟨a, e, s⟩ := h
    exact ⟨a, e, b.fr a _ s⟩
  | .exc _, v, h => by simp only [Rep] at h
theorem Bears.reps {w w' : Wd} (b : Bears w w') : ∀ (l : List D) (vs : List V), Reps w l vs → Reps w' l vs
  | [], vs, h => by simpa only [Reps] using h
  | d :: ds, vs, h => by
    simp only [Reps] at h ⊢
    obtain ⟨x, xs, e, r, rs⟩ := h
    exact ⟨x, xs, e, b.rep d x r, b.reps ds xs rs⟩
end
theorem Bears.repK {w w' : Wd} (b : Bears w w') : ∀ (l : List (Key × D)) (vs : List (Key × V)), RepK w l vs → RepK w' l vs
  | [], vs, h => h
  | d :: ds, vs, h => by
    obtain ⟨x, xs, e, k, r, rs⟩ := h
    exact ⟨x, xs, e, k, b.rep _ _ r, b.repK ds xs rs⟩
theorem Bears.repF {w w' : Wd} (b : Bears w w') : ∀ (l : List (Str × D)) (vs : List (Str × V)), RepF w l vs → RepF w' l vs
  | [], vs, h => h
  | d :: ds, vs, h => by
    obtain ⟨x, xs, e, k, r, rs⟩ := h
    exact ⟨x, xs, e, k, b.rep _ _ r, b.repF ds xs rs⟩
theorem Aft.rep {w w' : Wd} (a : Aft w w') {d : D} {v : V} (h : Rep w d v) : Rep w' d v := a.bears.rep d v h
theorem Aft.reps {w w' : Wd} (a : Aft w w') {d : List D} {v : List V} (h : Reps w d v) : Reps w' d v := a.bears.reps d v h
end G
end

section
set_option Elab.async false
set_option linter.all false
set_option autoImplicit false
set_option maxRecDepth 100000
set_option maxHeartbeats 1000000
namespace G
open PySem PySem.Spec PyProof.Rows L2
/-! ## changes of the heap -/
section
variable {K : PySem.W.Frag} {m : Mp} {st : Store} {H H' : Hp} {p : Addr} {o : HO} {rv : List Addr}
theorem sqT_same (e : Same H H') {a : Addr} {xs : List V} (h : SqT K H a xs) : SqT K H' a xs := by
  rcases h with (h | ⟨o, h⟩) | h
  · exact .inl (.inl (e _ _ h))
  · exact .inl (.inr ⟨o, e _ _ h⟩)
  · exact .inr h
theorem roL_same (e : Same H H') {a : Addr} {xs : List V} (h : RoL K H a xs) : RoL K H' a xs := by
  rcases h with ⟨o, h⟩ | h
  · exact .inl ⟨o, e _ _ h⟩
  · exact .inr h
theorem same_upd (h : H p = none) : Same H (upd H p o) := fun b u e => by rw [upd_ne (ne_of_none e h)]; exact e
theorem bears_same (e : Same H H') : Bears ⟨K, m, st, H, rv⟩ ⟨K, m, st, H', rv⟩ := ⟨fun _ _ => rfl, Nat.le_refl _, fun _ _ h => sqT_same e h, fun _ _ h => ⟨⟨e _ _ h.1.1, h.1.2⟩, h.2⟩⟩
/-- what stands at the address of a cell that may be written -/
def hoLive : HO → Prop
  | .lst _ => True
  | .dK _ => True
  | .ins _ _ _ => True
  | _ => False
/-- a cell's words are borne -/
theorem cell_bears {w w' : Wd} (b : Bears w w') {a : Addr} {c : Cell} (hl : ∀ o, w.H a = some o → hoLive o → w'.H a = some o) (hr : ∀ xs, RoL w.K w.H a xs → RoL w'.K w'.H a xs) (hk : w'.K = w.K) (h : CellOk w a c) : CellOk w' a c := by
  cases c with
  | lst l => obtain ⟨xs, h, r, z⟩ := h; exact ⟨xs, hl _ h trivial, b.reps _ _ r, z⟩
  | ro l => obtain ⟨xs, h, r, z⟩ := h; exact ⟨xs, hr xs h, b.reps _ _ r, z⟩
  | dct l => obtain ⟨xs, h, r⟩ := h; exact ⟨xs, hl _ h trivial, b.repK _ _ r⟩
  | ins C fs => obtain ⟨dx, gs, h, r⟩ := h; exact ⟨dx, gs, by rw [hk]; exact hl _ h trivial, b.repF _ _ r⟩
  | dead => trivial
theorem none_same (e : Same H H') {a : Addr} (n : H a ≠ none) (z : H' a = none) : False := by
  cases q : H a with
  | none => exact n q
  | some o => rw [e _ _ q] at z; cases z
theorem fz_same (e : Same H H') {a : Addr} {o : HO} (h : Fz ⟨K, m, st, H, rv⟩ a o) : Fz ⟨K, m, st, H', rv⟩ a o := ⟨e _ _ h.1, h.2⟩
theorem aft_same (r : RS ⟨K, m, st, H, rv⟩) (e : Same H H') : Aft ⟨K, m, st, H, rv⟩ ⟨K, m, st, H', rv⟩ :=
  ⟨rfl, rfl, ⟨fun i c h => cell_bears (bears_same e) (fun o h _ => e _ _ h) (fun _ h => roL_same e h) rfl (r.cells i c h), r.inj, fun a ha z => none_same e (r.rvs a ha) z, r.rvo⟩, fun _ _ => rfl, Nat.le_refl _, (bears_same e).tup, fun _ _ h => fz_same e h⟩
theorem aft_new (r : RS ⟨K, m, st, H, rv⟩) (h : H p = none) : Aft ⟨K, m, st, H, rv⟩ ⟨K, m, st, upd H p o, rv⟩ := aft_same r (same_upd h)
theorem live_at (r : RS ⟨K, m, st, H, rv⟩) {i : Nat} {c : Cell} (h : st[i]? = some c) (l : c.live) : ∃ o, H (m i) = some o ∧ hoLive o := by
  have q := r.cells i c h
  cases c with
  | lst l => obtain ⟨xs, e, _⟩ := q; exact ⟨_, e, trivial⟩
  | dct l => obtain ⟨xs, e, _⟩ := q; exact ⟨_, e, trivial⟩
  | ins C fs => obtain ⟨dx, gs, e, _⟩ := q; exact ⟨_, e, trivial⟩
  | ro l => exact l.elim
  | dead => exact l.elim
/-- a new cell at a new address -/
def mpNew (m : Mp) (n : Nat) (p : Addr) : Mp := fun i => if i = n then p else m i
theorem mpNew_old {n i : Nat} (h : i < n) : mpNew m n p i = m i := if_neg (by omega)
theorem mpNew_new {n : Nat} : mpNew m n p n = p := if_pos rfl
theorem at_new {c c' : Cell} {i : Nat} (e : (st ++ [c])[i]? = some c') : (i < st.length ∧ st[i]? = some c') ∨ (i = st.length ∧ c' = c) := by
  by_cases hi : i < st.length
  · rw [List.getElem?_append_left hi] at e
    exact .inl ⟨hi, e⟩
  · have hi2 : i < (st ++ [c]).length := (List.getElem?_eq_some_iff.mp e).1
    rw [List.length_append] at hi2
    have e2 : i = st.length := by simp at hi2; omega
    subst e2
    rw [List.getElem?_append_right (Nat.le_refl _)] at e
    simp at e
    exact .inr ⟨rfl, e.symm⟩
theorem own_new {c : Cell} {a : Addr} (h : Own (mpNew m st.length p) (st ++ [c]) a) : Own m st a ∨ a = p := by
  obtain ⟨i, c', e, l, q⟩ := h
  rcases at_new e with ⟨hi, e⟩ | ⟨hi, e⟩
  · rw [mpNew_old hi] at q
    exact .inl ⟨i, c', e, l, q⟩
  · rw [hi, mpNew_new] at q
    exact .inr q.symm
theorem fz_cell {c : Cell} (e : Same H H') (hp : H p = none) (a : Addr) (o : HO) (h : Fz ⟨K, m, st, H, rv⟩ a o) : Fz ⟨K, mpNew m st.length p, st ++ [c], H', rv⟩ a o := ⟨e _ _ h.1, fun z => by
    rcases own_new z with z | z
    · exact h.2 z
    · subst z; exact absurd (h.1.symm.trans hp) (by simp)⟩
theorem bears_cell {c : Cell} (e : Same H H') (hp : H p = none) : Bears ⟨K, m, st, H, rv⟩ ⟨K, mpNew m st.length p, st ++ [c], H', rv⟩ where
  ext := fun i h => mpNew_old h
  len := by simp
  tup := fun _ _ h => sqT_same e h
  fr := fun a o h => ⟨fz_cell e hp a o h.1, h.2⟩
theorem aft_cell {c : Cell} (r : RS ⟨K, m, st, H, rv⟩) (e : Same H H') (hp : H p = none) (ok : CellOk ⟨K, mpNew m st.length p, st ++ [c], H', rv⟩ p c) : Aft ⟨K, m, st, H, rv⟩ ⟨K, mpNew m st.length p, st ++ [c], H', rv⟩ := by
  have b := bears_cell (K := K) (m := m) (st := st) (c := c) (rv := rv) e hp
  refine ⟨rfl, rfl, ⟨fun i c' h => ?_, fun i j c1 c2 h1 h2 l1 l2 q => ?_, fun a ha z => ?_, fun a ha z => ?_⟩, b.ext, b.len, b.tup, fz_cell e hp⟩
  · show CellOk _ (mpNew m st.length p i) c'
    rcases at_new h with ⟨hi, h⟩ | ⟨hi, hc⟩
    · rw [mpNew_old hi]
      exact cell_bears b (fun o h _ => e _ _ h) (fun _ h => roL_same e h) rfl (r.cells i c' h)
    · subst hi hc
      rw [mpNew_new]
      exact ok
  · have q : mpNew m st.length p i = mpNew m st.length p j := q
    have nw : ∀ {i : Nat} {c1 : Cell}, i < st.length → st[i]? = some c1 → c1.live → m i ≠ p := fun {i c1} hi h1 l1 z => by
      obtain ⟨o, ho, _⟩ := live_at r h1 l1
      rw [z, hp] at ho
      cases ho
    rcases at_new h1 with ⟨hi, h1⟩ | ⟨hi, h1⟩
    · rw [mpNew_old hi] at q
      rcases at_new h2 with ⟨hj, h2⟩ | ⟨hj, h2⟩
      · rw [mpNew_old hj] at q
        exact r.inj i j c1 c2 h1 h2 l1 l2 q
      · rw [hj, mpNew_new] at q
        exact absurd q (nw hi h1 l1)
    · rw [hi, mpNew_new] at q
      rcases at_new h2 with ⟨hj, h2⟩ | ⟨hj, h2⟩
      · rw [mpNew_old hj] at q
        exact absurd q.symm (nw hj h2 l2)
      · rw [hi, hj]
  · cases q : H a with
    | none => exact r.rvs a ha q
    | some o => have z : H' a = none := z; rw [e _ _ q] at z; cases z
  · rcases own_new z with z | z
    · exact r.rvo a ha z
    · subst z; exact r.rvs a ha hp
/-- a cell is written -/
theorem at_set {c c' c0 : Cell} {i j : Nat} (h0 : st[i]? = some c0) (e : (st.set i c)[j]? = some c') : (j ≠ i ∧ st[j]? = some c') ∨ (j = i ∧ c' = c) := by
  by_cases hj : j = i
  · subst hj
    have hl : j < st.length := (List.getElem?_eq_some_iff.mp h0).1
    rw [List.getElem?_set_self hl] at e
    exact .inr ⟨rfl, (Option.some.inj e).symm⟩
  · rw [List.getElem?_set_ne (Ne.symm hj)] at e
    exact .inl ⟨hj, e⟩
theorem own_set {c c0 : Cell} {i : Nat} {a : Addr} (h0 : st[i]? = some c0) (l0 : c0.live) (h : Own m (st.set i c) a) : Own m st a := by
  obtain ⟨j, c', e, l, q⟩ := h
  rcases at_set h0 e with ⟨hj, e⟩ | ⟨hj, e⟩
  · exact ⟨j, c', e, l, q⟩
  · exact ⟨i, c0, h0, l0, by rw [← hj]; exact q⟩
theorem fz_set {c c0 : Cell} {i : Nat} (h0 : st[i]? = some c0) (l0 : c0.live) (e : ∀ b u, b ≠ m i → H b = some u → H' b = some u) (a : Addr) (o : HO) (h : Fz ⟨K, m, st, H, rv⟩ a o) : Fz ⟨K, m, st.set i c, H', rv⟩ a o := ⟨e _ _ (fun z => h.2 ⟨i, c0, h0, l0, z.symm⟩) h.1, fun z => h.2 (own_set h0 l0 z)⟩
theorem bears_set {c c0 : Cell} {i : Nat} (r : RS ⟨K, m, st, H, rv⟩) (h0 : st[i]? = some c0) (l0 : c0.live) (e : ∀ b u, b ≠ m i → H b = some u → H' b = some u) : Bears ⟨K, m, st, H, rv⟩ ⟨K, m, st.set i c, H', rv⟩ where
  ext := fun _ _ => rfl
  len := by simp
  tup := fun a xs h => by
    obtain ⟨o, ho, hl⟩ := live_at r h0 l0
    rcases h with (h | ⟨u, h⟩) | h
    · refine .inl (.inl (e _ _ (fun z => ?_) h))
      have h : H a = some _ := h
      rw [z, ho] at h; cases h; exact hl
    · refine .inl (.inr ⟨u, e _ _ (fun z => ?_) h⟩)
      have h : H a = some _ := h
      rw [z, ho] at h; cases h; exact hl
    · exact .inr h
  fr := fun a xs h => ⟨fz_set h0 l0 e a xs h.1, h.2⟩
theorem aft_set {c c0 : Cell} {i : Nat} (r : RS ⟨K, m, st, H, rv⟩) (h0 : st[i]? = some c0) (l0 : c0.live) (e : ∀ b u, b ≠ m i → H b = some u → H' b = some u) (ok : CellOk ⟨K, m, st.set i c, H', rv⟩ (m i) c) : Aft ⟨K, m, st, H, rv⟩ ⟨K, m, st.set i c, H', rv⟩ := by
  have b := bears_set (c := c) r h0 l0 e
  obtain ⟨o, ho, hl⟩ := live_at r h0 l0
  refine ⟨rfl, rfl, ⟨fun j c' h => ?_, fun j k c1 c2 h1 h2 l1 l2 q => ?_, fun a ha z => ?_, fun a ha z => ?_⟩, b.ext, b.len, b.tup, fz_set h0 l0 e⟩
  · rcases at_set h0 h with ⟨hj, h⟩ | ⟨hj, hc⟩
    · by_cases lc : c'.live
      · have hne : m j ≠ m i := fun z => hj (r.inj j i c' c0 h h0 lc l0 z)
        exact cell_bears b (fun o h _ => e _ _ hne h) (fun xs h => by
          rcases h with ⟨u, h⟩ | h
          · exact .inl ⟨u, e _ _ hne h⟩
          · exact .inr h) rfl (r.cells j c' h)
      · have q := r.cells j c' h
        cases c' with
        | ro l =>
          obtain ⟨xs, h1, r1, z1⟩ := q
          refine ⟨xs, ?_, b.reps _ _ r1, z1⟩
          rcases h1 with ⟨u, h1⟩ | h1
          · refine .inl ⟨u, e _ _ (fun z => ?_) h1⟩
            have h2 : H (m j) = some _ := h1
            have z2 : m j = m i := z
            rw [z2, ho] at h2; cases h2; exact hl
          · exact .inr h1
        | dead => trivial
        | _ => exact absurd trivial lc
    · subst hj hc
      exact ok
  · have hx : ∀ {j : Nat} {c1 : Cell}, (st.set i c)[j]? = some c1 → c1.live → ∃ c', st[j]? = some c' ∧ c'.live := fun {j c1} h l => by
      rcases at_set h0 h with ⟨_, h⟩ | ⟨hj, _⟩
      · exact ⟨_, h, l⟩
      · exact ⟨c0, by rw [hj]; exact h0, l0⟩
    obtain ⟨c1', g1, k1⟩ := hx h1 l1
    obtain ⟨c2', g2, k2⟩ := hx h2 l2
    exact r.inj j k c1' c2' g1 g2 k1 k2 q
  · cases q : H a with
    | none => exact r.rvs a ha q
    | some o => have z : H' a = none := z; rw [e _ _ (fun y => r.rvo a ha ⟨i, c0, h0, l0, y.symm⟩) q] at z; cases z
  · exact r.rvo a ha (own_set h0 l0 z)
/-- a list's cell is given up: from then on the list stands still -/
theorem aft_free {i : Nat} {l : List D} (r : RS ⟨K, m, st, H, rv⟩) (h0 : st[i]? = some (.lst l)) : Aft ⟨K, m, st, H, rv⟩ ⟨K, m, st.set i .dead, H, rv⟩ ∧ ∃ v, Rep ⟨K, m, st.set i .dead, H, rv⟩ (.lst l) v ∧ v = .ref (m i) := by
  have a : Aft ⟨K, m, st, H, rv⟩ ⟨K, m, st.set i .dead, H, rv⟩ := aft_set r h0 trivial (fun _ _ _ h => h) trivial
  refine ⟨a, .ref (m i), ?_, rfl⟩
  obtain ⟨xs, h1, r1, z1⟩ := r.cells i _ h0
  simp only [Rep]
  refine ⟨m i, xs, rfl, ⟨⟨h1, fun z => ?_⟩, fun z => r.rvo _ z ⟨i, _, h0, trivial, rfl⟩⟩, a.reps r1, z1⟩
  obtain ⟨j, c', e, lv, q⟩ := z
  rcases at_set h0 e with ⟨hj, e⟩ | ⟨hj, e⟩
  · exact hj (r.inj j i c' _ e h0 lv trivial q)
  · subst e; exact lv
end
end G
end

section
set_option Elab.async false
set_option linter.all false
set_option autoImplicit false
set_option maxRecDepth 100000
set_option maxHeartbeats 1000000
namespace G
open PySem PySem.Spec PyProof.Rows L2
/-! ## what is wanted of a result -/
def Wp {α : Type} (w : Wd) (r : Res α) (P : α → Wd → Prop) (W : Str → Wd → Prop) : Prop := match r with
  | .ok a st' => ∀ w', Aft w w' → w'.st = st' → P a w'
  | .err c st' => ∀ w', Aft w w' → w'.st = st' → W c w'
  | .bad => False
section
variable {α β : Type} {w w1 : Wd} {r : Res α} {P P' : α → Wd → Prop} {W W' : Str → Wd → Prop}
theorem Wp.after (h : Wp w r P W) (a : Aft w w1) : Wp w1 r P W := by
  cases r with
  | ok x st' => exact fun w' b e => h w' (a.trans b) e
  | err c st' => exact fun w' b e => h w' (a.trans b) e
  | bad => exact h
theorem Wp.mono (h : Wp w r P W) (hp : ∀ a w', Aft w w' → P a w' → P' a w') (hw : ∀ c w', Aft w w' → W c w' → W' c w') : Wp w r P' W' := by
  cases r with
  | ok x st' => exact fun w' b e => hp _ _ b (h w' b e)
  | err c st' => exact fun w' b e => hw _ _ b (h w' b e)
  | bad => exact h
theorem Wp.imp (h : Wp w r P W) (hp : ∀ a w', Aft w w' → P a w' → P' a w') : Wp w r P' W := h.mono hp fun _ _ _ x => x
theorem Wp.bind {x : M α} {f : α → M β} {P : β → Wd → Prop} (h : Wp w ((x >>= f) w.st) P W) : Wp w (x w.st) (fun a w1 => Wp w1 (f a w1.st) P W) W := by
  have h : Wp w (M.andThen x f w.st) P W := h
  unfold M.andThen at h
  cases e : x w.st with
  | ok a st' =>
    rw [e] at h
    have h : Wp w (f a st') P W := h
    intro w' b q
    rw [q]
    exact h.after b
  | err c st' =>
    rw [e] at h
    exact h
  | bad =>
    rw [e] at h
    exact h
theorem Wp.ok_ {a : α} (rs : RS w) (h : Wp w (.ok a w.st) P W) : P a w := h w (.refl rs) rfl
end
/-! ## names -/
abbrev Ev := List (Option D)
structure REnv (w : Wd) (env : Ev) (σ : L2.St) : Prop where
  len : env.length = σ.length
  at_ : ∀ (i : Nat) (d : D), env[i]? = some (some d) → ∃ v, σ[i]? = some (some v) ∧ Rep w d v
theorem REnv.after {w w1 : Wd} {env : Ev} {σ : L2.St} (h : REnv w env σ) (a : Aft w w1) : REnv w1 env σ := ⟨h.len, fun i d e => let ⟨v, e1, r⟩ := h.at_ i d e; ⟨v, e1, a.rep r⟩⟩
theorem REnv.set {w : Wd} {env : Ev} {σ : L2.St} {d : D} {v : V} (h : REnv w env σ) (i : Nat) (r : Rep w d v) : REnv w (env.set i (some d)) (σ.set i (some v)) := by
  refine ⟨by rw [List.length_set, List.length_set]; exact h.len, fun j d' e => ?_⟩
  by_cases hj : i = j
  · subst hj
    by_cases hl : i < env.length
    · rw [List.getElem?_set_self hl] at e
      rw [List.getElem?_set_self (by rw [← h.len]; exact hl)]
      cases e
      exact ⟨v, rfl, r⟩
    · rw [List.getElem?_eq_none (by rw [List.length_set]; omega)] at e
      cases e
  · rw [List.getElem?_set_ne hj] at e
    rw [List.getElem?_set_ne hj]
    exact h.at_ j d' e
theorem REnv.forget {w : Wd} {env : Ev} {σ : L2.St} (h : REnv w env σ) (i : Nat) : REnv w (env.set i none) (σ.set i none) := by
  refine ⟨by rw [List.length_set, List.length_set]; exact h.len, fun j d' e => ?_⟩
  by_cases hj : i = j
  · subst hj
    by_cases hl : i < env.length
    · rw [List.getElem?_set_self hl] at e; cases e
    · rw [List.getElem?_eq_none (by rw [List.length_set]; omega)] at e; cases e
  · rw [List.getElem?_set_ne hj] at e
    rw [List.getElem?_set_ne hj]
    exact h.at_ j d' e
/-! ## the readings of computations, the judgements -/
abbrev XW := Str → L2.St → Hp → Prop
def rdE (K : PySem.W.Frag) (W : XW) (f : Ev → M D) : TE := fun σ H Q => ∃ (w : Wd) (env : Ev), w.K = K ∧ w.H = H ∧ RS w ∧ REnv w env σ ∧ Wp w (f env w.st) (fun d w' => ∀ v, Rep w' d v → Q v w'.H) (fun c w' => W c σ w'.H)
def rdT (K : PySem.W.Frag) (W : XW) (f : Ev → M Bool) : TT := fun σ H Q => ∃ (w : Wd) (env : Ev), w.K = K ∧ w.H = H ∧ RS w ∧ REnv w env σ ∧ Wp w (f env w.st) (fun b w' => Q b w'.H) (fun c w' => W c σ w'.H)
def rdA (K : PySem.W.Frag) (W : XW) (f : Ev → M (List D)) : TA := fun σ H Q => ∃ (w : Wd) (env : Ev), w.K = K ∧ w.H = H ∧ RS w ∧ REnv w env σ ∧ Wp w (f env w.st) (fun ds w' => ∀ vs, Reps w' ds vs → Q vs w'.H) (fun c w' => W c σ w'.H)
def DE (X : Cx) (W : XW) (e : Expr) (f : Ev → M D) : Prop := PE X e (rdE X.K W f)
def DT (X : Cx) (W : XW) (e : Expr) (f : Ev → M Bool) : Prop := PT X e (rdT X.K W f)
def DWt (X : Cx) (W : XW) (e : Expr) (f : Ev → M Bool) : Prop := PW X e (rdT X.K W f)
def aSeq : List (Ev → M D) → Ev → M (List D)
  | [], _ => pure []
  | f :: fs, env => do
    let d ← f env
    let ds ← aSeq fs env
    pure (d :: ds)
def DA (X : Cx) (W : XW) (es : List Expr) (fs : List (Ev → M D)) : Prop := PA X es (rdA X.K W (aSeq fs))
section
variable {X : Cx} {W : XW} {e a b c : Expr} {pos : Pos} {fa fb fc : Ev → M D}
theorem PE.imp' {t t' : TE} (h : PE X e t) (k : ∀ σ H Q, t' σ H Q → t σ H Q) : PE X e t' := ⟨fun pins s σ H Q I z => h.run pins s σ H Q I (k σ H Q z)⟩
theorem PT.imp' {t t' : TT} (h : PT X e t) (k : ∀ σ H Q, t' σ H Q → t σ H Q) : PT X e t' := ⟨fun pins s σ H Q I z => h.run pins s σ H Q I (k σ H Q z)⟩
theorem PW.imp' {t t' : TT} (h : PW X e t) (k : ∀ σ H Q, t' σ H Q → t σ H Q) : PW X e t' := ⟨fun wh pins s σ H Q I z => h.run wh pins s σ H Q I (k σ H Q z)⟩
theorem PA.imp' {es : List Expr} {t t' : TA} (h : PA X es t) (k : ∀ σ H Q, t' σ H Q → t σ H Q) : PA X es t' := ⟨fun pos pins s σ H Q I z => h.run pos pins s σ H Q I (k σ H Q z)⟩
/-! ### names and constants -/
def eVar (i : Nat) : Ev → M D := fun env st => match env[i]? with
  | some (some d) => .ok d st
  | _ => .bad
theorem de_var (i : Nat) {x : Str} (hN : X.N[i]? = some x) (hv : Vis X.env.scope x) (hd : (x == ("__debug__" : Str)) = false := by decide) (hcd : (x == ("__classdict__" : Str)) = false := by decide) : DE X W (.Name x pos) (eVar i) := by
  refine PE.imp' (pe_var hN hv hd hcd) ?_
  rintro σ H Q ⟨w, env, hk, rfl, r, n, h⟩
  unfold eVar at h
  split at h
  · rename_i d e
    obtain ⟨v, e1, rv⟩ := n.at_ i d e
    exact ⟨v, e1, h.ok_ r v rv⟩
  · exact h.elim
def eC (d : D) : Ev → M D := fun _ => pure d
theorem de_int {i j} : DE X W (.Constant (.int i) j pos) (eC (.int i)) := PE.imp' pe_int (by
  rintro σ H Q ⟨w, env, hk, rfl, r, n, h⟩
  exact Wp.ok_ r h _ (by simp [Rep]))
theorem de_bl {b : Bool} {j} : DE X W (.Constant (.bool b) j pos) (eC (.bl b)) := PE.imp' pe_bl (by
  rintro σ H Q ⟨w, env, hk, rfl, r, n, h⟩
  exact Wp.ok_ r h _ (by simp [Rep]))
theorem de_non {j} : DE X W (.Constant .none j pos) (eC .non) := PE.imp' pe_non (by
  rintro σ H Q ⟨w, env, hk, rfl, r, n, h⟩
  exact Wp.ok_ r h _ (by simp [Rep]))
theorem de_str {x : Str} {j} : DE X W (.Constant (.str x) j pos) (eC (.str x)) := PE.imp' pe_str (by
  rintro σ H Q ⟨w, env, hk, rfl, r, n, h⟩
  exact Wp.ok_ r h _ (by simp [Rep]))
/-- a module's constant -/
theorem de_glob {x : Str} {v : V} {u : Value} {d : D} (hg : Gl X x) (hm : X.mg x = some u) (r : RelV v u) (hr : ∀ w : Wd, w.K = X.K → Rep w d v) (hd : (x == ("__debug__" : Str)) = false := by decide) : DE X W (.Name x pos) (eC d) := PE.imp' (pe_glob hg hm r hd) (by
  rintro σ H Q ⟨w, env, hk, rfl, rs, n, h⟩
  exact Wp.ok_ rs h _ (hr w hk))
/-! ### operators -/
def lift (o : Store → Option D) : M D := fun st => match o st with
  | some d => .ok d st
  | none => .bad
/-- what is wanted of an operator's answer -/
def Wq (w : Wd) (o : Option D) (Q : VK) : Prop := ∃ d, o = some d ∧ ∀ w', Aft w w' → w'.st = w.st → ∀ v, Rep w' d v → Q v w'.H
theorem Wq.of {w : Wd} {o : Store → Option D} {Q : VK} {W : Str → Wd → Prop} (h : Wp w (lift o w.st) (fun d w' => ∀ v, Rep w' d v → Q v w'.H) W) : Wq w (o w.st) Q := by
  unfold lift at h
  cases e : o w.st with
  | none => rw [e] at h; exact h.elim
  | some d => rw [e] at h; exact ⟨d, rfl, h⟩
def rdO (K : PySem.W.Frag) (g : D → D → Store → Option D) : R2 := fun x y H Q => ∃ (w : Wd) (a b : D), w.K = K ∧ w.H = H ∧ RS w ∧ Rep w a x ∧ Rep w b y ∧ Wq w (g a b w.st) Q
def rdU (K : PySem.W.Frag) (g : D → Store → Option D) : V → Hp → VK → Prop := fun x H Q => ∃ (w : Wd) (a : D), w.K = K ∧ w.H = H ∧ RS w ∧ Rep w a x ∧ Wq w (g a w.st) Q
def rdC (K : PySem.W.Frag) (g : List D → Store → Option D) : List V → Hp → VK → Prop := fun xs H Q => ∃ (w : Wd) (ds : List D), w.K = K ∧ w.H = H ∧ RS w ∧ Reps w ds xs ∧ Wq w (g ds w.st) Q
def OpD (X : Cx) (f : Value → Value → Sem Value) (g : D → D → Store → Option D) : Prop := OpR X f (rdO X.K g)
def CallD (X : Cx) (f : Value) (g : List D → Store → Option D) : Prop := CallR X f (rdC X.K g)
theorem OpR.imp' {f : Value → Value → Sem Value} {r r' : R2} (h : OpR X f r) (k : ∀ x y H Q, r' x y H Q → r x y H Q) : OpR X f r' := fun pins s σ H x y v u Q I rx ry z => h pins s σ H x y v u Q I rx ry (k _ _ _ _ z)
theorem CallR.imp' {f : Value} {r r' : List V → Hp → VK → Prop} (h : CallR X f r) (k : ∀ x H Q, r' x H Q → r x H Q) : CallR X f r' := fun pins s σ H x u Q I rx z => h pins s σ H x u Q I rx (k _ _ _ z)
theorem UnR.imp' {f : Value → Sem Value} {r r' : V → Hp → VK → Prop} (h : UnR X f r) (k : ∀ x H Q, r' x H Q → r x H Q) : UnR X f r' := fun pins s σ H x u Q I rx z => h pins s σ H x u Q I rx (k _ _ _ z)
def eOp (g : D → D → Store → Option D) (fa fb : Ev → M D) : Ev → M D := fun env => do
  let a ← fa env
  let b ← fb env
  lift (g a b)
/-- two readings, one behind the other -/
theorem two {g : D → D → Store → Option D} {σ : L2.St} {H : Hp} {Q : VK} (h : rdE X.K W (eOp g fa fb) σ H Q) : tOp (rdO X.K g) (rdE X.K W fa) (rdE X.K W fb) σ H Q := by
  obtain ⟨w, env, hk, rfl, r, n, h⟩ := h
  refine ⟨w, env, hk, rfl, r, n, (Wp.bind h).imp fun x w1 a1 h1 v rv => ?_⟩
  refine ⟨w1, env, a1.k.trans hk, rfl, a1.rs, n.after a1, (Wp.bind h1).imp fun y w2 a2 h2 u ru => ?_⟩
  exact ⟨w2, x, y, a2.k.trans (a1.k.trans hk), rfl, a2.rs, a2.rep rv, ru, Wq.of h2⟩
theorem de_op {op : Operator} {g : D → D → Store → Option D} (ho : OpD X (binaryOp op) g) (ha : DE X W a fa) (hb : DE X W b fb) : DE X W (.BinOp a op b pos) (eOp g fa fb) := PE.imp' (pe_op ho ha hb) fun _ _ _ h => two h
theorem de_cmp {op : CmpOp} {g : D → D → Store → Option D} (ho : OpD X (compareOp op) g) (ha : DE X W a fa) (hb : DE X W b fb) (hm : behindInMarks op b = false := by rfl) : DE X W (.Compare a [op] [b] pos) (eOp g fa fb) := PE.imp' (pe_cmpR ho ha hb hm) fun _ _ _ h => two h
def eUn (g : D → Store → Option D) (fa : Ev → M D) : Ev → M D := fun env => do
  let a ← fa env
  lift (g a)
theorem de_un {op : UnaryOp} {g : D → Store → Option D} (ho : UnR X (unaryOp op) (rdU X.K g)) (ha : DE X W a fa) : DE X W (.UnaryOp op a pos) (eUn g fa) := PE.imp' (pe_un ho ha) fun σ H Q h => by
  obtain ⟨w, env, hk, rfl, r, n, h⟩ := h
  refine ⟨w, env, hk, rfl, r, n, (Wp.bind h).imp fun x w1 a1 h1 v rv => ?_⟩
  exact ⟨w1, x, a1.k.trans hk, rfl, a1.rs, rv, Wq.of h1⟩
/-! ### tests -/
def asB : D → M Bool
  | .bl b => pure b
  | _ => M.stuck
def tVal (f : Ev → M D) : Ev → M Bool := fun env => do
  let d ← f env
  asB d
theorem asB_wp {w : Wd} {d : D} {P : Bool → Wd → Prop} {V' : Str → Wd → Prop} (rs : RS w) (h : Wp w (asB d w.st) P V') : ∃ b, d = .bl b ∧ P b w := by
  cases d with
  | bl b => exact ⟨b, rfl, Wp.ok_ rs h⟩
  | _ => exact h.elim
theorem tval {σ : L2.St} {H : Hp} {Q : Bool → Hp → Prop} (h : rdT X.K W (tVal fa) σ H Q) : rdE X.K W fa σ H fun x H1 => ∃ c, x = .bl c ∧ Q c H1 := by
  obtain ⟨w, env, hk, rfl, r, n, h⟩ := h
  refine ⟨w, env, hk, rfl, r, n, (Wp.bind h).imp fun x w1 a1 h1 v rv => ?_⟩
  obtain ⟨b, rfl, q⟩ := asB_wp a1.rs h1
  simp only [Rep] at rv
  exact ⟨b, rv, q⟩
theorem dt_val (h : DE X W e fa) (he : ∀ whole, isTrue e X.env whole = (do let v ← whole; standAt e.pos; holding [v] (truthy v)) := by intro _; rfl) : DT X W e (tVal fa) := PT.imp' (pt_val h he) fun _ _ _ h => tval h
theorem dt_cmp {op : CmpOp} {g : D → D → Store → Option D} (ho : OpD X (compareOp op) g) (ha : DE X W a fa) (hb : DE X W b fb) (hm : behindInMarks op b = false := by rfl) : DT X W (.Compare a [op] [b] pos) (tVal (eOp g fa fb)) := PT.imp' (pt_cmpR ho ha hb hm) fun σ H Q h => by
  obtain ⟨w, env, hk, hH, r, n, h⟩ := tval h
  exact two ⟨w, env, hk, hH, r, n, h⟩
def tNot' (t : Ev → M Bool) : Ev → M Bool := fun env => do
  let b ← t env
  pure (!b)
theorem dt_not {t : Ev → M Bool} (h : DT X W e t) : DT X W (.UnaryOp .Not e pos) (tNot' t) := PT.imp' (pt_not h) fun σ H Q h => by
  obtain ⟨w, env, hk, rfl, r, n, h⟩ := h
  refine ⟨w, env, hk, rfl, r, n, (Wp.bind h).imp fun x w1 a1 h1 => Wp.ok_ a1.rs h1⟩
def tAnd' (t u : Ev → M Bool) : Ev → M Bool := fun env => do
  let b ← t env
  if b = true then u env else pure false
def tOr' (t u : Ev → M Bool) : Ev → M Bool := fun env => do
  let b ← t env
  if b = true then pure true else u env
theorem dw_and {rest : List Expr} {t u : Ev → M Bool} (h : DT X W a t) (k : DWt X W (.BoolOp .And (b :: rest) pos) u) : DWt X W (.BoolOp .And (a :: b :: rest) pos) (tAnd' t u) := PW.imp' (pw_and h k) fun σ H Q h => by
  obtain ⟨w, env, hk, rfl, r, n, h⟩ := h
  refine ⟨w, env, hk, rfl, r, n, (Wp.bind h).imp fun x w1 a1 h1 => ?_⟩
  cases x with
  | true => exact iteT ⟨w1, env, a1.k.trans hk, rfl, a1.rs, n.after a1, h1⟩
  | false => exact iteF (Wp.ok_ (a := false) a1.rs h1)
theorem dw_or {rest : List Expr} {t u : Ev → M Bool} (h : DT X W a t) (k : DWt X W (.BoolOp .Or (b :: rest) pos) u) : DWt X W (.BoolOp .Or (a :: b :: rest) pos) (tOr' t u) := PW.imp' (pw_or h k) fun σ H Q h => by
  obtain ⟨w, env, hk, rfl, r, n, h⟩ := h
  refine ⟨w, env, hk, rfl, r, n, (Wp.bind h).imp fun x w1 a1 h1 => ?_⟩
  cases x with
  | true => exact iteT (Wp.ok_ (a := true) a1.rs h1)
  | false => exact iteF ⟨w1, env, a1.k.trans hk, rfl, a1.rs, n.after a1, h1⟩
theorem dw_and1 {t : Ev → M Bool} (h : DT X W a t) : DWt X W (.BoolOp .And [a] pos) t := pw_and1 h
theorem dw_or1 {t : Ev → M Bool} (h : DT X W a t) : DWt X W (.BoolOp .Or [a] pos) t := pw_or1 h
theorem dt_w {t : Ev → M Bool} (h : DWt X W e t) : DT X W e t := PW.pt h
/-! ### and, or, not as values; conditional expressions -/
def eAnd (fa fb : Ev → M D) : Ev → M D := fun env => do
  let d ← fa env
  let b ← asB d
  if b = true then fb env else pure (.bl false)
def eOr (fa fb : Ev → M D) : Ev → M D := fun env => do
  let d ← fa env
  let b ← asB d
  if b = true then pure (.bl true) else fb env
theorem de_and {rest : List Expr} (ha : DE X W a fa) (hb : DE X W (.BoolOp .And (b :: rest) pos) fb) : DE X W (.BoolOp .And (a :: b :: rest) pos) (eAnd fa fb) := PE.imp' (pe_and ha hb) fun σ H Q h => by
  obtain ⟨w, env, hk, rfl, r, n, h⟩ := h
  refine ⟨w, env, hk, rfl, r, n, (Wp.bind h).imp fun x w1 a1 h1 v rv => ?_⟩
  obtain ⟨c, rfl, h2⟩ := asB_wp a1.rs (Wp.bind h1)
  simp only [Rep] at rv
  refine ⟨c, rv, ?_⟩
  cases c with
  | true => exact iteT ⟨w1, env, a1.k.trans hk, rfl, a1.rs, n.after a1, h2⟩
  | false => exact iteF (Wp.ok_ (a := D.bl false) a1.rs h2 _ (by simp [Rep]))
theorem de_or {rest : List Expr} (ha : DE X W a fa) (hb : DE X W (.BoolOp .Or (b :: rest) pos) fb) : DE X W (.BoolOp .Or (a :: b :: rest) pos) (eOr fa fb) := PE.imp' (pe_or ha hb) fun σ H Q h => by
  obtain ⟨w, env, hk, rfl, r, n, h⟩ := h
  refine ⟨w, env, hk, rfl, r, n, (Wp.bind h).imp fun x w1 a1 h1 v rv => ?_⟩
  obtain ⟨c, rfl, h2⟩ := asB_wp a1.rs (Wp.bind h1)
  simp only [Rep] at rv
  refine ⟨c, rv, ?_⟩
  cases c with
  | true => exact iteT (Wp.ok_ (a := D.bl true) a1.rs h2 _ (by simp [Rep]))
  | false => exact iteF ⟨w1, env, a1.k.trans hk, rfl, a1.rs, n.after a1, h2⟩
theorem de_one {op : BoolOp} (ha : DE X W a fa) : DE X W (.BoolOp op [a] pos) fa := pe_one ha
def eNot (fa : Ev → M D) : Ev → M D := fun env => do
  let d ← fa env
  let b ← asB d
  pure (.bl (!b))
theorem de_not (ha : DE X W a fa) : DE X W (.UnaryOp .Not a pos) (eNot fa) := PE.imp' (pe_not ha) fun σ H Q h => by
  obtain ⟨w, env, hk, rfl, r, n, h⟩ := h
  refine ⟨w, env, hk, rfl, r, n, (Wp.bind h).imp fun x w1 a1 h1 v rv => ?_⟩
  obtain ⟨c, rfl, h2⟩ := asB_wp a1.rs (Wp.bind h1)
  simp only [Rep] at rv
  exact ⟨c, rv, Wp.ok_ (a := D.bl (!c)) a1.rs h2 _ (by simp [Rep])⟩
def eIf (t : Ev → M Bool) (fa fb : Ev → M D) : Ev → M D := fun env => do
  let b ← t env
  if b = true then fa env else fb env
theorem de_if {t : Ev → M Bool} (ht : DT X W c t) (ha : DE X W a fa) (hb : DE X W b fb) : DE X W (.IfExp c a b pos) (eIf t fa fb) := PE.imp' (pe_ifExp ht ha hb) fun σ H Q h => by
  obtain ⟨w, env, hk, rfl, r, n, h⟩ := h
  refine ⟨w, env, hk, rfl, r, n, (Wp.bind h).imp fun x w1 a1 h1 => ?_⟩
  cases x with
  | true => exact iteT ⟨w1, env, a1.k.trans hk, rfl, a1.rs, n.after a1, h1⟩
  | false => exact iteF ⟨w1, env, a1.k.trans hk, rfl, a1.rs, n.after a1, h1⟩
/-! ### arguments, displays -/
theorem da_nil : DA X W [] [] := PA.imp' pa_nil fun σ H Q h => by
  obtain ⟨w, env, hk, rfl, r, n, h⟩ := h
  exact Wp.ok_ (a := ([] : List D)) r h [] rfl
theorem da_cons {es : List Expr} {fs : List (Ev → M D)} (ha : DE X W e fa) (hr : DA X W es fs) (hs : starEach (e :: es) X.env = (false, eval e X.env) :: starEach es X.env := by rfl) : DA X W (e :: es) (fa :: fs) := PA.imp' (pa_cons ha hr hs) fun σ H Q h => by
  obtain ⟨w, env, hk, rfl, r, n, h⟩ := h
  refine ⟨w, env, hk, rfl, r, n, (Wp.bind h).imp fun x w1 a1 h1 v rv => ?_⟩
  refine ⟨w1, env, a1.k.trans hk, rfl, a1.rs, n.after a1, (Wp.bind h1).imp fun ys w2 a2 h2 vs rvs => ?_⟩
  exact Wp.ok_ (a := x :: ys) a2.rs h2 _ ⟨v, vs, rfl, a2.rep rv, rvs⟩
theorem aSeq_len : ∀ {fs : List (Ev → M D)} {env : Ev} {st st' : Store} {ds : List D}, aSeq fs env st = .ok ds st' → ds.length = fs.length
  | [], env, st, st', ds, h => by
    have h : (Res.ok [] st : Res (List D)) = .ok ds st' := h
    cases h; rfl
  | f :: fs, env, st, st', ds, h => by
    have h : M.andThen (f env) (fun d => M.andThen (aSeq fs env) fun ds => M.ret (d :: ds)) st = .ok ds st' := h
    unfold M.andThen at h
    cases e1 : f env st with
    | ok d s1 =>
      rw [e1] at h
      simp only at h
      cases e2 : aSeq fs env s1 with
      | ok es s2 =>
        rw [e2] at h
        have h : (Res.ok (d :: es) s2 : Res (List D)) = .ok ds st' := h
        cases h
        rw [List.length_cons, List.length_cons, aSeq_len e2]
      | err c s2 => rw [e2] at h; cases h
      | bad => rw [e2] at h; cases h
    | err c s1 => rw [e1] at h; cases h
    | bad => rw [e1] at h; cases h
theorem reps_len {w : Wd} : ∀ {ds : List D} {vs : List V}, Reps w ds vs → vs.length = ds.length
  | [], vs, h => by simp only [Reps] at h; rw [h]; rfl
  | d :: ds, vs, h => by
    simp only [Reps] at h
    obtain ⟨x, xs, rfl, _, r⟩ := h
    rw [List.length_cons, List.length_cons, reps_len r]
/-- the arguments' list has as many -/
theorem wp_seq {w : Wd} {fs : List (Ev → M D)} {env : Ev} {P : List D → Wd → Prop} {V' : Str → Wd → Prop} (h : Wp w (aSeq fs env w.st) P V') : Wp w (aSeq fs env w.st) (fun ds w' => ds.length = fs.length ∧ P ds w') V' := by
  cases e : aSeq fs env w.st with
  | ok ds st' =>
    rw [e] at h
    exact fun w' a q => ⟨aSeq_len e, h w' a q⟩
  | err c st' => rw [e] at h; exact h
  | bad => rw [e] at h; exact h
def eTup (fs : List (Ev → M D)) : Ev → M D := fun env => do
  let ds ← aSeq fs env
  pure (.tup ds)
theorem de_tup {es : List Expr} {fs : List (Ev → M D)} {x1} (h : DA X W es fs) (hl : fs.length ≤ sizeLine := by exact Nat.le_of_ble_eq_true rfl) : DE X W (.Tuple es x1 pos) (eTup fs) := PE.imp' (pe_tup h) fun σ H Q h => by
  obtain ⟨w, env, hk, rfl, r, n, h⟩ := h
  refine ⟨w, env, hk, rfl, r, n, (wp_seq (Wp.bind h)).imp fun ds w1 a1 h1 vs rv => ⟨by rw [reps_len rv, h1.1]; exact hl, fun p hp => ?_⟩⟩
  have a2 : Aft w1 ⟨w1.K, w1.m, w1.st, upd w1.H p (.tup vs), w1.rv⟩ := aft_new a1.rs hp
  refine h1.2 _ a2 rfl (.ref p) ?_
  simp only [Rep]
  exact ⟨p, vs, rfl, SqT.of upd_same, a2.reps rv, by rw [h1.1]; exact hl⟩
/-- a new list at a free address: not owned -/
theorem fz_new {w : Wd} (r : RS w) {p : Addr} {o : HO} (hp : w.H p = none) : Fz ⟨w.K, w.m, w.st, upd w.H p o, w.rv⟩ p o := ⟨upd_same, fun ⟨i, c, e, l, q⟩ => by
  obtain ⟨u, hu, _⟩ := live_at (rv := w.rv) r e l
  rw [q, hp] at hu
  cases hu⟩
theorem fr_new {w : Wd} (r : RS w) {p : Addr} {o : HO} (hp : w.H p = none) : Fr ⟨w.K, w.m, w.st, upd w.H p o, w.rv⟩ p o := ⟨fz_new r hp, fun z => r.rvs p z hp⟩
theorem rep_new {w : Wd} (r : RS w) {p : Addr} {ds : List D} {vs : List V} (hp : w.H p = none) (h : Reps w ds vs) (hl : ds.length ≤ sizeLine) : Rep ⟨w.K, w.m, w.st, upd w.H p (.lst vs), w.rv⟩ (.lst ds) (.ref p) := by
  simp only [Rep]
  exact ⟨p, vs, rfl, fr_new r hp, (aft_new r hp).reps h, hl⟩
theorem rep_newT {w : Wd} (r : RS w) {p : Addr} {ds : List D} {vs : List V} (hp : w.H p = none) (h : Reps w ds vs) (hl : ds.length ≤ sizeLine) : Rep ⟨w.K, w.m, w.st, upd w.H p (.tup vs), w.rv⟩ (.tup ds) (.ref p) := by
  simp only [Rep]
  exact ⟨p, vs, rfl, SqT.of upd_same, (aft_new r hp).reps h, hl⟩
def eLst (fs : List (Ev → M D)) : Ev → M D := fun env => do
  let ds ← aSeq fs env
  pure (.lst ds)
theorem de_lst {es : List Expr} {fs : List (Ev → M D)} (h : DA X W es fs) (hl : fs.length ≤ sizeLine := by exact Nat.le_of_ble_eq_true rfl) : DE X W (.List es pos) (eLst fs) := PE.imp' (pe_lst h) fun σ H Q h => by
  obtain ⟨w, env, hk, rfl, r, n, h⟩ := h
  refine ⟨w, env, hk, rfl, r, n, (wp_seq (Wp.bind h)).imp fun ds w1 a1 h1 vs rv => ⟨by rw [reps_len rv, h1.1]; exact hl, fun p hp => ?_⟩⟩
  exact h1.2 _ (aft_new a1.rs hp) rfl (.ref p) (rep_new a1.rs hp rv (by rw [h1.1]; exact hl))
def newCell (c : Cell) : M D := fun st => .ok (.cell st.length) (st ++ [c])
def eNewL (fs : List (Ev → M D)) : Ev → M D := fun env => do
  let ds ← aSeq fs env
  newCell (.lst ds)
/-- .. that will be changed -/
theorem de_newL {es : List Expr} {fs : List (Ev → M D)} (h : DA X W es fs) (hl : fs.length ≤ sizeLine := by exact Nat.le_of_ble_eq_true rfl) : DE X W (.List es pos) (eNewL fs) := PE.imp' (pe_lst h) fun σ H Q h => by
  obtain ⟨w, env, hk, rfl, r, n, h⟩ := h
  refine ⟨w, env, hk, rfl, r, n, (wp_seq (Wp.bind h)).imp fun ds w1 a1 h1 vs rv => ⟨by rw [reps_len rv, h1.1]; exact hl, fun p hp => ?_⟩⟩
  have b := bears_cell (K := w1.K) (m := w1.m) (st := w1.st) (rv := w1.rv) (c := .lst ds) (same_upd (H := w1.H) (p := p) (o := .lst vs) hp) hp
  have a2 : Aft w1 ⟨w1.K, mpNew w1.m w1.st.length p, w1.st ++ [.lst ds], upd w1.H p (.lst vs), w1.rv⟩ := aft_cell a1.rs (same_upd hp) hp ⟨vs, upd_same, b.reps _ _ rv, by rw [h1.1]; exact hl⟩
  refine h1.2 _ a2 rfl (.ref p) ?_
  simp only [Rep]
  exact ⟨by rw [mpNew_new], by simp⟩
/-! ### calls of built-in functions and types -/
def eB (g : List D → Store → Option D) (fs : List (Ev → M D)) : Ev → M D := fun env => do
  let ds ← aSeq fs env
  lift (g ds)
theorem callB {es : List Expr} {fs : List (Ev → M D)} {g : List D → Store → Option D} {σ : L2.St} {H : Hp} {Q : VK} (h : rdE X.K W (eB g fs) σ H Q) : tCB (rdC X.K g) (rdA X.K W (aSeq fs)) σ H Q := by
  obtain ⟨w, env, hk, rfl, r, n, h⟩ := h
  refine ⟨w, env, hk, rfl, r, n, (Wp.bind h).imp fun ds w1 a1 h1 vs rv => ?_⟩
  exact ⟨w1, ds, a1.k.trans hk, rfl, a1.rs, rv, Wq.of h1⟩
theorem de_callB {es : List Expr} {fs : List (Ev → M D)} {g : List D → Store → Option D} {x : Str} {p : Pos} {id : String} (hc : CallD X (.builtin id) g) (hg : Gl X x) (hm : X.mg x = none) (hv : bootBuiltins x = some (.builtin id)) (ha : DA X W (e :: es) fs)
    (hn : x ≠ "__name__" := by decide) (hdb : (x == ("__debug__" : Str)) = false := by decide) (he : starEach (e :: es) X.env = (false, eval e X.env) :: starEach es X.env := by rfl) (hpl : (backTo pos (starEach es X.env)).any (·.1) = false := by rfl) :
    DE X W (.Call (.Name x p) (e :: es) [] pos) (eB g fs) := PE.imp' (pe_callB hc hg hm hv ha hn hdb he hpl) fun _ _ _ h => callB (es := es) h
theorem de_callTy {es : List Expr} {fs : List (Ev → M D)} {g : List D → Store → Option D} {x : Str} {p : Pos} {T : String} (hc : CallD X (.type T) g) (hg : Gl X x) (hm : X.mg x = none) (hv : bootBuiltins x = some (.type T)) (ha : DA X W (e :: es) fs)
    (hn : x ≠ "__name__" := by decide) (hdb : (x == ("__debug__" : Str)) = false := by decide) (he : starEach (e :: es) X.env = (false, eval e X.env) :: starEach es X.env := by rfl) (hpl : (backTo pos (starEach es X.env)).any (·.1) = false := by rfl) :
    DE X W (.Call (.Name x p) (e :: es) [] pos) (eB g fs) := PE.imp' (pe_callTy hc hg hm hv ha hn hdb he hpl) fun _ _ _ h => callB (es := es) h
end
end G
end

section
set_option Elab.async false
set_option linter.all false
set_option autoImplicit false
set_option maxRecDepth 100000
set_option maxHeartbeats 1000000
namespace G
open PySem PySem.Spec PyProof.Rows L2
/-! ## values as data -/
mutual
def D.data : D → Option PyData
  | .non => some .none
  | .bl b => some (.bool b)
  | .int i => some (.int i)
  | .str x => some (.str x)
  | .tup l => (D.datas l).map .tuple
  | .lst l => (D.datas l).map .list
  | .cell _ => none
  | .dct0 => none
  | .exc _ => none
def D.datas : List D → Option (List PyData)
  | [] => some []
  | d :: ds => match D.data d, D.datas ds with
    | some x, some xs => some (x :: xs)
    | _, _ => none
end
mutual
theorem dp_of {w : Wd} : ∀ (d : D) (v : V) (p : PyData), Rep w d v → d.data = some p → Dp w.K w.H v p
  | .non, v, p, h, e => by simp only [Rep] at h; simp only [D.data] at e; cases e; subst h; exact .non
  | .bl b, v, p, h, e => by simp only [Rep] at h; simp only [D.data] at e; cases e; subst h; exact .bl b
  | .int i, v, p, h, e => by simp only [Rep] at h; simp only [D.data] at e; cases e; subst h; exact .int i
  | .str x, v, p, h, e => by simp only [Rep] at h; simp only [D.data] at e; cases e; subst h; exact .str x
  | .tup l, v, p, h, e => by
    simp only [Rep] at h
    simp only [D.data] at e
    obtain ⟨a, xs, rfl, s, r, hl⟩ := h
    cases q : D.datas l with
    | none => rw [q] at e; cases e
    | some ps => rw [q] at e; cases e; exact .tup s (dps_of l xs ps r q)
  | .lst l, v, p, h, e => by
    simp only [Rep] at h
    simp only [D.data] at e
    obtain ⟨a, xs, rfl, s, r, hl⟩ := h
    cases q : D.datas l with
    | none => rw [q] at e; cases e
    | some ps => rw [q] at e; cases e; exact .lst (SqL.of s.1.1) (dps_of l xs ps r q)
  | .cell _, v, p, h, e => by simp only [D.data] at e; cases e
  | .dct0, v, p, h, e => by simp only [D.data] at e; cases e
  | .exc _, v, p, h, e => by simp only [D.data] at e; cases e
theorem dps_of {w : Wd} : ∀ (l : List D) (vs : List V) (ps : List PyData), Reps w l vs → D.datas l = some ps → DpAll w.K w.H vs ps
  | [], vs, ps, h, e => by simp only [Reps] at h; simp only [D.datas] at e; cases e; subst h; exact .nil
  | d :: ds, vs, ps, h, e => by
    simp only [Reps] at h
    simp only [D.datas] at e
    obtain ⟨x, xs, rfl, r, rs⟩ := h
    cases q1 : D.data d with
    | none => rw [q1] at e; cases e
    | some p1 =>
      cases q2 : D.datas ds with
      | none => rw [q1, q2] at e; cases e
      | some ps1 => rw [q1, q2] at e; cases e; exact .cons (dp_of d x p1 r q1) (dps_of ds xs ps1 rs q2)
end
/-- the answer is at hand: nothing is laid -/
theorem Wq.here {w : Wd} {o : Option D} {Q : VK} (h : Wq w o Q) (rs : RS w) {d : D} {v : V} (e : o = some d) (r : Rep w d v) : Q v w.H := by
  obtain ⟨d', e', k⟩ := h
  rw [e] at e'
  cases e'
  exact k w (.refl rs) rfl v r
theorem Wq.new {w : Wd} {o : Option D} {Q : VK} (h : Wq w o Q) (rs : RS w) {d : D} {p : Addr} {ho : HO} (hp : w.H p = none) (e : o = some d) (r : Rep ⟨w.K, w.m, w.st, upd w.H p ho, w.rv⟩ d (.ref p)) : Q (.ref p) (upd w.H p ho) := by
  obtain ⟨d', e', k⟩ := h
  rw [e] at e'
  cases e'
  exact k _ (aft_new rs hp) rfl _ r
theorem rep_bl {w : Wd} (b : Bool) : Rep w (.bl b) (.bl b) := by simp only [Rep]
theorem rep_int {w : Wd} (b : Int) : Rep w (.int b) (.int b) := by simp only [Rep]
theorem rep_str {w : Wd} (b : Str) : Rep w (.str b) (.str b) := by simp only [Rep]
theorem rep_non {w : Wd} : Rep w .non .non := by simp only [Rep]
theorem reps_app {w : Wd} : ∀ {ds es : List D} {xs ys : List V}, Reps w ds xs → Reps w es ys → Reps w (ds ++ es) (xs ++ ys)
  | [], es, xs, ys, h, k => by simp only [Reps] at h; subst h; exact k
  | d :: ds, es, xs, ys, h, k => by
    simp only [Reps] at h
    obtain ⟨x, xs, rfl, r, rs⟩ := h
    show Reps w (d :: (ds ++ es)) (x :: (xs ++ ys))
    simp only [Reps]
    exact ⟨x, xs ++ ys, rfl, r, reps_app rs k⟩
theorem reps_at {w : Wd} : ∀ {ds : List D} {xs : List V} {i : Nat} {d : D}, Reps w ds xs → ds[i]? = some d → ∃ x, xs[i]? = some x ∧ Rep w d x
  | [], xs, i, d, h, e => by simp at e
  | d :: ds, xs, 0, d', h, e => by
    simp only [Reps] at h
    obtain ⟨x, xs, rfl, r, rs⟩ := h
    simp at e; subst e
    exact ⟨x, rfl, r⟩
  | d :: ds, xs, i + 1, d', h, e => by
    simp only [Reps] at h
    obtain ⟨x, xs, rfl, r, rs⟩ := h
    obtain ⟨y, e2, r2⟩ := reps_at (i := i) rs (by simpa using e)
    exact ⟨y, by simpa using e2, r2⟩
theorem reps_drop {w : Wd} : ∀ {ds : List D} {xs : List V} (n : Nat), Reps w ds xs → Reps w (ds.drop n) (xs.drop n)
  | ds, xs, 0, h => h
  | [], xs, n + 1, h => by simp only [Reps] at h; subst h; simp [Reps]
  | d :: ds, xs, n + 1, h => by
    simp only [Reps] at h
    obtain ⟨x, xs, rfl, r, rs⟩ := h
    exact reps_drop n rs
theorem reps_take {w : Wd} : ∀ {ds : List D} {xs : List V} (n : Nat), Reps w ds xs → Reps w (ds.take n) (xs.take n)
  | ds, xs, 0, h => by simp [Reps]
  | [], xs, n + 1, h => by simp only [Reps] at h; subst h; simp [Reps]
  | d :: ds, xs, n + 1, h => by
    simp only [Reps] at h
    obtain ⟨x, xs, rfl, r, rs⟩ := h
    show Reps w (d :: ds.take n) (x :: xs.take n)
    simp only [Reps]
    exact ⟨x, xs.take n, rfl, r, reps_take n rs⟩
theorem reps_get {w : Wd} {ds : List D} {xs : List V} {i : Nat} {x : V} (h : Reps w ds xs) (e : xs[i]? = some x) : ∃ d, ds[i]? = some d ∧ Rep w d x := by
  have hl := reps_len h
  have hi : i < xs.length := (List.getElem?_eq_some_iff.mp e).1
  obtain ⟨d, hd⟩ : ∃ d, ds[i]? = some d := ⟨ds[i]'(by omega), by simp [hl ▸ hi]⟩
  obtain ⟨y, e2, r⟩ := reps_at h hd
  rw [e] at e2
  cases e2
  exact ⟨d, hd, r⟩
/-! ## operators -/
def dAdd : D → D → Store → Option D
  | .int i, .int j, _ => some (.int (i + j))
  | .str x, .str y, _ => if x.length + y.length ≤ sizeLine then some (.str (x ++ y)) else none
  | .tup x, .tup y, _ => if x.length + y.length ≤ sizeLine then some (.tup (x ++ y)) else none
  | .lst x, .lst y, _ => if x.length + y.length ≤ sizeLine then some (.lst (x ++ y)) else none
  | _, _, _ => none
def dSub : D → D → Store → Option D
  | .int i, .int j, _ => some (.int (i - j))
  | _, _, _ => none
def mulOk (i j : Int) : Bool := decide (i.natAbs.log2 + j.natAbs.log2 < 1000000)
def dMul : D → D → Store → Option D
  | .int i, .int j, _ => if mulOk i j then some (.int (i * j)) else none
  | _, _, _ => none
def dMod : D → D → Store → Option D
  | .int i, .int j, _ => if 0 < j then some (.int (i % j)) else none
  | _, _, _ => none
def divOk (j : Int) : Bool := decide (0 < j ∧ j.natAbs.log2 < 9000)
def dDiv : D → D → Store → Option D
  | .int i, .int j, _ => if divOk j then some (.int (i / j)) else none
  | _, _, _ => none
def powOk (i j : Int) : Bool := decide (0 ≤ j ∧ j ≤ 1000000 ∧ i.natAbs < 2 ^ 64)
def dPow : D → D → Store → Option D
  | .int i, .int j, _ => if powOk i j then some (.int (i ^ j.toNat)) else none
  | _, _, _ => none
def dCmpI (p : Int → Int → Bool) : D → D → Store → Option D
  | .int i, .int j, _ => some (.bl (p i j))
  | _, _, _ => none
def dLt := dCmpI fun i j => decide (i < j)
def dLe := dCmpI fun i j => decide (i ≤ j)
def dGt := dCmpI fun i j => decide (j < i)
def dGe := dCmpI fun i j => decide (j ≤ i)
/-- == of data, at any depth -/
def eqD (a b : D) : Option Bool := match a.data, b.data with
  | some p, some q => if SeqAt.shaped p && SeqAt.shaped q then some (PyData.eqv p q) else none
  | _, _ => none
def dEq : D → D → Store → Option D := fun a b _ => (eqD a b).map .bl
def dNe : D → D → Store → Option D := fun a b _ => (eqD a b).map fun r => .bl (!r)
def dIsN : D → D → Store → Option D
  | .non, .non, _ => some (.bl true)
  | .exc _, .non, _ => none
  | _, .non, _ => some (.bl false)
  | _, _, _ => none
def dNotN : D → D → Store → Option D
  | .non, .non, _ => some (.bl false)
  | .exc _, .non, _ => none
  | _, .non, _ => some (.bl true)
  | _, _, _ => none
/-- x in a tuple, a list of data -/
def inD (x y : D) : Option Bool := match x.data, y.data with
  | some p, some (.list qs) => if SeqAt.shaped p && SeqAt.shaped (.list qs) then some (qs.any fun z => PyData.eqv z p) else none
  | some p, some (.tuple qs) => if SeqAt.shaped p && SeqAt.shaped (.tuple qs) then some (qs.any fun z => PyData.eqv z p) else none
  | _, _ => none
def dIn : D → D → Store → Option D := fun a b _ => (inD a b).map .bl
def dNotIn : D → D → Store → Option D := fun a b _ => (inD a b).map fun r => .bl (!r)
def dNeg : D → Store → Option D
  | .int i, _ => some (.int (-i))
  | _, _ => none
section
variable {X : Cx}
theorem wq_some {w : Wd} {o : Option D} {Q : VK} (h : Wq w o Q) : ∃ d, o = some d := let ⟨d, e, _⟩ := h; ⟨d, e⟩
theorem od_sub : OpD X (binaryOp .Sub) dSub := OpR.imp' op_sub fun x y H Q h => by
  obtain ⟨w, a, b, hk, rfl, rs, ra, rb, q⟩ := h
  obtain ⟨d, e⟩ := wq_some q
  unfold dSub at e
  split at e
  · rename_i i j
    simp only [Rep] at ra rb
    exact ⟨i, j, ra, rb, q.here rs rfl (rep_int _)⟩
  · cases e
theorem od_cmp {op : CmpOp} {p : Int → Int → Bool} (h : OpR X (compareOp op) (rI0 fun i j => .bl (p i j))) : OpD X (compareOp op) (dCmpI p) := OpR.imp' h fun x y H Q h => by
  obtain ⟨w, a, b, hk, rfl, rs, ra, rb, q⟩ := h
  obtain ⟨d, e⟩ := wq_some q
  unfold dCmpI at e
  split at e
  · rename_i i j
    simp only [Rep] at ra rb
    exact ⟨i, j, ra, rb, q.here rs rfl (rep_bl _)⟩
  · cases e
theorem od_lt : OpD X (compareOp .Lt) dLt := od_cmp op_lt
theorem od_le : OpD X (compareOp .LtE) dLe := od_cmp op_le
theorem od_gt : OpD X (compareOp .Gt) dGt := od_cmp op_gt
theorem od_ge : OpD X (compareOp .GtE) dGe := od_cmp op_ge
theorem od_mul : OpD X (binaryOp .Mult) dMul := OpR.imp' op_mulW fun x y H Q h => by
  obtain ⟨w, a, b, hk, rfl, rs, ra, rb, q⟩ := h
  obtain ⟨d, e⟩ := wq_some q
  unfold dMul at e
  split at e
  · rename_i i j
    split at e
    · rename_i hc
      simp only [Rep] at ra rb
      exact ⟨i, j, ra, rb, (by have z := of_decide_eq_true hc; exact z), q.here rs (if_pos hc) (rep_int _)⟩
    · cases e
  · cases e
theorem od_mod : OpD X (binaryOp .Mod) dMod := OpR.imp' op_mod fun x y H Q h => by
  obtain ⟨w, a, b, hk, rfl, rs, ra, rb, q⟩ := h
  obtain ⟨d, e⟩ := wq_some q
  unfold dMod at e
  split at e
  · rename_i i j
    split at e
    · rename_i hc
      simp only [Rep] at ra rb
      exact ⟨i, j, ra, rb, hc, q.here rs (if_pos hc) (rep_int _)⟩
    · cases e
  · cases e
theorem od_div : OpD X (binaryOp .FloorDiv) dDiv := OpR.imp' op_fdivW fun x y H Q h => by
  obtain ⟨w, a, b, hk, rfl, rs, ra, rb, q⟩ := h
  obtain ⟨d, e⟩ := wq_some q
  unfold dDiv at e
  split at e
  · rename_i i j
    split at e
    · rename_i hc
      simp only [Rep] at ra rb
      exact ⟨i, j, ra, rb, (by have z := of_decide_eq_true hc; exact z), q.here rs (if_pos hc) (rep_int _)⟩
    · cases e
  · cases e
theorem od_pow : OpD X (binaryOp .Pow) dPow := OpR.imp' op_pow fun x y H Q h => by
  obtain ⟨w, a, b, hk, rfl, rs, ra, rb, q⟩ := h
  obtain ⟨d, e⟩ := wq_some q
  unfold dPow at e
  split at e
  · rename_i i j
    split at e
    · rename_i hc
      simp only [Rep] at ra rb
      exact ⟨i, j, ra, rb, (by have z := of_decide_eq_true hc; exact z), q.here rs (if_pos hc) (rep_int _)⟩
    · cases e
  · cases e
theorem od_eq (hu : X.A.units + 64 < cLine) : OpD X (compareOp .Eq) dEq := OpR.imp' (op_eqD hu) fun x y H Q h => by
  obtain ⟨w, a, b, hk, rfl, rs, ra, rb, q⟩ := h
  obtain ⟨d, e⟩ := wq_some q
  unfold dEq eqD at e
  split at e
  · rename_i p1 p2 e1 e2
    split at e
    · rename_i hc
      obtain ⟨s1, s2⟩ := Bool.and_eq_true_iff.mp hc
      refine ⟨p1, p2, by rw [← hk]; exact dp_of a x p1 ra e1, by rw [← hk]; exact dp_of b y p2 rb e2, s1, s2, q.here rs ?_ (rep_bl _)⟩
      unfold dEq eqD
      rw [e1, e2]
      simp only [hc, if_true]
      rfl
    · cases e
  · cases e
theorem od_ne (hu : X.A.units + 64 < cLine) : OpD X (compareOp .NotEq) dNe := OpR.imp' (op_neD hu) fun x y H Q h => by
  obtain ⟨w, a, b, hk, rfl, rs, ra, rb, q⟩ := h
  obtain ⟨d, e⟩ := wq_some q
  unfold dNe eqD at e
  split at e
  · rename_i p1 p2 e1 e2
    split at e
    · rename_i hc
      obtain ⟨s1, s2⟩ := Bool.and_eq_true_iff.mp hc
      refine ⟨p1, p2, by rw [← hk]; exact dp_of a x p1 ra e1, by rw [← hk]; exact dp_of b y p2 rb e2, s1, s2, q.here rs ?_ (rep_bl _)⟩
      unfold dNe eqD
      rw [e1, e2]
      simp only [hc, if_true]
      rfl
    · cases e
  · cases e
theorem ref_of {w : Wd} {d : D} {v : V} (r : Rep w d v) (h : d ≠ .non) : v ≠ .non := by
  cases d with
  | non => exact absurd rfl h
  | bl _ => simp only [Rep] at r; subst r; exact fun z => nomatch z
  | int _ => simp only [Rep] at r; subst r; exact fun z => nomatch z
  | str _ => simp only [Rep] at r; subst r; exact fun z => nomatch z
  | tup _ => simp only [Rep] at r; obtain ⟨a, xs, rfl, _⟩ := r; exact fun z => nomatch z
  | lst _ => simp only [Rep] at r; obtain ⟨a, xs, rfl, _⟩ := r; exact fun z => nomatch z
  | cell _ => simp only [Rep] at r; rw [r.1]; exact fun z => nomatch z
  | dct0 => simp only [Rep] at r; obtain ⟨a, rfl, _⟩ := r; exact fun z => nomatch z
  | exc _ => simp only [Rep] at r
theorem od_isN : OpD X (compareOp .Is) dIsN := OpR.imp' op_isN fun x y H Q h => by
  obtain ⟨w, a, b, hk, rfl, rs, ra, rb, q⟩ := h
  obtain ⟨d, e⟩ := wq_some q
  have hb : b = .non := by cases b <;> first | rfl | (cases a <;> cases e)
  subst hb
  simp only [Rep] at rb
  refine ⟨rb, ?_⟩
  by_cases ha : a = .non
  · subst ha
    simp only [Rep] at ra
    subst ra
    exact q.here rs rfl (rep_bl _)
  · rw [decide_eq_false (ref_of ra ha)]
    refine q.here rs ?_ (rep_bl _)
    cases a <;> first | rfl | exact absurd rfl ha | (simp only [Rep] at ra)
theorem od_notN : OpD X (compareOp .IsNot) dNotN := OpR.imp' op_notN fun x y H Q h => by
  obtain ⟨w, a, b, hk, rfl, rs, ra, rb, q⟩ := h
  obtain ⟨d, e⟩ := wq_some q
  have hb : b = .non := by cases b <;> first | rfl | (cases a <;> cases e)
  subst hb
  simp only [Rep] at rb
  refine ⟨rb, ?_⟩
  by_cases ha : a = .non
  · subst ha
    simp only [Rep] at ra
    subst ra
    exact q.here rs rfl (rep_bl _)
  · rw [decide_eq_false (ref_of ra ha)]
    refine q.here rs ?_ (rep_bl _)
    cases a <;> first | rfl | exact absurd rfl ha | (simp only [Rep] at ra)
theorem od_add : OpD X (binaryOp .Add) dAdd := OpR.imp' (((op_add (X := X)).or op_add_str).or ((op_catA).or op_cat)) fun x y H Q h => by
  obtain ⟨w, a, b, hk, rfl, rs, ra, rb, q⟩ := h
  obtain ⟨d, e⟩ := wq_some q
  unfold dAdd at e
  split at e
  · rename_i i j
    simp only [Rep] at ra rb
    exact .inl (.inl ⟨i, j, ra, rb, q.here rs rfl (rep_int _)⟩)
  · rename_i i j
    split at e
    · rename_i hc
      simp only [Rep] at ra rb
      exact .inl (.inr ⟨i, j, ra, rb, hc, q.here rs (if_pos hc) (rep_str _)⟩)
    · cases e
  · rename_i ds es
    split at e
    · rename_i hc
      have e0 : dAdd (.tup ds) (.tup es) w.st = some (.tup (ds ++ es)) := if_pos hc
      have ra0 := ra
      have rb0 := rb
      simp only [Rep] at ra rb
      obtain ⟨a, xs, rfl, s1, r1, l1⟩ := ra
      obtain ⟨b, ys, rfl, s2, r2, l2⟩ := rb
      refine .inr (.inl ⟨a, b, xs, ys, rfl, rfl, by rw [← hk]; exact s1, by rw [← hk]; exact s2, by rw [reps_len r1, reps_len r2]; exact hc, fun hx => ?_, fun _ hy => ?_, fun _ _ p hp => ?_⟩)
      · subst hx
        have : ds = [] := List.length_eq_zero_iff.mp (by rw [← reps_len r1]; rfl)
        subst this
        exact q.here rs e0 rb0
      · subst hy
        have : es = [] := List.length_eq_zero_iff.mp (by rw [← reps_len r2]; rfl)
        subst this
        rw [List.append_nil] at e0
        exact q.here rs e0 ra0
      · exact q.new rs hp e0 (rep_newT rs hp (reps_app r1 r2) (by rw [List.length_append]; exact hc))
    · cases e
  · rename_i ds es
    split at e
    · rename_i hc
      have e0 : dAdd (.lst ds) (.lst es) w.st = some (.lst (ds ++ es)) := if_pos hc
      simp only [Rep] at ra rb
      obtain ⟨a, xs, rfl, s1, r1, l1⟩ := ra
      obtain ⟨b, ys, rfl, s2, r2, l2⟩ := rb
      exact .inr (.inr ⟨a, b, xs, ys, rfl, rfl, s1.1.1, s2.1.1, by rw [reps_len r1, reps_len r2]; exact hc, fun p hp => q.new rs hp e0 (rep_new rs hp (reps_app r1 r2) (by rw [List.length_append]; exact hc))⟩)
    · cases e
  · cases e
/-- x in a tuple of data -/
def rInT (K : PySem.W.Frag) (neg : Bool) : R2 := fun x y H Q => ∃ d ds, Dp K H x d ∧ Dp K H y (.tuple ds) ∧ SeqAt.shaped d = true ∧ SeqAt.shaped (.tuple ds) = true ∧ Q (.bl (if neg = true then !ds.any (fun z => PyData.eqv z d) else ds.any fun z => PyData.eqv z d)) H
theorem op_inT (hu : X.A.units + 65 < cLine) : OpR X (compareOp .In) (rInT X.K false) := by
  intro pins s σ H x y v u Q I rx ry h
  obtain ⟨d, ds, hd, he, sd, se, q⟩ := h
  obtain ⟨as, r1⟩ := Dp.reads I d x v hd rx
  obtain ⟨bs, r2⟩ := Dp.reads I (.tuple ds) y u he ry
  exact SeqAt.in_tuple_reads r2 r1 (SeqAt.canLay_of_shaped se) (SeqAt.canLay_of_shaped sd) (room_in_shaped sd hu) ⟨.bl _, H, I, rfl, q⟩
theorem op_notInT (hu : X.A.units + 65 < cLine) : OpR X (compareOp .NotIn) (rInT X.K true) := by
  intro pins s σ H x y v u Q I rx ry h
  obtain ⟨d, ds, hd, he, sd, se, q⟩ := h
  obtain ⟨as, r1⟩ := Dp.reads I d x v hd rx
  obtain ⟨bs, r2⟩ := Dp.reads I (.tuple ds) y u he ry
  exact SeqAt.notIn_tuple_reads r2 r1 (SeqAt.canLay_of_shaped se) (SeqAt.canLay_of_shaped sd) (room_in_shaped sd hu) ⟨.bl _, H, I, rfl, q⟩
theorem od_in (hu : X.A.units + 65 < cLine) : OpD X (compareOp .In) dIn := OpR.imp' ((op_inD hu).or (op_inT hu)) fun x y H Q h => by
  obtain ⟨w, a, b, hk, rfl, rs, ra, rb, q⟩ := h
  obtain ⟨d, e⟩ := wq_some q
  unfold dIn inD at e
  split at e
  · rename_i p qs e1 e2
    split at e
    · rename_i hc
      obtain ⟨s1, s2⟩ := Bool.and_eq_true_iff.mp hc
      refine .inl ⟨p, qs, by rw [← hk]; exact dp_of a x p ra e1, by rw [← hk]; exact dp_of b y _ rb e2, s1, s2, q.here rs ?_ (rep_bl _)⟩
      unfold dIn inD
      rw [e1, e2]
      simp only [hc, if_true]
      rfl
    · cases e
  · rename_i p qs e1 e2
    split at e
    · rename_i hc
      obtain ⟨s1, s2⟩ := Bool.and_eq_true_iff.mp hc
      refine .inr ⟨p, qs, by rw [← hk]; exact dp_of a x p ra e1, by rw [← hk]; exact dp_of b y _ rb e2, s1, s2, q.here rs ?_ (rep_bl _)⟩
      unfold dIn inD
      rw [e1, e2]
      simp only [hc, if_true]
      rfl
    · cases e
  · cases e
theorem od_notIn (hu : X.A.units + 65 < cLine) : OpD X (compareOp .NotIn) dNotIn := OpR.imp' ((op_notInD hu).or (op_notInT hu)) fun x y H Q h => by
  obtain ⟨w, a, b, hk, rfl, rs, ra, rb, q⟩ := h
  obtain ⟨d, e⟩ := wq_some q
  unfold dNotIn inD at e
  split at e
  · rename_i p qs e1 e2
    split at e
    · rename_i hc
      obtain ⟨s1, s2⟩ := Bool.and_eq_true_iff.mp hc
      refine .inl ⟨p, qs, by rw [← hk]; exact dp_of a x p ra e1, by rw [← hk]; exact dp_of b y _ rb e2, s1, s2, q.here rs ?_ (rep_bl _)⟩
      unfold dNotIn inD
      rw [e1, e2]
      simp only [hc, if_true]
      rfl
    · cases e
  · rename_i p qs e1 e2
    split at e
    · rename_i hc
      obtain ⟨s1, s2⟩ := Bool.and_eq_true_iff.mp hc
      refine .inr ⟨p, qs, by rw [← hk]; exact dp_of a x p ra e1, by rw [← hk]; exact dp_of b y _ rb e2, s1, s2, q.here rs ?_ (rep_bl _)⟩
      unfold dNotIn inD
      rw [e1, e2]
      simp only [hc, if_true]
      rfl
    · cases e
  · cases e
theorem ud_neg : UnR X (unaryOp .USub) (rdU X.K dNeg) := UnR.imp' un_neg fun x H Q h => by
  obtain ⟨w, a, hk, rfl, rs, ra, q⟩ := h
  obtain ⟨d, e⟩ := wq_some q
  unfold dNeg at e
  split at e
  · rename_i i
    simp only [Rep] at ra
    exact ⟨i, ra, q.here rs rfl (rep_int _)⟩
  · cases e
end
end G
end

section
set_option Elab.async false
set_option linter.all false
set_option autoImplicit false
set_option maxRecDepth 100000
set_option maxHeartbeats 1000000
namespace G
open PySem PySem.Spec PyProof.Rows L2
/-! ## subscripts, slices -/
theorem atI_reps {w : Wd} {ds : List D} {xs : List V} {i : Int} {d : D} (h : Reps w ds xs) (e : atI ds i = some d) : ∃ x, atI xs i = some x ∧ Rep w d x := by
  unfold atI at e ⊢
  rw [reps_len h]
  cases q : ixN ds.length i with
  | none => rw [q] at e; cases e
  | some j =>
    rw [q] at e
    obtain ⟨x, e2, r⟩ := reps_at h (i := j) (d := d) e
    exact ⟨x, e2, r⟩
def cellL (st : Store) (i : Nat) : Option (List D) := match st[i]? with
  | some (.lst l) => some l
  | some (.ro l) => some l
  | _ => none
/-- a list's cell that is read -/
theorem cell_sq {w : Wd} (rs : RS w) {i : Nat} {l : List D} (h : cellL w.st i = some l) : ∃ xs, SqL w.K w.H (w.m i) xs ∧ Reps w l xs ∧ l.length ≤ sizeLine := by
  unfold cellL at h
  split at h
  · rename_i l' e
    cases h
    obtain ⟨xs, e1, r1, z⟩ := rs.cells i _ e
    exact ⟨xs, SqL.of e1, r1, z⟩
  · rename_i l' e
    cases h
    obtain ⟨xs, e1, r1, z⟩ := rs.cells i _ e
    exact ⟨xs, e1.sq, r1, z⟩
  · cases h
def dIdx : D → D → Store → Option D
  | .tup l, .int i, _ => atI l i
  | .lst l, .int i, _ => atI l i
  | .cell c, .int i, st => (cellL st c).bind fun l => atI l i
  | .str z, .int i, _ => if z.length ≤ sizeLine then (atI z.cps.toList i).map fun c => .str ⟨#[c]⟩ else none
  | _, _, _ => none
section
variable {X : Cx} {W : XW} {e a b c : Expr} {pos : Pos} {fa fb fc : Ev → M D}
theorem IxR.imp' {r r' : R2} (h : IxR X r) (k : ∀ x y H Q, r' x y H Q → r x y H Q) : IxR X r' := fun va sl pins s σ H x y v u Q I rx ry z => h va sl pins s σ H x y v u Q I rx ry (k _ _ _ _ z)
theorem xd_idx : IxR X (rdO X.K dIdx) := IxR.imp' ((ix_list (X := X)).or (ix_tup.or ix_str)) fun x y H Q h => by
  obtain ⟨w, a, b, hk, rfl, rs, ra, rb, q⟩ := h
  obtain ⟨d, e⟩ := wq_some q
  unfold dIdx at e
  split at e
  · rename_i l i
    simp only [Rep] at ra rb
    obtain ⟨a, xs, rfl, s1, r1, l1⟩ := ra
    obtain ⟨z, e2, r2⟩ := atI_reps r1 e
    exact .inr (.inl ⟨a, xs, i, z, rfl, rb, by rw [← hk]; exact s1, e2, q.here rs e r2⟩)
  · rename_i l i
    simp only [Rep] at ra rb
    obtain ⟨a, xs, rfl, s1, r1, l1⟩ := ra
    obtain ⟨z, e2, r2⟩ := atI_reps r1 e
    exact .inl ⟨a, xs, i, z, rfl, rb, SqL.of s1.1.1, e2, q.here rs e r2⟩
  · rename_i st' c i
    simp only [Rep] at ra rb
    have e0 := e
    cases qc : cellL w.st c with
    | none => rw [qc] at e; cases e
    | some l =>
      rw [qc] at e
      obtain ⟨xs, s1, r1, l1⟩ := cell_sq rs qc
      obtain ⟨z, e2, r2⟩ := atI_reps r1 e
      exact .inl ⟨_, xs, i, z, ra.1, rb, by rw [← hk]; exact s1, e2, q.here rs e0 r2⟩
  · rename_i z i
    simp only [Rep] at ra rb
    have e0 := e
    split at e
    · rename_i hl
      cases qa : atI z.cps.toList i with
      | none => rw [qa] at e; cases e
      | some c =>
        rw [qa] at e
        exact .inr (.inr ⟨z, i, c, ra, rb, hl, qa, q.here rs (e0.trans e.symm) (rep_str _)⟩)
    · cases e
  · cases e
theorem de_ix (ha : DE X W a fa) (hb : DE X W b fb) (hs : PlainIx b := by intro _ _; rfl) : DE X W (.Subscript a b pos) (eOp dIdx fa fb) := PE.imp' (pe_ix xd_idx ha hb hs) fun _ _ _ h => two h
def cut (l : List D) (lo hi : Option Int) : List D := (l.drop (HT.sIx l.length 0 lo)).take (HT.sIx l.length l.length hi - HT.sIx l.length 0 lo)
theorem cut_len (l : List D) (lo hi : Option Int) : (cut l lo hi).length ≤ l.length := by
  unfold cut
  rw [List.length_take, List.length_drop]
  omega
theorem cut_reps {w : Wd} {ds : List D} {xs : List V} (lo hi : Option Int) (h : Reps w ds xs) : Reps w (cut ds lo hi) (cutV xs lo hi) := by
  unfold cut cutV
  rw [reps_len h]
  exact reps_take _ (reps_drop _ h)
def dSl (lo hi : Option Int) : D → Store → Option D
  | .tup l, _ => some (.tup (cut l lo hi))
  | .lst l, _ => some (.lst (cut l lo hi))
  | .cell c, st => (cellL st c).map fun l => .lst (cut l lo hi)
  | .str z, _ => if z.length ≤ sizeLine then some (.str (cutS z lo hi)) else none
  | _, _ => none
def rdSl (K : PySem.W.Frag) : V → Option Int → Option Int → Hp → VK → Prop := fun x lo hi H Q => ∃ (w : Wd) (a : D), w.K = K ∧ w.H = H ∧ RS w ∧ Rep w a x ∧ Wq w (dSl lo hi a w.st) Q
theorem SlR.imp' {r r' : V → Option Int → Option Int → Hp → VK → Prop} (h : SlR X r) (k : ∀ x lo hi H Q, r' x lo hi H Q → r x lo hi H Q) : SlR X r' := fun pins s σ H x v vl vu lo hi sl Q I rx hs pl pu z => h pins s σ H x v vl vu lo hi sl Q I rx hs pl pu (k _ _ _ _ _ z)
theorem cut_whole {l : List D} {lo hi : Option Int} (h1 : HT.sIx l.length 0 lo = 0) (h2 : HT.sIx l.length l.length hi = l.length) : cut l lo hi = l := by
  unfold cut
  rw [h1, h2]
  simp
theorem sd_sl : SlR X (rdSl X.K) := SlR.imp' ((sl_list (X := X)).or (sl_tupA.or sl_str)) fun x lo hi H Q h => by
  obtain ⟨w, a, hk, rfl, rs, ra, q⟩ := h
  obtain ⟨d, e⟩ := wq_some q
  unfold dSl at e
  split at e
  · rename_i l
    have ra0 := ra
    simp only [Rep] at ra
    obtain ⟨a, xs, rfl, s1, r1, l1⟩ := ra
    refine .inr (.inl ⟨a, xs, rfl, by rw [← hk]; exact s1, fun hw => ?_, fun _ p hp => ?_⟩)
    · rw [reps_len r1] at hw
      exact q.here rs (congrArg (fun z => some (D.tup z)) (cut_whole hw.1 hw.2)) ra0
    · exact q.new rs hp rfl (rep_newT rs hp (cut_reps lo hi r1) (Nat.le_trans (cut_len l lo hi) l1))
  · rename_i l
    simp only [Rep] at ra
    obtain ⟨a, xs, rfl, s1, r1, l1⟩ := ra
    exact .inl ⟨a, xs, rfl, SqL.of s1.1.1, fun p hp => q.new rs hp rfl (rep_new rs hp (cut_reps lo hi r1) (Nat.le_trans (cut_len l lo hi) l1))⟩
  · rename_i st' c
    simp only [Rep] at ra
    have e0 := e
    cases qc : cellL w.st c with
    | none => rw [qc] at e; cases e
    | some l =>
      rw [qc] at e
      obtain ⟨xs, s1, r1, l1⟩ := cell_sq rs qc
      refine .inl ⟨_, xs, ra.1, by rw [← hk]; exact s1, fun p hp => q.new rs hp (e0.trans e.symm) (rep_new rs hp (cut_reps lo hi r1) (Nat.le_trans (cut_len l lo hi) l1))⟩
  · rename_i z
    simp only [Rep] at ra
    split at e
    · rename_i hl
      exact .inr (.inr ⟨z, ra, hl, q.here rs (if_pos hl) (rep_str _)⟩)
    · cases e
  · cases e
def rdP (K : PySem.W.Frag) (W : XW) (f : Ev → M (Option Int)) : TO := fun σ H Q => ∃ (w : Wd) (env : Ev), w.K = K ∧ w.H = H ∧ RS w ∧ REnv w env σ ∧ Wp w (f env w.st) (fun o w' => Q o w'.H) (fun c w' => W c σ w'.H)
def DP (X : Cx) (W : XW) (e : Option Expr) (f : Ev → M (Option Int)) : Prop := PO X e (rdP X.K W f)
theorem PO.imp' {e : Option Expr} {t t' : TO} (h : PO X e t) (k : ∀ σ H Q, t' σ H Q → t σ H Q) : PO X e t' := ⟨fun pins s σ H Q I z => h.run pins s σ H Q I (k σ H Q z)⟩
def pNo : Ev → M (Option Int) := fun _ => pure none
def asI : D → M Int
  | .int i => pure i
  | _ => M.stuck
def pAt (f : Ev → M D) : Ev → M (Option Int) := fun env => do
  let d ← f env
  let i ← asI d
  pure (some i)
theorem asI_wp {w : Wd} {d : D} {P : Int → Wd → Prop} {V' : Str → Wd → Prop} (rs : RS w) (h : Wp w (asI d w.st) P V') : ∃ b, d = .int b ∧ P b w := by
  cases d with
  | int b => exact ⟨b, rfl, Wp.ok_ rs h⟩
  | _ => exact h.elim
theorem dp_no : DP X W none pNo := PO.imp' po_none fun σ H Q h => by
  obtain ⟨w, env, hk, rfl, r, n, h⟩ := h
  exact Wp.ok_ (a := (none : Option Int)) r h
theorem dp_at (ha : DE X W a fa) : DP X W (some a) (pAt fa) := PO.imp' (po_some ha) fun σ H Q h => by
  obtain ⟨w, env, hk, rfl, r, n, h⟩ := h
  refine ⟨w, env, hk, rfl, r, n, (Wp.bind h).imp fun x w1 a1 h1 v rv => ?_⟩
  obtain ⟨i, rfl, h2⟩ := asI_wp a1.rs (Wp.bind h1)
  simp only [Rep] at rv
  exact ⟨i, rv, Wp.ok_ (a := some i) a1.rs h2⟩
def eSl (fa : Ev → M D) (fl fh : Ev → M (Option Int)) : Ev → M D := fun env => do
  let d ← fa env
  let lo ← fl env
  let hi ← fh env
  lift (dSl lo hi d)
theorem de_sl {lo hi : Option Expr} {p2 : Pos} {fl fh : Ev → M (Option Int)} (ha : DE X W a fa) (hl : DP X W lo fl) (hh : DP X W hi fh) : DE X W (.Subscript a (.Slice lo hi none p2) pos) (eSl fa fl fh) := PE.imp' (pe_slice sd_sl ha hl hh) fun σ H Q h => by
  obtain ⟨w, env, hk, rfl, r, n, h⟩ := h
  refine ⟨w, env, hk, rfl, r, n, (Wp.bind h).imp fun x w1 a1 h1 v rv => ?_⟩
  refine ⟨w1, env, a1.k.trans hk, rfl, a1.rs, n.after a1, (Wp.bind h1).imp fun lo w2 a2 h2 => ?_⟩
  refine ⟨w2, env, a2.k.trans (a1.k.trans hk), rfl, a2.rs, (n.after a1).after a2, (Wp.bind h2).imp fun hi w3 a3 h3 => ?_⟩
  exact ⟨w3, x, a3.k.trans (a2.k.trans (a1.k.trans hk)), rfl, a3.rs, (a2.trans a3).rep rv, Wq.of h3⟩
/-! ## a < b < c -/
def eChain (g g' : D → D → Store → Option D) (fa fb fc : Ev → M D) : Ev → M D := fun env => do
  let x ← fa env
  let y ← fb env
  let z ← lift (g x y)
  let k ← asB z
  if k = true then do
    let u ← fc env
    lift (g' y u)
  else pure (.bl false)
theorem chain_rd {g g' : D → D → Store → Option D} {σ : L2.St} {H : Hp} {Q : VK} (h : rdE X.K W (eChain g g' fa fb fc) σ H Q) : tChain (rdO X.K g) (rdO X.K g') (rdE X.K W fa) (rdE X.K W fb) (rdE X.K W fc) σ H Q := by
  obtain ⟨w, env, hk, rfl, r, n, h⟩ := h
  refine ⟨w, env, hk, rfl, r, n, (Wp.bind h).imp fun x w1 a1 h1 v rv => ?_⟩
  refine ⟨w1, env, a1.k.trans hk, rfl, a1.rs, n.after a1, (Wp.bind h1).imp fun y w2 a2 h2 u ru => ?_⟩
  have h3 := Wp.bind h2
  refine ⟨w2, x, y, a2.k.trans (a1.k.trans hk), rfl, a2.rs, a2.rep rv, ru, ?_⟩
  unfold lift at h3
  cases e : g x y w2.st with
  | none => rw [e] at h3; exact h3.elim
  | some z =>
    rw [e] at h3
    refine ⟨z, rfl, fun w3 a3 e3 t rt => ?_⟩
    have h4 := h3 w3 a3 e3
    obtain ⟨k, rfl, h5⟩ := asB_wp a3.rs (Wp.bind h4)
    simp only [Rep] at rt
    refine ⟨k, rt, ?_⟩
    cases k with
    | true =>
      refine iteT ⟨w3, env, a3.k.trans (a2.k.trans (a1.k.trans hk)), rfl, a3.rs, ((n.after a1).after a2).after a3, (Wp.bind h5).imp fun t' w4 a4 h6 s rs' => ?_⟩
      exact ⟨w4, y, t', a4.k.trans (a3.k.trans (a2.k.trans (a1.k.trans hk))), rfl, a4.rs, (a3.trans a4).rep ru, rs', Wq.of h6⟩
    | false => exact iteF (Wp.ok_ (a := D.bl false) a3.rs h5 _ (rep_bl _))
theorem de_chain {op op' : CmpOp} {g g' : D → D → Store → Option D} (ho : OpD X (compareOp op) g) (ho' : OpD X (compareOp op') g') (ha : DE X W a fa) (hb : DE X W b fb) (hc : DE X W c fc)
    (hm : lastMarks [op, op'] [b, c] = false := by with_unfolding_all rfl) : DE X W (.Compare a [op, op'] [b, c] pos) (eChain g g' fa fb fc) := PE.imp' (pe_chain ho ho' ha hb hc hm) fun _ _ _ h => chain_rd h
theorem dt_chain {op op' : CmpOp} {g g' : D → D → Store → Option D} (ho : OpD X (compareOp op) g) (ho' : OpD X (compareOp op') g') (ha : DE X W a fa) (hb : DE X W b fb) (hc : DE X W c fc)
    (hm : lastMarks [op, op'] [b, c] = false := by with_unfolding_all rfl) : DT X W (.Compare a [op, op'] [b, c] pos) (tVal (eChain g g' fa fb fc)) := PT.imp' (pt_chain ho ho' ha hb hc hm) fun σ H Q h => chain_rd (tval h)
/-! ## isinstance with a built-in class -/
def tyName (st : Store) : D → Option String
  | .non => some "NoneType"
  | .bl _ => some "bool"
  | .int _ => some "int"
  | .str _ => some "str"
  | .tup _ => some "tuple"
  | .lst _ => some "list"
  | .dct0 => some "dict"
  | .cell i => match st[i]? with
    | some (.lst _) => some "list"
    | some (.dct _) => some "dict"
    | _ => none
  | .exc _ => none
theorem tyx_of {w : Wd} (rs : RS w) {d : D} {v : V} {n : String} (r : Rep w d v) (h : tyName w.st d = some n) : TyX w.K w.H v (.type n) := by
  cases d with
  | non => simp only [Rep] at r; cases h; subst r; exact .base .non
  | bl b => simp only [Rep] at r; cases h; subst r; exact .base (.bl b)
  | int b => simp only [Rep] at r; cases h; subst r; exact .base (.int b)
  | str b => simp only [Rep] at r; cases h; subst r; exact .base (.str b)
  | tup l =>
    simp only [Rep] at r; cases h
    obtain ⟨a, xs, rfl, s, _, _⟩ := r
    rcases s with (s | ⟨o, s⟩) | ⟨o, its, k, s1, s2, _⟩
    · exact .base (.tup s)
    · exact .fTuple s
    · exact .kTuple s1 s2
  | lst l =>
    simp only [Rep] at r; cases h
    obtain ⟨a, xs, rfl, s, _, _⟩ := r
    exact .base (.lst s.1.1)
  | dct0 =>
    simp only [Rep] at r; cases h
    obtain ⟨a, rfl, s⟩ := r
    exact .base (.dK s.1.1)
  | cell i =>
    simp only [Rep] at r
    unfold tyName at h
    simp only at h
    rw [r.1]
    split at h
    · rename_i l e
      cases h
      obtain ⟨xs, e1, _, _⟩ := rs.cells i _ e
      exact .base (.lst e1)
    · rename_i l e
      cases h
      obtain ⟨xs, e1, _⟩ := rs.cells i _ e
      exact .base (.dK e1)
    · cases h
  | exc c => cases h
/-- the answer of isinstance for the seven types -/
def isTy (n T : String) : Bool := n == T || (n == "bool" && T == "int")
def knownTy (T : String) : Prop := ∀ n ∈ ["NoneType", "bool", "int", "str", "tuple", "list", "dict"], kitB n T = some (isTy n T)
theorem ty_int : knownTy "int" := by unfold knownTy; decide +kernel
theorem ty_bool : knownTy "bool" := by unfold knownTy; decide +kernel
theorem ty_str : knownTy "str" := by unfold knownTy; decide +kernel
theorem ty_tuple : knownTy "tuple" := by unfold knownTy; decide +kernel
theorem ty_list : knownTy "list" := by unfold knownTy; decide +kernel
theorem ty_dict : knownTy "dict" := by unfold knownTy; decide +kernel
theorem tyName_mem {st : Store} {d : D} {n : String} (h : tyName st d = some n) : n ∈ ["NoneType", "bool", "int", "str", "tuple", "list", "dict"] := by
  cases d with
  | cell i =>
    unfold tyName at h
    simp only at h
    split at h <;> cases h <;> decide
  | exc c => cases h
  | _ => cases h; decide
def dIsT (T : String) : D → Store → Option D := fun d st => (tyName st d).map fun n => .bl (isTy n T)
theorem de_isi {T : String} {x : Str} {p p' : Pos} (hT : knownTy T) (ha : DE X W a fa) (hg : Gl X "isinstance") (hm : X.mg "isinstance" = none) (hg2 : Gl X x) (hm2 : X.mg x = none) (hv : bootBuiltins x = some (.type T)) (hn : x ≠ "__name__" := by decide) (hdb : (x == ("__debug__" : Str)) = false := by decide)
    (he : starEach [a, .Name x p'] X.env = (false, eval a X.env) :: starEach [.Name x p'] X.env := by rfl) (he2 : starEach [.Name x p'] X.env = (false, eval (.Name x p') X.env) :: starEach [] X.env := by rfl) (hpl : (backTo pos (starEach [.Name x p'] X.env)).any (·.1) = false := by rfl) :
    DE X W (.Call (.Name "isinstance" p) [a, .Name x p'] [] pos) (eUn (dIsT T) fa) := by
  refine PE.imp' (pe_callB call_isi hg hm (by decide +kernel) (pa_cons ha (pa_cons (pe_bltn (v := .ty T) hg2 hm2 hv rfl hn hdb) pa_nil he2) he) (by decide) (by decide) he hpl) fun σ H Q h => ?_
  obtain ⟨w, env, hk, rfl, r, n, h⟩ := h
  refine ⟨w, env, hk, rfl, r, n, (Wp.bind h).imp fun d w1 a1 h1 v rv => ?_⟩
  have q := Wq.of h1
  obtain ⟨d', e⟩ := wq_some q
  cases et : tyName w1.st d with
  | none => unfold dIsT at e; rw [et] at e; cases e
  | some t =>
    refine ⟨v, .ty T, .type t, .type T, isTy t T, rfl, .ty T, by rw [← hk, ← a1.k]; exact tyx_of a1.rs rv et, kit_ty (hT t (tyName_mem et)), ?_⟩
    exact q.here a1.rs (by unfold dIsT; rw [et]; rfl) (rep_bl _)
end
end G
end

section
set_option Elab.async false
set_option linter.all false
set_option autoImplicit false
set_option maxRecDepth 100000
set_option maxHeartbeats 1000000
namespace G
open PySem PySem.Spec PyProof.Rows L2
/-! ## built-in functions -/
theorem reps1 {w : Wd} {d : D} {vs : List V} (h : Reps w [d] vs) : ∃ v, vs = [v] ∧ Rep w d v := by
  simp only [Reps] at h
  obtain ⟨x, xs, rfl, r, rfl⟩ := h
  exact ⟨x, rfl, r⟩
theorem reps2 {w : Wd} {d e : D} {vs : List V} (h : Reps w [d, e] vs) : ∃ v u, vs = [v, u] ∧ Rep w d v ∧ Rep w e u := by
  simp only [Reps] at h
  obtain ⟨x, xs, rfl, r, y, ys, rfl, r2, rfl⟩ := h
  exact ⟨x, y, rfl, r, r2⟩
def ints? : List D → Option (List Int)
  | [] => some []
  | .int i :: r => (ints? r).map (i :: ·)
  | _ => none
def bools? : List D → Option (List Bool)
  | [] => some []
  | .bl i :: r => (bools? r).map (i :: ·)
  | _ => none
theorem ints_reps {w : Wd} : ∀ {l : List D} {ns : List Int} {xs : List V}, ints? l = some ns → Reps w l xs → xs = ns.map V.int
  | [], ns, xs, h, r => by cases h; simp only [Reps] at r; exact r
  | .int i :: l, ns, xs, h, r => by
    simp only [Reps] at r
    obtain ⟨x, ys, rfl, r1, r2⟩ := r
    cases q : ints? l with
    | none => simp [ints?, q] at h
    | some ms =>
      simp [ints?, q] at h
      subst h
      simp only [Rep] at r1
      subst r1
      rw [ints_reps q r2]
      rfl
  | .non :: _, _, _, h, _ => by cases h
  | .bl _ :: _, _, _, h, _ => by cases h
  | .str _ :: _, _, _, h, _ => by cases h
  | .tup _ :: _, _, _, h, _ => by cases h
  | .lst _ :: _, _, _, h, _ => by cases h
  | .cell _ :: _, _, _, h, _ => by cases h
  | .dct0 :: _, _, _, h, _ => by cases h
  | .exc _ :: _, _, _, h, _ => by cases h
theorem bools_reps {w : Wd} : ∀ {l : List D} {ns : List Bool} {xs : List V}, bools? l = some ns → Reps w l xs → xs = ns.map V.bl
  | [], ns, xs, h, r => by cases h; simp only [Reps] at r; exact r
  | .bl i :: l, ns, xs, h, r => by
    simp only [Reps] at r
    obtain ⟨x, ys, rfl, r1, r2⟩ := r
    cases q : bools? l with
    | none => simp [bools?, q] at h
    | some ms =>
      simp [bools?, q] at h
      subst h
      simp only [Rep] at r1
      subst r1
      rw [bools_reps q r2]
      rfl
  | .non :: _, _, _, h, _ => by cases h
  | .int _ :: _, _, _, h, _ => by cases h
  | .str _ :: _, _, _, h, _ => by cases h
  | .tup _ :: _, _, _, h, _ => by cases h
  | .lst _ :: _, _, _, h, _ => by cases h
  | .cell _ :: _, _, _, h, _ => by cases h
  | .dct0 :: _, _, _, h, _ => by cases h
  | .exc _ :: _, _, _, h, _ => by cases h
def dLen : List D → Store → Option D
  | [.str z], _ => if z.length ≤ sizeLine then some (.int z.length) else none
  | [.tup l], _ => some (.int l.length)
  | [.lst l], _ => some (.int l.length)
  | [.cell c], st => (cellL st c).map fun l => .int l.length
  | _, _ => none
def dSum : List D → Store → Option D
  | [.lst l], _ => (ints? l).map fun ns => .int ns.sum
  | _, _ => none
def dAll : List D → Store → Option D
  | [.lst l], _ => (bools? l).map fun ns => .bl (ns.all id)
  | _, _ => none
def dAny : List D → Store → Option D
  | [.lst l], _ => (bools? l).map fun ns => .bl (ns.any id)
  | _, _ => none
def dTuple : List D → Store → Option D
  | [.lst l], _ => some (.tup l)
  | [.tup l], _ => some (.tup l)
  | [.cell c], st => (cellL st c).map fun l => .tup l
  | _, _ => none
def dList : List D → Store → Option D
  | [.lst l], _ => some (.lst l)
  | [.tup l], _ => some (.lst l)
  | [.cell c], st => (cellL st c).map fun l => .lst l
  | _, _ => none
def dMax2 : List D → Store → Option D
  | [.int i, .int j], _ => some (.int (if j > i then j else i))
  | _, _ => none
def dMin2 : List D → Store → Option D
  | [.int i, .int j], _ => some (.int (if j < i then j else i))
  | _, _ => none
def dDivmod : List D → Store → Option D
  | [.int i, .int j], _ => if divOk j then some (.tup [.int (i / j), .int (i % j)]) else none
  | _, _ => none
def dStr : List D → Store → Option D
  | [.int i], _ => if i.natAbs.log2 < 1920 then some (.str (toString i)) else none
  | _, _ => none
def dInt : List D → Store → Option D
  | [.str a], _ => if a.length ≤ 640 then (PySem.intText? a).map .int else none
  | [.int i], _ => some (.int i)
  | _, _ => none
theorem divp_of {i j : Int} (h : divOk j = true) : CDivP i j := by
  obtain ⟨h1, h2⟩ := (by have z := of_decide_eq_true h; exact z : 0 < j ∧ j.natAbs.log2 < 9000)
  refine ⟨h1, ?_⟩
  unfold Builtin.divisionGoesByPylong
  simp only [Bool.and_eq_false_iff, decide_eq_false_iff_not]
  left
  have hj : (j == 0) = false := by simp; omega
  rw [hj]
  simp only [if_neg (show ¬ (false = true) by decide)]
  omega
section
variable {X : Cx} {W : XW} {e a b c : Expr} {pos : Pos} {fa fb fc : Ev → M D}
theorem cd_len : CallD X (.builtin "len") dLen := CallR.imp' ((call_len_seq (X := X)).or call_len_str) fun xs H Q h => by
  obtain ⟨w, ds, hk, rfl, rs, rd, q⟩ := h
  obtain ⟨d, e⟩ := wq_some q
  unfold dLen at e
  split at e
  · rename_i z
    obtain ⟨v, rfl, r⟩ := reps1 rd
    simp only [Rep] at r
    split at e
    · rename_i hl
      exact .inr ⟨z, by rw [r], hl, q.here rs (if_pos hl) (rep_int _)⟩
    · cases e
  · rename_i l
    obtain ⟨v, rfl, r⟩ := reps1 rd
    simp only [Rep] at r
    obtain ⟨a, ys, rfl, s, r1, _⟩ := r
    refine .inl ⟨a, ys, rfl, .inr (by rw [← hk]; exact s), ?_⟩
    rw [reps_len r1]
    exact q.here rs rfl (rep_int _)
  · rename_i l
    obtain ⟨v, rfl, r⟩ := reps1 rd
    simp only [Rep] at r
    obtain ⟨a, ys, rfl, s, r1, _⟩ := r
    refine .inl ⟨a, ys, rfl, .inl (SqL.of s.1.1), ?_⟩
    rw [reps_len r1]
    exact q.here rs rfl (rep_int _)
  · rename_i st' c
    obtain ⟨v, rfl, r⟩ := reps1 rd
    simp only [Rep] at r
    have e0 := e
    cases qc : cellL w.st c with
    | none => rw [qc] at e; cases e
    | some l =>
      rw [qc] at e
      obtain ⟨ys, s1, r1, _⟩ := cell_sq rs qc
      refine .inl ⟨_, ys, by rw [r.1], .inl (by rw [← hk]; exact s1), ?_⟩
      rw [reps_len r1]
      exact q.here rs (e0.trans e.symm) (rep_int _)
  · cases e
theorem cd_sum (hc : X.calm = true) : CallD X (.builtin "sum") dSum := CallR.imp' (cr_sum hc) fun xs H Q h => by
  obtain ⟨w, ds, hk, rfl, rs, rd, q⟩ := h
  obtain ⟨d, e⟩ := wq_some q
  unfold dSum at e
  split at e
  · rename_i l
    obtain ⟨v, rfl, r⟩ := reps1 rd
    simp only [Rep] at r
    obtain ⟨a, ys, rfl, s, r1, _⟩ := r
    have e0 := e
    cases qi : ints? l with
    | none => rw [qi] at e; cases e
    | some ns =>
      rw [qi] at e
      exact ⟨a, ns, rfl, by rw [← ints_reps qi r1]; exact SqL.of s.1.1, q.here rs (e0.trans e.symm) (rep_int _)⟩
  · cases e
theorem cd_all (hc : X.calm = true) : CallD X (.builtin "all") dAll := CallR.imp' (cr_all hc) fun xs H Q h => by
  obtain ⟨w, ds, hk, rfl, rs, rd, q⟩ := h
  obtain ⟨d, e⟩ := wq_some q
  unfold dAll at e
  split at e
  · rename_i l
    obtain ⟨v, rfl, r⟩ := reps1 rd
    simp only [Rep] at r
    obtain ⟨a, ys, rfl, s, r1, _⟩ := r
    have e0 := e
    cases qi : bools? l with
    | none => rw [qi] at e; cases e
    | some ns =>
      rw [qi] at e
      exact ⟨a, ns, rfl, by rw [← bools_reps qi r1]; exact SqL.of s.1.1, q.here rs (e0.trans e.symm) (rep_bl _)⟩
  · cases e
theorem cd_any (hc : X.calm = true) : CallD X (.builtin "any") dAny := CallR.imp' (cr_any hc) fun xs H Q h => by
  obtain ⟨w, ds, hk, rfl, rs, rd, q⟩ := h
  obtain ⟨d, e⟩ := wq_some q
  unfold dAny at e
  split at e
  · rename_i l
    obtain ⟨v, rfl, r⟩ := reps1 rd
    simp only [Rep] at r
    obtain ⟨a, ys, rfl, s, r1, _⟩ := r
    have e0 := e
    cases qi : bools? l with
    | none => rw [qi] at e; cases e
    | some ns =>
      rw [qi] at e
      exact ⟨a, ns, rfl, by rw [← bools_reps qi r1]; exact SqL.of s.1.1, q.here rs (e0.trans e.symm) (rep_bl _)⟩
  · cases e
theorem cd_tuple : CallD X (.type "tuple") dTuple := CallR.imp' call_tuple_of fun xs H Q h => by
  obtain ⟨w, ds, hk, rfl, rs, rd, q⟩ := h
  obtain ⟨d, e⟩ := wq_some q
  unfold dTuple at e
  split at e
  · rename_i l
    obtain ⟨v, rfl, r⟩ := reps1 rd
    simp only [Rep] at r
    obtain ⟨a, ys, rfl, s, r1, l1⟩ := r
    exact ⟨a, ys, rfl, .inl ⟨SqL.of s.1.1, fun p hp => q.new rs hp rfl (rep_newT rs hp r1 l1)⟩⟩
  · rename_i l
    obtain ⟨v, rfl, r⟩ := reps1 rd
    have r0 := r
    simp only [Rep] at r
    obtain ⟨a, ys, rfl, s, r1, l1⟩ := r
    exact ⟨a, ys, rfl, .inr ⟨by rw [← hk]; exact s, q.here rs rfl r0⟩⟩
  · rename_i st' c
    obtain ⟨v, rfl, r⟩ := reps1 rd
    simp only [Rep] at r
    have e0 := e
    cases qc : cellL w.st c with
    | none => rw [qc] at e; cases e
    | some l =>
      rw [qc] at e
      obtain ⟨ys, s1, r1, l1⟩ := cell_sq rs qc
      exact ⟨_, ys, by rw [r.1], .inl ⟨by rw [← hk]; exact s1, fun p hp => q.new rs hp (e0.trans e.symm) (rep_newT rs hp r1 l1)⟩⟩
  · cases e
theorem cd_list : CallD X (.type "list") dList := CallR.imp' call_list_of fun xs H Q h => by
  obtain ⟨w, ds, hk, rfl, rs, rd, q⟩ := h
  obtain ⟨d, e⟩ := wq_some q
  unfold dList at e
  split at e
  · rename_i l
    obtain ⟨v, rfl, r⟩ := reps1 rd
    simp only [Rep] at r
    obtain ⟨a, ys, rfl, s, r1, l1⟩ := r
    exact ⟨a, ys, rfl, .inl (SqL.of s.1.1), fun p hp => q.new rs hp rfl (rep_new rs hp r1 l1)⟩
  · rename_i l
    obtain ⟨v, rfl, r⟩ := reps1 rd
    simp only [Rep] at r
    obtain ⟨a, ys, rfl, s, r1, l1⟩ := r
    exact ⟨a, ys, rfl, .inr (by rw [← hk]; exact s), fun p hp => q.new rs hp rfl (rep_new rs hp r1 l1)⟩
  · rename_i st' c
    obtain ⟨v, rfl, r⟩ := reps1 rd
    simp only [Rep] at r
    have e0 := e
    cases qc : cellL w.st c with
    | none => rw [qc] at e; cases e
    | some l =>
      rw [qc] at e
      obtain ⟨ys, s1, r1, l1⟩ := cell_sq rs qc
      exact ⟨_, ys, by rw [r.1], .inl (by rw [← hk]; exact s1), fun p hp => q.new rs hp (e0.trans e.symm) (rep_new rs hp r1 l1)⟩
  · cases e
theorem cd_max2 (hc : X.calm = true) : CallD X (.builtin "max") dMax2 := CallR.imp' (call_max2 hc) fun xs H Q h => by
  obtain ⟨w, ds, hk, rfl, rs, rd, q⟩ := h
  obtain ⟨d, e⟩ := wq_some q
  unfold dMax2 at e
  split at e
  · rename_i i j
    obtain ⟨v, u, rfl, r, r2⟩ := reps2 rd
    simp only [Rep] at r r2
    exact ⟨i, j, by rw [r, r2], q.here rs rfl (rep_int _)⟩
  · cases e
theorem cd_min2 (hc : X.calm = true) : CallD X (.builtin "min") dMin2 := CallR.imp' (call_min2 hc) fun xs H Q h => by
  obtain ⟨w, ds, hk, rfl, rs, rd, q⟩ := h
  obtain ⟨d, e⟩ := wq_some q
  unfold dMin2 at e
  split at e
  · rename_i i j
    obtain ⟨v, u, rfl, r, r2⟩ := reps2 rd
    simp only [Rep] at r r2
    exact ⟨i, j, by rw [r, r2], q.here rs rfl (rep_int _)⟩
  · cases e
theorem cd_divmod : CallD X (.builtin "divmod") dDivmod := CallR.imp' call_divmodW fun xs H Q h => by
  obtain ⟨w, ds, hk, rfl, rs, rd, q⟩ := h
  obtain ⟨d, e⟩ := wq_some q
  unfold dDivmod at e
  split at e
  · rename_i i j
    obtain ⟨v, u, rfl, r, r2⟩ := reps2 rd
    simp only [Rep] at r r2
    split at e
    · rename_i hc
      refine ⟨i, j, by rw [r, r2], divp_of hc, fun p hp => q.new rs hp (if_pos hc) (rep_newT rs hp ?_ (by show 2 ≤ sizeLine; decide))⟩
      simp only [Reps]
      exact ⟨_, _, rfl, rep_int _, _, _, rfl, rep_int _, rfl⟩
    · cases e
  · cases e
theorem cd_str : CallD X (.type "str") dStr := CallR.imp' call_str_int fun xs H Q h => by
  obtain ⟨w, ds, hk, rfl, rs, rd, q⟩ := h
  obtain ⟨d, e⟩ := wq_some q
  unfold dStr at e
  split at e
  · rename_i i
    obtain ⟨v, rfl, r⟩ := reps1 rd
    simp only [Rep] at r
    split at e
    · rename_i hc
      exact ⟨i, by rw [r], hc, q.here rs (if_pos hc) (rep_str _)⟩
    · cases e
  · cases e
theorem cd_int : CallD X (.type "int") dInt := CallR.imp' ((call_int_str (X := X)).or call_int1) fun xs H Q h => by
  obtain ⟨w, ds, hk, rfl, rs, rd, q⟩ := h
  obtain ⟨d, e⟩ := wq_some q
  unfold dInt at e
  split at e
  · rename_i z
    obtain ⟨v, rfl, r⟩ := reps1 rd
    simp only [Rep] at r
    have e0 := e
    split at e
    · rename_i hc
      cases qi : PySem.intText? z with
      | none => rw [qi] at e; cases e
      | some n =>
        rw [qi] at e
        exact .inl ⟨z, n, by rw [r], qi, hc, q.here rs (e0.trans e.symm) (rep_int _)⟩
    · cases e
  · rename_i i
    obtain ⟨v, rfl, r⟩ := reps1 rd
    simp only [Rep] at r
    exact .inr (.inl ⟨i, by rw [r], q.here rs rfl (rep_int _)⟩)
  · cases e
end
end G
end

section
set_option Elab.async false
set_option linter.all false
set_option autoImplicit false
set_option maxRecDepth 100000
set_option maxHeartbeats 1000000
namespace G
open PySem PySem.Spec PyProof.Rows L2
/-! ## statements -/
inductive Fl where
  | nx (env : Ev)
  | ret (d : D)
  | brk (env : Ev)
  | ct (env : Ev)
  | exc (c : Str) (env : Ev)
/-- an expression within a statement: what it raises ends the statement -/
def stx {α : Type} (x : M α) (env : Ev) (k : α → M Fl) : M Fl := fun st => match x st with
  | .ok a st' => k a st'
  | .err c st' => .ok (.exc c env) st'
  | .bad => .bad
def SFl (W : XW) (D' : Ends) (fl : Fl) (w : Wd) : Prop := match fl with
  | .nx env => ∀ σ, REnv w env σ → D'.nx σ w.H
  | .ret d => ∀ v, Rep w d v → D'.rt v w.H
  | .brk env => ∀ σ, REnv w env σ → D'.bk σ w.H
  | .ct env => ∀ σ, REnv w env σ → D'.ct σ w.H
  | .exc c env => ∀ σ, REnv w env σ → W c σ w.H
def nov : Str → Wd → Prop := fun _ _ => False
def rdS (K : PySem.W.Frag) (W : XW) (g : Ev → M Fl) : TS := fun D' σ H => ∃ (w : Wd) (env : Ev), w.K = K ∧ w.H = H ∧ RS w ∧ REnv w env σ ∧ Wp w (g env w.st) (SFl W D') nov
def DS (X : Cx) (W : XW) (s : Stmt) (g : Ev → M Fl) : Prop := PS X s (rdS X.K W g)
def DSs (X : Cx) (W : XW) (s : List Stmt) (g : Ev → M Fl) : Prop := PSs X s (rdS X.K W g)
section
variable {X : Cx} {W : XW} {e a b c : Expr} {s : Stmt} {ss : List Stmt} {pos : Pos} {fa fb fc : Ev → M D} {g g' : Ev → M Fl}
theorem PS.imp' {t t' : TS} (h : PS X s t) (k : ∀ D' σ H, t' D' σ H → t D' σ H) : PS X s t' := ⟨fun pins s σ H D' I z => h.run pins s σ H D' I (k D' σ H z)⟩
theorem PSs.imp' {t t' : TS} (h : PSs X ss t) (k : ∀ D' σ H, t' D' σ H → t D' σ H) : PSs X ss t' := ⟨fun pins s σ H D' I z => h.run pins s σ H D' I (k D' σ H z)⟩
/-- an expression's part of a statement -/
theorem stx_wp {α : Type} {w : Wd} {env : Ev} {σ : L2.St} {x : M α} {k : α → M Fl} {D' : Ends} (n : REnv w env σ) (h : Wp w (stx x env k w.st) (SFl W D') nov) :
    Wp w (x w.st) (fun a w1 => Wp w1 (k a w1.st) (SFl W D') nov) (fun c w1 => W c σ w1.H) := by
  unfold stx at h
  cases e : x w.st with
  | ok a st' =>
    rw [e] at h
    have h : Wp w (k a st') (SFl W D') nov := h
    intro w' b q
    rw [q]
    exact h.after b
  | err c st' =>
    rw [e] at h
    exact fun w' b q => h w' b q σ (n.after b)
  | bad =>
    rw [e] at h
    exact h
def sNop : Ev → M Fl := fun env => pure (.nx env)
theorem dss_nil : DSs X W [] sNop := PSs.imp' pss_nil fun D' σ H h => by
  obtain ⟨w, env, hk, rfl, r, n, h⟩ := h
  exact Wp.ok_ (a := Fl.nx env) r h σ n
def sSeq (g g' : Ev → M Fl) : Ev → M Fl := fun env => do
  let fl ← g env
  match fl with
  | .nx e => g' e
  | other => pure other
theorem seq_wp {w : Wd} {env : Ev} {D' : Ends} {K : PySem.W.Frag} (hk : w.K = K) (h : Wp w (sSeq g g' env w.st) (SFl W D') nov) : Wp w (g env w.st) (SFl W { D' with nx := rdS K W g' D' }) nov := by
  refine (Wp.bind h).imp fun fl w1 a1 h1 => ?_
  cases fl with
  | nx e1 => exact fun σ1 n1 => ⟨w1, e1, a1.k.trans hk, rfl, a1.rs, n1, h1⟩
  | ret d => exact Wp.ok_ (P := SFl W D') (W := nov) (a := Fl.ret d) a1.rs h1
  | brk e1 => exact Wp.ok_ (P := SFl W D') (W := nov) (a := Fl.brk e1) a1.rs h1
  | ct e1 => exact Wp.ok_ (P := SFl W D') (W := nov) (a := Fl.ct e1) a1.rs h1
  | exc c e1 => exact Wp.ok_ (P := SFl W D') (W := nov) (a := Fl.exc c e1) a1.rs h1
theorem dss_cons (h : DS X W s g) (k : DSs X W ss g') : DSs X W (s :: ss) (sSeq g g') := PSs.imp' (pss_cons h k) fun D' σ H h => by
  obtain ⟨w, env, hk, rfl, r, n, h⟩ := h
  exact ⟨w, env, hk, rfl, r, n, seq_wp hk h⟩
theorem dss_one (h : DS X W s g) : DSs X W [s] g := pss_one h
theorem ds_pass : DS X W (.Pass pos) sNop := PS.imp' ps_pass fun D' σ H h => by
  obtain ⟨w, env, hk, rfl, r, n, h⟩ := h
  exact Wp.ok_ (a := Fl.nx env) r h σ n
theorem ds_break : DS X W (.Break pos) (fun env => pure (.brk env)) := PS.imp' ps_break fun D' σ H h => by
  obtain ⟨w, env, hk, rfl, r, n, h⟩ := h
  exact Wp.ok_ (a := Fl.brk env) r h σ n
theorem ds_continue : DS X W (.Continue pos) (fun env => pure (.ct env)) := PS.imp' ps_continue fun D' σ H h => by
  obtain ⟨w, env, hk, rfl, r, n, h⟩ := h
  exact Wp.ok_ (a := Fl.ct env) r h σ n
def sRet (f : Ev → M D) : Ev → M Fl := fun env => stx (f env) env fun d => pure (.ret d)
theorem ds_ret (h : DE X W e fa) : DS X W (.Return (some e) pos) (sRet fa) := PS.imp' (ps_ret h) fun D' σ H h => by
  obtain ⟨w, env, hk, rfl, r, n, h⟩ := h
  exact ⟨w, env, hk, rfl, r, n, (stx_wp n h).imp fun d w1 a1 h1 => Wp.ok_ (a := Fl.ret d) a1.rs h1⟩
def sRetN : Ev → M Fl := fun _ => pure (.ret .non)
theorem ds_retN : DS X W (.Return none pos) sRetN := PS.imp' ps_retN fun D' σ H h => by
  obtain ⟨w, env, hk, rfl, r, n, h⟩ := h
  exact Wp.ok_ (a := Fl.ret .non) r h _ rep_non
def sExpr (f : Ev → M D) : Ev → M Fl := fun env => stx (f env) env fun _ => pure (.nx env)
theorem ds_expr (h : DE X W e fa) (hs : swapsWith e none pos.line X.env = pure false := by rfl) : DS X W (.Expr e pos) (sExpr fa) := PS.imp' (ps_expr h hs) fun D' σ H h => by
  obtain ⟨w, env, hk, rfl, r, n, h⟩ := h
  exact ⟨w, env, hk, rfl, r, n, (stx_wp n h).imp fun d w1 a1 h1 v _ => Wp.ok_ (a := Fl.nx env) a1.rs h1 σ (n.after a1)⟩
def sIf (t : Ev → M Bool) (g g' : Ev → M Fl) : Ev → M Fl := fun env => stx (t env) env fun b => if b = true then g env else g' env
theorem ds_if {t : Ev → M Bool} {as bs : List Stmt} (ht : DT X W c t) (ha : DSs X W as g) (hb : DSs X W bs g') : DS X W (.If c as bs pos) (sIf t g g') := PS.imp' (ps_if ht ha hb) fun D' σ H h => by
  obtain ⟨w, env, hk, rfl, r, n, h⟩ := h
  refine ⟨w, env, hk, rfl, r, n, (stx_wp n h).imp fun b w1 a1 h1 => ?_⟩
  cases b with
  | true => exact iteT ⟨w1, env, a1.k.trans hk, rfl, a1.rs, n.after a1, h1⟩
  | false => exact iteF ⟨w1, env, a1.k.trans hk, rfl, a1.rs, n.after a1, h1⟩
def sAsg (i : Nat) (f : Ev → M D) : Ev → M Fl := fun env => stx (f env) env fun d => pure (.nx (env.set i (some d)))
theorem asg_rd {i : Nat} {D' : Ends} {σ : L2.St} {H : Hp} (h : rdS X.K W (sAsg i fa) D' σ H) : tAsg (rdE X.K W fa) (gName i) D' σ H := by
  obtain ⟨w, env, hk, rfl, r, n, h⟩ := h
  exact ⟨w, env, hk, rfl, r, n, (stx_wp n h).imp fun d w1 a1 h1 v rv => Wp.ok_ (a := Fl.nx (env.set i (some d))) a1.rs h1 _ ((n.after a1).set i rv)⟩
theorem ds_set (i : Nat) {x : Str} {pos' : Pos} (hN : X.N.Nodup) (hi : X.N[i]? = some x) (hx : Loc X.env.scope x) (he : DE X W e fa) (hs : swapsWith e (some (.Name x pos')) pos.line X.env = pure false := by rfl)
    (hf : X.fn x = true ∨ X.env.scope.names.lookup x = some .local := by first | exact .inl rfl | exact .inr rfl) : DS X W (.Assign [.Name x pos'] e pos) (sAsg i fa) := PS.imp' (ps_set hN hi hx he hs hf) fun _ _ _ h => asg_rd h
/-- a, b = e1, e2 -/
def sPar (i j : Nat) (fa fb : Ev → M D) : Ev → M Fl := fun env => stx (fa env) env fun d => stx (fb env) env fun e => pure (.nx ((env.set i (some d)).set j (some e)))
theorem ds_par (i j : Nat) {x y : Str} {px py pt : Pos} {kt k2 pt2} (hc : X.calm = true) (hN : X.N.Nodup) (hi : X.N[i]? = some x) (hj : X.N[j]? = some y) (hij : i ≠ j) (hx : X.env.scope.names.lookup x = some .local) (hy : X.env.scope.names.lookup y = some .local)
    (ha : DE X W a fa) (hb : DE X W b fb) (hst : starEach [a, b] X.env = (false, eval a X.env) :: starEach [b] X.env := by rfl) (hst2 : starEach [b] X.env = (false, eval b X.env) :: starEach [] X.env := by rfl)
    (hw : swappedStores [.Tuple [.Name x px, .Name y py] kt pt] (.Tuple [a, b] k2 pt2) X.env = pure (some [x, y]) := by rfl)
    (hs : swapsWithSole [.Tuple [.Name x px, .Name y py] kt pt] (.Tuple [a, b] k2 pt2) pos.line X.env = pure false := by rfl) : DS X W (.Assign [.Tuple [.Name x px, .Name y py] kt pt] (.Tuple [a, b] k2 pt2) pos) (sPar i j fa fb) :=
  PS.imp' (ps_par hc hN hi hj hij hx hy (pa_cons ha (pa_cons hb pa_nil hst2) hst) hw hs) fun D' σ H h => by
    obtain ⟨w, env, hk, rfl, r, n, h⟩ := h
    refine ⟨w, env, hk, rfl, r, n, (stx_wp n h).imp fun d w1 a1 h1 v rv => ?_⟩
    refine ⟨w1, env, a1.k.trans hk, rfl, a1.rs, n.after a1, (stx_wp (n.after a1) h1).imp fun e w2 a2 h2 u ru => ?_⟩
    exact ⟨v, u, rfl, Wp.ok_ (a := Fl.nx ((env.set i (some d)).set j (some e))) a2.rs h2 _ ((((n.after a1).after a2).set i (a2.rep rv)).set j ru)⟩
/-- a statement at which the run may not come -/
theorem ds_never : DS X W s (fun _ => M.stuck) := PS.imp' ps_never fun D' σ H h => by
  obtain ⟨w, env, hk, rfl, r, n, h⟩ := h
  exact h.elim
theorem dss_never : DSs X W ss (fun _ => M.stuck) := PSs.imp' pss_never fun D' σ H h => by
  obtain ⟨w, env, hk, rfl, r, n, h⟩ := h
  exact h.elim
/-! ## targets of loops and comprehensions -/
theorem wipe_at (σ : L2.St) (j : Nat) : ∀ vs : List Nat, (wipe σ vs)[j]? = if j ∈ vs then (σ[j]?).map (fun _ => none) else σ[j]?
  | [] => by simp [wipe]
  | v :: vs => by
    unfold wipe
    by_cases hj : v = j
    · subst hj
      rw [if_pos (List.mem_cons_self ..)]
      by_cases hl : v < (wipe σ vs).length
      · rw [List.getElem?_set_self hl]
        rw [wipe_length] at hl
        rw [List.getElem?_eq_getElem hl]
        rfl
      · rw [List.getElem?_eq_none (by rw [List.length_set]; omega)]
        rw [wipe_length] at hl
        rw [List.getElem?_eq_none (by omega)]
        rfl
    · rw [List.getElem?_set_ne hj, wipe_at σ j vs]
      by_cases hm : j ∈ vs
      · rw [if_pos hm, if_pos (List.mem_cons_of_mem _ hm)]
      · rw [if_neg hm, if_neg (by simp only [List.mem_cons, not_or]; exact ⟨fun z => hj z.symm, hm⟩)]
theorem wipe_set {σ : L2.St} {i : Nat} {x : Option V} {vs : List Nat} (h : i ∈ vs) : wipe (σ.set i x) vs = wipe σ vs := by
  refine List.ext_getElem? fun j => ?_
  rw [wipe_at, wipe_at]
  by_cases hm : j ∈ vs
  · rw [if_pos hm, if_pos hm]
    by_cases hj : i = j
    · subst hj
      by_cases hl : i < σ.length
      · rw [List.getElem?_set_self hl, List.getElem?_eq_getElem hl]; rfl
      · rw [List.getElem?_eq_none (by rw [List.length_set]; omega), List.getElem?_eq_none (by omega)]
    · rw [List.getElem?_set_ne hj]
  · rw [if_neg hm, if_neg hm, List.getElem?_set_ne (fun z : i = j => hm (by rw [← z]; exact h))]
theorem wipe_wipe (σ : L2.St) (vs : List Nat) : wipe (wipe σ vs) vs = wipe σ vs := by
  refine List.ext_getElem? fun j => ?_
  rw [wipe_at, wipe_at]
  by_cases hm : j ∈ vs
  · rw [if_pos hm, if_pos hm]; cases σ[j]? <;> rfl
  · rw [if_neg hm, if_neg hm]
def evWipe (env : Ev) : List Nat → Ev
  | [] => env
  | v :: vs => (evWipe env vs).set v none
theorem REnv.wipe {w : Wd} {env : Ev} {σ : L2.St} (h : REnv w env σ) : ∀ vs : List Nat, REnv w (evWipe env vs) (L2.wipe σ vs)
  | [] => h
  | v :: vs => (REnv.wipe h vs).forget v
def TgOk (K : PySem.W.Frag) (t : TG) (tg : D → Ev → Option Ev) (is : List Nat) : Prop := ∀ (w : Wd) (env : Ev) (σ : L2.St) (d : D) (v : V) (env' : Ev) (Q : L2.St → Hp → Prop), w.K = K → REnv w env σ → Rep w d v → tg d env = some env' →
  (∀ σ', REnv w env' σ' → (∀ vs : List Nat, (∀ i ∈ is, i ∈ vs) → wipe σ' vs = wipe σ vs) → Q σ' w.H) → t v σ w.H Q
def tgName (i : Nat) : D → Ev → Option Ev := fun d env => some (env.set i (some d))
def tgPair (i j : Nat) : D → Ev → Option Ev := fun d env => match d with
  | .tup [a, b] => some ((env.set i (some a)).set j (some b))
  | _ => none
theorem tgok_name (K : PySem.W.Frag) (i : Nat) : TgOk K (gName i) (tgName i) [i] := fun w env σ d v env' Q hk n r e q => by
  cases e
  exact q _ (n.set i r) fun vs hv => wipe_set (hv i (by simp))
theorem tgok_pair (K : PySem.W.Frag) (i j : Nat) : TgOk K (gTup K 2 (gCons (gName i) (gCons (gName j) gNil))) (tgPair i j) [i, j] := fun w env σ d v env' Q hk n r e q => by
  unfold tgPair at e
  split at e
  · rename_i a b
    cases e
    simp only [Rep] at r
    obtain ⟨x, xs, rfl, s, r, _⟩ := r
    obtain ⟨u1, u2, rfl, r1, r2⟩ := reps2 r
    refine ⟨x, [u1, u2], rfl, by rw [← hk]; exact s, rfl, u1, [u2], rfl, u2, [], rfl, rfl, ?_⟩
    refine q _ ((n.set i r1).set j r2) fun vs hv => ?_
    rw [wipe_set (hv j (by simp)), wipe_set (hv i (by simp))]
  · cases e
/-! ## what is walked -/
structure Walks (w : Wd) (J : It) (l : List D) : Prop where
  step : ∀ w' : Wd, w'.K = w.K → RS w' → Bears w w' → ∀ (i : Nat) (d : D), l[i]? = some d → J.go i w'.H ∧ ∀ x H', J.yld i w'.H x H' → ∃ w'', Aft w' w'' ∧ w''.st = w'.st ∧ w''.H = H' ∧ w''.m = w'.m ∧ Rep w'' d x
  stop : ∀ w' : Wd, w'.K = w.K → RS w' → Bears w w' → J.stop l.length w'.H
  len : l.length ≤ sizeLine
def rdI (K : PySem.W.Frag) (W : XW) (f : Ev → M (List D)) : TI := fun σ H R => ∃ (w : Wd) (env : Ev), w.K = K ∧ w.H = H ∧ RS w ∧ REnv w env σ ∧ Wp w (f env w.st) (fun l w' => ∀ J, Walks w' J l → R J w'.H) (fun c w' => W c σ w'.H)
def DI (X : Cx) (W : XW) (tg iter : Expr) (f : Ev → M (List D)) : Prop := PI X tg iter (rdI X.K W f)
theorem PI.imp' {tg iter : Expr} {t t' : TI} (h : PI X tg iter t) (k : ∀ σ H R, t' σ H R → t σ H R) : PI X tg iter t' := ⟨fun pins s σ H R I z => h.run pins s σ H R I (k σ H R z)⟩
theorem PI.or' {tg iter : Expr} {t t' : TI} (h : PI X tg iter t) (h' : PI X tg iter t') : PI X tg iter (fun σ H R => t σ H R ∨ t' σ H R) := ⟨fun pins s σ H R I z => z.elim (h.run pins s σ H R I) (h'.run pins s σ H R I)⟩
/-- a list's, a tuple's items -/
def itemsL : D → M (List D)
  | .lst l => pure l
  | _ => M.stuck
def itemsT : D → M (List D)
  | .tup l => pure l
  | _ => M.stuck
def items : D → M (List D)
  | .lst l => pure l
  | .tup l => pure l
  | _ => M.stuck
theorem walks_list {w : Wd} {a : Addr} {l : List D} (r : Rep w (.lst l) (.ref a)) : Walks w (Itl w.K a) l where
  step := fun w' hk rs b i d e => by
    have r' := b.rep _ _ r
    simp only [Rep] at r'
    obtain ⟨a', xs, ea, s, rr, _⟩ := r'
    cases ea
    obtain ⟨x, ex, rx⟩ := reps_at rr e
    refine ⟨⟨xs, x, SqL.of s.1.1, ex⟩, fun y H' hy => ?_⟩
    obtain ⟨rfl, hy⟩ := hy
    have := hy xs (SqL.of s.1.1)
    rw [ex] at this
    cases this
    exact ⟨w', .refl rs, rfl, rfl, rfl, rx⟩
  stop := fun w' hk rs b => by
    have r' := b.rep _ _ r
    simp only [Rep] at r'
    obtain ⟨a', xs, ea, s, rr, _⟩ := r'
    cases ea
    exact ⟨xs, SqL.of s.1.1, by rw [reps_len rr]; exact Nat.le_refl _⟩
  len := by simp only [Rep] at r; obtain ⟨_, _, _, _, _, h⟩ := r; exact h
theorem walks_tup {w : Wd} {a : Addr} {l : List D} (r : Rep w (.tup l) (.ref a)) : Walks w (Itt w.K a) l where
  step := fun w' hk rs b i d e => by
    have r' := b.rep _ _ r
    simp only [Rep] at r'
    obtain ⟨a', xs, ea, s, rr, _⟩ := r'
    cases ea
    obtain ⟨x, ex, rx⟩ := reps_at rr e
    rw [hk] at s
    refine ⟨⟨xs, x, s, ex⟩, fun y H' hy => ?_⟩
    obtain ⟨rfl, hy⟩ := hy
    have := hy xs s
    rw [ex] at this
    cases this
    exact ⟨w', .refl rs, rfl, rfl, rfl, rx⟩
  stop := fun w' hk rs b => by
    have r' := b.rep _ _ r
    simp only [Rep] at r'
    obtain ⟨a', xs, ea, s, rr, _⟩ := r'
    cases ea
    rw [hk] at s
    exact ⟨xs, s, by rw [reps_len rr]; exact Nat.le_refl _⟩
  len := by simp only [Rep] at r; obtain ⟨_, _, _, _, _, h⟩ := r; exact h
def iSeq (f : Ev → M D) : Ev → M (List D) := fun env => do
  let d ← f env
  items d
theorem di_seq {tg : Expr} (h : DE X W e fa) : DI X W tg e (iSeq fa) := by
  have hL : PI X tg e (iList X.K (rdE X.K W fa)) := pi_list h
  have hT : PI X tg e (iTup X.K (rdE X.K W fa)) := pi_tup h
  refine PI.imp' (PI.or' hL hT) fun σ H R h => ?_
  obtain ⟨w, env, hk, rfl, r, n, h⟩ := h
  have h1 := Wp.bind h
  cases ef : fa env w.st with
  | bad => rw [ef] at h1; exact h1.elim
  | err c st' =>
    rw [ef] at h1
    exact .inl ⟨w, env, hk, rfl, r, n, by rw [ef]; exact h1⟩
  | ok d st' =>
    rw [ef] at h1
    cases d with
    | lst l =>
      refine .inl ⟨w, env, hk, rfl, r, n, ?_⟩
      rw [ef]
      intro w1 a1 e1 v rv
      have h2 := Wp.ok_ (a := l) a1.rs (h1 w1 a1 e1)
      have rv0 := rv
      simp only [Rep] at rv
      obtain ⟨a, xs, rfl, s, _⟩ := rv
      exact ⟨a, rfl, ⟨xs, SqL.of s.1.1⟩, by rw [← hk, ← a1.k]; exact h2 _ (walks_list rv0)⟩
    | tup l =>
      refine .inr ⟨w, env, hk, rfl, r, n, ?_⟩
      rw [ef]
      intro w1 a1 e1 v rv
      have h2 := Wp.ok_ (a := l) a1.rs (h1 w1 a1 e1)
      have rv0 := rv
      simp only [Rep] at rv
      obtain ⟨a, xs, rfl, s, _⟩ := rv
      exact ⟨a, rfl, ⟨xs, by rw [← hk, ← a1.k]; exact s⟩, by rw [← hk, ← a1.k]; exact h2 _ (walks_tup rv0)⟩
    | _ => exact .inl ⟨w, env, hk, rfl, r, n, by rw [ef]; intro w1 a1 e1; exact (h1 w1 a1 e1).elim⟩
end
end G
end

section
set_option Elab.async false
set_option linter.all false
set_option autoImplicit false
set_option maxRecDepth 100000
set_option maxHeartbeats 1000000
namespace G
open PySem PySem.Spec PyProof.Rows L2
section
variable {X : Cx} {W : XW} {e a b c : Expr} {s : Stmt} {ss : List Stmt} {pos : Pos} {fa fb fc : Ev → M D} {g g' : Ev → M Fl}
/-! ## range -/
def rangeD (n : Nat) : List D := (List.range n).map fun (k : Nat) => D.int (k : Int)
def iRange (f : Ev → M D) : Ev → M (List D) := fun env => do
  let d ← f env
  let i ← asI d
  if i ≤ 16777216 ∧ -16777216 ≤ i then pure (rangeD i.toNat) else M.stuck
theorem rangeD_at {n i : Nat} {d : D} (h : (rangeD n)[i]? = some d) : i < n ∧ d = .int (i : Int) := by
  unfold rangeD at h
  rw [List.getElem?_map] at h
  by_cases hi : i < n
  · rw [List.getElem?_range hi] at h
    cases h
    exact ⟨hi, rfl⟩
  · rw [List.getElem?_eq_none (by simp; omega)] at h
    cases h
theorem rangeD_len (n : Nat) : (rangeD n).length = n := by simp [rangeD]
theorem walks_range {w : Wd} {n : Nat} (hn : n ≤ sizeLine) : Walks w (Itr 0 n) (rangeD n) where
  step := fun w' hk rs b i d e => by
    obtain ⟨hi, rfl⟩ := rangeD_at e
    refine ⟨hi, fun x H' hx => ?_⟩
    obtain ⟨rfl, rfl⟩ := hx
    exact ⟨w', .refl rs, rfl, rfl, rfl, by simp [Rep]⟩
  stop := fun w' hk rs b => by rw [rangeD_len]; exact Nat.le_refl _
  len := by rw [rangeD_len]; exact hn
theorem di_range {tg : Expr} {p : Pos} (hg : Gl X "range") (hm : X.mg "range" = none) (h : DE X W a fa) (hst : starEach [a] X.env = (false, eval a X.env) :: starEach [] X.env := by rfl) : DI X W tg (.Call (.Name "range" p) [a] [] pos) (iRange fa) := by
  refine PI.imp' (pi_range1 hg hm (pa_cons (es := []) h pa_nil hst) (hs := hst)) fun σ H R h => ?_
  obtain ⟨w, env, hk, rfl, r, n, h⟩ := h
  refine ⟨w, env, hk, rfl, r, n, (Wp.bind h).imp fun d w1 a1 h1 v rv => ?_⟩
  obtain ⟨i, rfl, h2⟩ := asI_wp a1.rs (Wp.bind h1)
  simp only [Rep] at rv
  by_cases hc : i ≤ 16777216 ∧ -16777216 ≤ i
  · rw [if_pos hc] at h2
    refine ⟨i, by rw [rv], by omega, by omega, ?_⟩
    exact Wp.ok_ (a := rangeD i.toNat) a1.rs h2 _ (walks_range (by rw [sizeLine_eq]; omega))
  · rw [if_neg hc] at h2
    exact h2.elim
/-! ## for -/
def forGo (tg : D → Ev → Option Ev) (g : Ev → M Fl) : List D → Ev → M Fl
  | [], env => pure (.nx env)
  | d :: r, env => match tg d env with
    | none => M.stuck
    | some e1 => do
      let fl ← g e1
      match fl with
      | .nx e2 => forGo tg g r e2
      | .ct e2 => forGo tg g r e2
      | .brk e2 => pure (.nx e2)
      | .ret d => pure (.ret d)
      | .exc c e2 => pure (.exc c e2)
def sFor (fi : Ev → M (List D)) (tg : D → Ev → Option Ev) (g : Ev → M Fl) : Ev → M Fl := fun env => stx (fi env) env fun l => forGo tg g l env
theorem ds_for {tgt iter : Expr} {body : List Stmt} {t : TG} {tg : D → Ev → Option Ev} {is : List Nat} {fi : Ev → M (List D)} (hp : PassesOwn (model X.prog X.w) X.A X.env X.xe) (hc : X.calm = true) (hi : DI X W tgt iter fi) (hg : PG X tgt t) (ht : TgOk X.K t tg is) (hb : DSs X W body g)
    (hs : ∀ x, foldedSetIterable iter X.env x = pure x := by intro _; rfl) : DS X W (.For tgt iter body [] pos) (sFor fi tg g) := PS.imp' (ps_for hp hc hi hg hb hs) fun D' σ H h => by
  obtain ⟨w, env, hk, rfl, r, n, h⟩ := h
  refine ⟨w, env, hk, rfl, r, n, (stx_wp n h).imp fun l w1 a1 h1 J hJ => ?_⟩
  refine ⟨fun i m σ H => m + i = l.length ∧ ∃ (w' : Wd) (env' : Ev), w'.K = w1.K ∧ w'.H = H ∧ RS w' ∧ Bears w1 w' ∧ REnv w' env' σ ∧ Wp w' (forGo tg g (l.drop i) env' w'.st) (SFl W D') nov,
    ⟨l.length, by simp, w1, env, rfl, rfl, a1.rs, (Aft.refl a1.rs).bears, n.after a1, h1⟩, ?_⟩
  rintro i m σ1 H1 ⟨hm, w', env', hk', rfl, rs', b', n', h'⟩
  have hi : i ≤ l.length := by omega
  by_cases he : i = l.length
  · refine .inl ⟨by rw [he]; exact hJ.stop w' hk' rs' b', ?_⟩
    rw [he, List.drop_length] at h'
    exact Wp.ok_ (a := Fl.nx env') rs' h' σ1 n'
  · have hlt : i < l.length := by omega
    rw [List.drop_eq_getElem_cons hlt] at h'
    obtain ⟨go, yl⟩ := hJ.step w' hk' rs' b' i l[i] (by simp [hlt])
    refine .inr ⟨go, fun σ' H' => (m - 1) + (i + 1) = l.length ∧ ∃ (w' : Wd) (env' : Ev), w'.K = w1.K ∧ w'.H = H' ∧ RS w' ∧ Bears w1 w' ∧ REnv w' env' σ' ∧ Wp w' (forGo tg g (l.drop (i + 1)) env' w'.st) (SFl W D') nov,
      fun σ' H' hN => ⟨m - 1, by omega, hN⟩, fun x H' hx => ?_⟩
    obtain ⟨w2, a2, e2, rfl, em2, rx⟩ := yl x H' hx
    unfold forGo at h'
    cases et : tg l[i] env' with
    | none => rw [et] at h'; exact h'.elim
    | some e1 =>
      rw [et] at h'
      refine ht w2 env' σ1 l[i] x e1 _ (a2.k.trans (hk'.trans (a1.k.trans hk))) (n'.after a2) rx et fun σ2 n2 _ => ?_
      have hb' := (h'.after a2)
      rw [← e2] at hb'
      refine ⟨w2, e1, a2.k.trans (hk'.trans (a1.k.trans hk)), rfl, a2.rs, n2, (Wp.bind hb').imp fun fl w3 a3 h3 => ?_⟩
      have b3 : Bears w1 w3 := (b'.trans a2.bears).trans a3.bears
      have k3 : w3.K = w1.K := a3.k.trans (a2.k.trans hk')
      cases fl with
      | nx e3 => exact fun σ3 n3 => ⟨by omega, w3, e3, k3, rfl, a3.rs, b3, n3, h3⟩
      | ct e3 => exact fun σ3 n3 => ⟨by omega, w3, e3, k3, rfl, a3.rs, b3, n3, h3⟩
      | brk e3 => exact Wp.ok_ (P := SFl W D') (W := nov) (a := Fl.nx e3) a3.rs h3
      | ret d => exact Wp.ok_ (P := SFl W D') (W := nov) (a := Fl.ret d) a3.rs h3
      | exc c e3 => exact Wp.ok_ (P := SFl W D') (W := nov) (a := Fl.exc c e3) a3.rs h3
/-! ## list comprehensions -/
/-- within a comprehension nothing is raised -/
def noErr {α : Type} (x : M α) : M α := fun st => match x st with
  | .ok a st' => .ok a st'
  | _ => .bad
def compGo (tg : D → Ev → Option Ev) (tt : Ev → M Bool) (fe : Ev → M D) (env : Ev) : List D → List D → M (List D)
  | [], acc => pure acc
  | d :: r, acc => match tg d env with
    | none => M.stuck
    | some e1 => do
      let b ← noErr (tt e1)
      if b = true then do
        let y ← noErr (fe e1)
        compGo tg tt fe env r (acc ++ [y])
      else compGo tg tt fe env r acc
def eComp (vs : List Nat) (fi : Ev → M (List D)) (tg : D → Ev → Option Ev) (tt : Ev → M Bool) (fe : Ev → M D) : Ev → M D := fun env => do
  let l ← fi env
  let ds ← compGo tg tt fe (evWipe env vs) l []
  pure (.lst ds)
/-- a later world, up to the reserved addresses -/
def Lat (w1 w' : Wd) : Prop := Aft w1 ⟨w'.K, w'.m, w'.st, w'.H, w1.rv⟩
theorem bears_rv {w : Wd} {rv' : List Addr} (h : ∀ x, x ∈ rv' → x ∈ w.rv) : Bears w ⟨w.K, w.m, w.st, w.H, rv'⟩ := ⟨fun _ _ => rfl, Nat.le_refl _, fun _ _ q => q, fun x o q => ⟨q.1, fun z => q.2 (h x z)⟩⟩
theorem cell_rv {w : Wd} {rv' : List Addr} (h : ∀ x, x ∈ rv' → x ∈ w.rv) {x : Addr} {c : Cell} (q : CellOk w x c) : CellOk ⟨w.K, w.m, w.st, w.H, rv'⟩ x c := cell_bears (bears_rv h) (fun o q _ => q) (fun _ q => q) rfl q
/-- a new list at a free address that is reserved -/
theorem bears_res {w : Wd} {p : Addr} {o : HO} (hp : w.H p = none) : Bears w ⟨w.K, w.m, w.st, upd w.H p o, p :: w.rv⟩ := ⟨fun _ _ => rfl, Nat.le_refl _, fun _ _ q => sqT_same (same_upd hp) q, fun x u q => ⟨⟨same_upd hp _ _ q.1.1, q.1.2⟩, fun z => by
  rcases List.mem_cons.mp z with z | z
  · subst z; exact absurd (q.1.1.symm.trans hp) (by simp)
  · exact q.2 z⟩⟩
theorem noErr_ok {α : Type} {x : M α} {st st' : Store} {a : α} (h : noErr x st = .ok a st') : x st = .ok a st' := by
  unfold noErr at h
  cases e : x st with
  | ok b s1 => rw [e] at h; cases h; rfl
  | err c s1 => rw [e] at h; cases h
  | bad => rw [e] at h; cases h
theorem bind_inv {α β : Type} {x : M α} {f : α → M β} {st st' : Store} {b : β} (h : (x >>= f) st = .ok b st') : ∃ a s1, x st = .ok a s1 ∧ f a s1 = .ok b st' := by
  have h : M.andThen x f st = .ok b st' := h
  unfold M.andThen at h
  cases e : x st with
  | ok a s1 => rw [e] at h; exact ⟨a, s1, rfl, h⟩
  | err c s1 => rw [e] at h; cases h
  | bad => rw [e] at h; cases h
theorem compGo_len {tg : D → Ev → Option Ev} {tt : Ev → M Bool} {fe : Ev → M D} {env : Ev} : ∀ {l acc ds : List D} {st st' : Store}, compGo tg tt fe env l acc st = .ok ds st' → ds.length ≤ acc.length + l.length
  | [], acc, ds, st, st', h => by cases h; simp
  | d :: r, acc, ds, st, st', h => by
    unfold compGo at h
    cases et : tg d env with
    | none => rw [et] at h; cases h
    | some e1 =>
      rw [et] at h
      obtain ⟨b, s1, _, h2⟩ := bind_inv h
      cases b with
      | true =>
        obtain ⟨y, s2, _, h3⟩ := bind_inv h2
        have := compGo_len h3
        simp at this ⊢; omega
      | false =>
        have := compGo_len h2
        simp at this ⊢; omega
theorem wp_nov {α : Type} {w : Wd} {r : Res α} {P : α → Wd → Prop} {V' : Str → Wd → Prop} {a : α} {st : Store} (e : r = .ok a st) (h : ∀ w', Aft w w' → w'.st = st → P a w') : Wp w r P V' := by rw [e]; exact h
theorem comp_rd {vs : List Nat} {fi : Ev → M (List D)} {tg : D → Ev → Option Ev} {is : List Nat} {tt : Ev → M Bool} {fe : Ev → M D} {t : TG} (ht : TgOk X.K t tg is) (hv : ∀ i ∈ is, i ∈ vs) {σ : L2.St} {H : Hp} {Q : VK} (h : rdE X.K W (eComp vs fi tg tt fe) σ H Q) :
    tLc (rdI X.K W fi) t (rdT X.K (fun _ _ _ => False) tt) (rdE X.K (fun _ _ _ => False) fe) vs σ H Q := by
  obtain ⟨w, env, hk, rfl, r, n, h⟩ := h
  refine ⟨w, env, hk, rfl, r, n, (Wp.bind h).imp fun l w1 a1 h1 J hJ Dn hD => ?_⟩
  have h2 := Wp.bind h1
  have hk1 : w1.K = X.K := a1.k.trans hk
  -- the whole loop ends well
  obtain ⟨dsf, stf, ef⟩ : ∃ dsf stf, compGo tg tt fe (evWipe env vs) l [] w1.st = .ok dsf stf := by
    cases er : compGo tg tt fe (evWipe env vs) l [] w1.st with
    | ok dsf stf => exact ⟨dsf, stf, rfl⟩
    | bad => rw [er] at h2; exact h2.elim
    | err c stf =>
      exfalso
      have : ∀ (l acc : List D) (st : Store), compGo tg tt fe (evWipe env vs) l acc st ≠ .err c stf := by
        intro l
        induction l with
        | nil => intro acc st q; cases q
        | cons d r ih =>
          intro acc st q
          unfold compGo at q
          cases et : tg d (evWipe env vs) with
          | none => rw [et] at q; cases q
          | some e1 =>
            rw [et] at q
            have q : M.andThen (noErr (tt e1)) (fun b => if b = true then M.andThen (noErr (fe e1)) (fun y => compGo tg tt fe (evWipe env vs) r (acc ++ [y])) else compGo tg tt fe (evWipe env vs) r acc) st = .err c stf := q
            unfold M.andThen at q
            cases e2 : noErr (tt e1) st with
            | bad => rw [e2] at q; cases q
            | err c' s' => unfold noErr at e2; split at e2 <;> cases e2
            | ok b s1 =>
              rw [e2] at q
              simp only at q
              cases b with
              | false => exact ih _ _ q
              | true =>
                simp only [if_true] at q
                cases e3 : noErr (fe e1) s1 with
                | bad => rw [e3] at q; cases q
                | err c' s' => unfold noErr at e3; split at e3 <;> cases e3
                | ok y s2 => rw [e3] at q; exact ih _ _ q
      exact this _ _ _ er
  have hfin : ∀ w2, Aft w1 w2 → w2.st = stf → ∀ v, Rep w2 (.lst dsf) v → Q v w2.H := fun w2 a2 e2 => by
    rw [ef] at h2
    exact Wp.ok_ (a := D.lst dsf) a2.rs (h2 w2 a2 e2)
  refine ⟨fun i m H => m + i = l.length ∧ ∃ (w' : Wd) (ds : List D) (acc : List V), w'.K = X.K ∧ w'.H = H ∧ RS w' ∧ w'.rv = Dn :: w1.rv ∧ Lat w1 w' ∧ Bears w1 w' ∧ H Dn = some (.lst acc) ∧ Reps w' ds acc ∧ ds.length ≤ i ∧ compGo tg tt fe (evWipe env vs) (l.drop i) ds w'.st = .ok dsf stf,
    ⟨l.length, by simp, ⟨w1.K, w1.m, w1.st, upd w1.H Dn (.lst []), Dn :: w1.rv⟩, [], [], hk1, rfl, ?_, rfl, ?_, ?_, upd_same, by simp [Reps], Nat.zero_le _, by rw [List.drop_zero]; exact ef⟩, ?_⟩
  · -- the world with the new list
    have a0 : Aft w1 ⟨w1.K, w1.m, w1.st, upd w1.H Dn (.lst []), w1.rv⟩ := aft_new a1.rs hD
    refine ⟨fun i c hc => ?_, a0.rs.inj, fun x hx z => ?_, fun x hx z => ?_⟩
    · exact cell_bears (bears_res hD) (fun o q _ => same_upd hD _ _ q) (fun _ q => roL_same (same_upd hD) q) rfl (a1.rs.cells i c hc)
    · rcases List.mem_cons.mp hx with rfl | hx
      · have z : upd w1.H x (.lst []) x = none := z; rw [upd_same] at z; cases z
      · exact a0.rs.rvs x hx z
    · rcases List.mem_cons.mp hx with rfl | hx
      · exact (fz_new (w := w1) (o := .lst []) a1.rs hD).2 z
      · exact a0.rs.rvo x hx z
  · exact aft_new a1.rs hD
  · exact bears_res hD
  · rintro i m H1 ⟨hm, w', ds, acc, hk', rfl, rs', rv', lat, b', hDa, rd, hdl, eq⟩
    have hnD : ∀ x, x ∈ w1.rv → x ≠ Dn := fun x hx z => a1.rs.rvs x hx (by rw [z]; exact hD)
    have own' : ¬ Own w'.m w'.st Dn := rs'.rvo Dn (by rw [rv']; exact List.mem_cons_self ..)
    by_cases he : i = l.length
    · refine .inl ⟨by rw [he]; exact hJ.stop w' (hk'.trans hk1.symm) rs' b', ?_⟩
      rw [he, List.drop_length] at eq
      cases eq
      refine hfin ⟨w'.K, w'.m, w'.st, w'.H, w1.rv⟩ lat rfl (.ref Dn) ?_
      simp only [Rep]
      refine ⟨Dn, acc, rfl, ⟨⟨hDa, own'⟩, fun z => hnD Dn z rfl⟩, ?_, ?_⟩
      · exact (bears_rv fun x hx => by rw [rv']; exact List.mem_cons_of_mem _ hx).reps _ _ rd
      · exact Nat.le_trans hdl (by rw [he]; exact hJ.len)
    · have hlt : i < l.length := by omega
      rw [List.drop_eq_getElem_cons hlt] at eq
      obtain ⟨go, yl⟩ := hJ.step w' (hk'.trans hk1.symm) rs' b' i l[i] (by simp [hlt])
      refine .inr ⟨go, fun H' => (m - 1) + (i + 1) = l.length ∧ ∃ (w' : Wd) (ds : List D) (acc : List V), w'.K = X.K ∧ w'.H = H' ∧ RS w' ∧ w'.rv = Dn :: w1.rv ∧ Lat w1 w' ∧ Bears w1 w' ∧ H' Dn = some (.lst acc) ∧ Reps w' ds acc ∧ ds.length ≤ i + 1 ∧ compGo tg tt fe (evWipe env vs) (l.drop (i + 1)) ds w'.st = .ok dsf stf,
        fun H' hN => ⟨m - 1, by omega, hN⟩, fun x H' hx => ?_⟩
      obtain ⟨w2, a2, e2, rfl, em2, rx⟩ := yl x H' hx
      unfold compGo at eq
      cases et : tg l[i] (evWipe env vs) with
      | none => rw [et] at eq; cases eq
      | some e1 =>
        rw [et] at eq
        obtain ⟨bb, s3, eb, eq3⟩ := bind_inv eq
        have eb := noErr_ok eb
        -- after any step of the turn the list so far stands
        have keep : ∀ w3, Aft w' w3 → w3.K = X.K ∧ RS w3 ∧ w3.rv = Dn :: w1.rv ∧ Lat w1 w3 ∧ Bears w1 w3 ∧ w3.H Dn = some (.lst acc) ∧ Reps w3 ds acc := fun w3 a3 => by
          refine ⟨a3.k.trans hk', a3.rs, a3.rv.trans rv', ?_, b'.trans a3.bears, (a3.fz Dn _ ⟨hDa, own'⟩).1, a3.reps rd⟩
          refine lat.trans ⟨a3.k, rfl, ⟨fun i c hc => cell_rv (fun x hx => by rw [a3.rv, rv']; exact List.mem_cons_of_mem _ hx) (a3.rs.cells i c hc), a3.rs.inj, fun x hx => a3.rs.rvs x (by rw [a3.rv, rv']; exact List.mem_cons_of_mem _ hx), fun x hx => a3.rs.rvo x (by rw [a3.rv, rv']; exact List.mem_cons_of_mem _ hx)⟩, a3.ext, a3.len, a3.tup, a3.fz⟩
        refine ht w2 (evWipe env vs) (wipe σ vs) l[i] x e1 _ (a2.k.trans hk') ?_ rx et fun σ2 n2 hw2 => ?_
        · have nb : REnv w' (evWipe env vs) (wipe σ vs) := ⟨((n.after a1).wipe vs).len, fun j d ej => let ⟨v, e1, rv⟩ := ((n.after a1).wipe vs).at_ j d ej; ⟨v, e1, b'.rep _ _ rv⟩⟩
          exact nb.after a2
        · refine ⟨by rw [hw2 vs hv, wipe_wipe], ?_⟩
          refine ⟨w2, e1, a2.k.trans hk', rfl, a2.rs, n2, wp_nov (by rw [e2]; exact eb) fun w3 a3 e3 => ?_⟩
          cases bb with
          | false =>
            refine iteF ⟨by omega, w3, ds, acc, ?_⟩
            obtain ⟨k1, k2, k3, k4, k5, k6, k7⟩ := keep w3 (a2.trans a3)
            exact ⟨k1, rfl, k2, k3, k4, k5, k6, k7, by omega, by rw [e3]; exact eq3⟩
          | true =>
            obtain ⟨y, s4, ey, eq4⟩ := bind_inv eq3
            have ey := noErr_ok ey
            refine iteT ⟨w3, e1, a3.k.trans (a2.k.trans hk'), rfl, a3.rs, n2.after a3, wp_nov (by rw [e3]; exact ey) fun w4 a4 e4 v rv => ?_⟩
            obtain ⟨k1, k2, k3, k4, k5, k6, k7⟩ := keep w4 ((a2.trans a3).trans a4)
            have own4 : ¬ Own w4.m w4.st Dn := k2.rvo Dn (by rw [k3]; exact List.mem_cons_self ..)
            refine ⟨acc, k6, by rw [reps_len k7]; exact Nat.lt_of_le_of_lt hdl (Nat.lt_of_lt_of_le hlt hJ.len), by omega, ⟨w4.K, w4.m, w4.st, upd w4.H Dn (.lst (acc ++ [v])), w4.rv⟩, ds ++ [y], acc ++ [v], k1, rfl, ?_⟩
            -- the write at the reserved address
            have up : ∀ b u, b ≠ Dn → w4.H b = some u → upd w4.H Dn (.lst (acc ++ [v])) b = some u := fun b u hb q => by rw [upd_ne hb]; exact q
            have tupk : ∀ a xs, SqT w4.K w4.H a xs → SqT w4.K (upd w4.H Dn (.lst (acc ++ [v]))) a xs := fun a xs q => by
              rcases q with (q | ⟨o, q⟩) | q
              · exact .inl (.inl (up _ _ (ne_of q k6 (by intro z; cases z)) q))
              · exact .inl (.inr ⟨o, up _ _ (ne_of q k6 (by intro z; cases z)) q⟩)
              · exact .inr q
            have bW : Bears w4 ⟨w4.K, w4.m, w4.st, upd w4.H Dn (.lst (acc ++ [v])), w4.rv⟩ := ⟨fun _ _ => rfl, Nat.le_refl _, tupk, fun x o q => ⟨⟨up _ _ (fun z => q.2 (by rw [z, k3]; exact List.mem_cons_self ..)) q.1.1, q.1.2⟩, q.2⟩⟩
            have cellk : ∀ i c, w4.st[i]? = some c → CellOk ⟨w4.K, w4.m, w4.st, upd w4.H Dn (.lst (acc ++ [v])), w4.rv⟩ (w4.m i) c := fun i c hc => by
              have q := k2.cells i c hc
              by_cases lv : c.live
              · have hne : w4.m i ≠ Dn := fun z => own4 ⟨i, c, hc, lv, z⟩
                exact cell_bears bW (fun o q _ => up _ _ hne q) (fun xs q => by
                  rcases q with ⟨u, q⟩ | q
                  · exact .inl ⟨u, up _ _ hne q⟩
                  · exact .inr q) rfl q
              · cases c with
                | ro l' =>
                  obtain ⟨xs, q1, q2, q3⟩ := q
                  refine ⟨xs, ?_, bW.reps _ _ q2, q3⟩
                  rcases q1 with ⟨u, q1⟩ | q1
                  · exact .inl ⟨u, up _ _ (ne_of q1 k6 (by intro z; cases z)) q1⟩
                  · exact .inr q1
                | dead => trivial
                | _ => exact absurd trivial lv
            have rsW : RS ⟨w4.K, w4.m, w4.st, upd w4.H Dn (.lst (acc ++ [v])), w4.rv⟩ := ⟨cellk, k2.inj, fun x hx z => by
                by_cases hxD : x = Dn
                · subst hxD; have z : upd w4.H x (.lst (acc ++ [v])) x = none := z; rw [upd_same] at z; cases z
                · have z : upd w4.H Dn (.lst (acc ++ [v])) x = none := z; rw [upd_ne hxD] at z; exact k2.rvs x hx z, k2.rvo⟩
            refine ⟨rsW, k3, ?_, k5.trans bW, upd_same, ?_, by rw [List.length_append]; simp; omega, by rw [e4]; exact eq4⟩
            · -- up to the reserved address all is later
              refine ⟨k4.k, rfl, ⟨fun i c hc => cell_rv (w := ⟨w4.K, w4.m, w4.st, upd w4.H Dn (.lst (acc ++ [v])), w4.rv⟩) (fun x hx => by show x ∈ w4.rv; rw [k3]; exact List.mem_cons_of_mem _ hx) (cellk i c hc), k2.inj, fun x hx z => ?_, fun x hx => k2.rvo x (by rw [k3]; exact List.mem_cons_of_mem _ hx)⟩, k4.ext, k4.len, fun a xs q => tupk a xs (k4.tup a xs q), fun x o q => ?_⟩
              · have z : upd w4.H Dn (.lst (acc ++ [v])) x = none := z
                rw [upd_ne (hnD x hx)] at z
                exact k2.rvs x (by rw [k3]; exact List.mem_cons_of_mem _ hx) z
              · have q' := k4.fz x o q
                exact ⟨up _ _ (fun z => by rw [z] at q; exact absurd (q.1.symm.trans hD) (by simp)) q'.1, q'.2⟩
            · exact reps_app (bW.reps _ _ k7) (by simp only [Reps]; exact ⟨v, [], rfl, bW.rep _ _ rv, rfl⟩)
/-- the block in which a comprehension runs -/
def Blk (X : Cx) (scope : Scope) (P : Cx → Prop) : Prop := ∀ (s : Shared) (H : Hp) (C : Addr) (cl : List (Str × Addr)) (fp : List Addr), P (X.blk s H scope (compEnvC scope cl C X.env) fp)
abbrev W0 : XW := fun _ _ _ => False
theorem de_comp {elt tgt iter : Expr} {scope : Scope} {own : List (Str × Nat)} {t : TG} {tg : D → Ev → Option Ev} {is : List Nat} {fi : Ev → M (List D)} {fe : Ev → M D} (hc : X.calm = true) (hN : X.N.Nodup) (hi : DI X W tgt iter fi) (ok : BlkOk X.N X.env.scope scope own)
    (hg : Blk X scope fun X' => PG X' tgt t) (ht : TgOk X.K t tg is) (hv : ∀ i ∈ is, i ∈ own.map (·.2)) (he : Blk X scope fun X' => DE X' W0 elt fe) (hs : ∀ x, foldedSetIterable iter X.env x = pure x := by intro _; rfl) :
    DE X W (.ListComp elt [⟨tgt, iter, [], 0⟩] scope pos) (eComp (own.map (·.2)) fi tg (fun _ => pure true) fe) := by
  refine PE.imp' (pe_lc (tt := rdT X.K W0 fun _ => pure true) (te := rdE X.K W0 fe) hc hN hi ok hg (fun s H C cl fp => ?_) he hs) fun _ _ _ h => comp_rd ht hv h
  exact ⟨fun pins s σ H Q I h => pts_nil.run pins s σ H Q I (by
    obtain ⟨w, env, hk, rfl, r, n, h⟩ := h
    exact Wp.ok_ (a := true) r h)⟩
theorem de_compIf {elt tgt iter cond : Expr} {scope : Scope} {own : List (Str × Nat)} {t : TG} {tg : D → Ev → Option Ev} {is : List Nat} {fi : Ev → M (List D)} {tt : Ev → M Bool} {fe : Ev → M D} (hc : X.calm = true) (hN : X.N.Nodup) (hi : DI X W tgt iter fi) (ok : BlkOk X.N X.env.scope scope own)
    (hg : Blk X scope fun X' => PG X' tgt t) (ht : TgOk X.K t tg is) (hv : ∀ i ∈ is, i ∈ own.map (·.2)) (hif : Blk X scope fun X' => DT X' W0 cond tt) (he : Blk X scope fun X' => DE X' W0 elt fe) (hs : ∀ x, foldedSetIterable iter X.env x = pure x := by intro _; rfl) :
    DE X W (.ListComp elt [⟨tgt, iter, [cond], 0⟩] scope pos) (eComp (own.map (·.2)) fi tg tt fe) := by
  exact PE.imp' (pe_lc (tt := rdT X.K W0 tt) (te := rdE X.K W0 fe) hc hN hi ok hg (fun s H C cl fp => pts_one (hif s H C cl fp)) he hs) fun _ _ _ h => comp_rd ht hv h
theorem ds_setComp (i : Nat) {y : Str} {py spos : Pos} {elt tgt iter : Expr} {scope : Scope} {own : List (Str × Nat)} {t : TG} {tg : D → Ev → Option Ev} {is : List Nat} {fi : Ev → M (List D)} {fe : Ev → M D} (hc : X.calm = true) (hN : X.N.Nodup) (hy : X.N[i]? = some y) (hyl : X.env.scope.names.lookup y = some .local)
    (hsw : swapsWith (.ListComp elt [⟨tgt, iter, [], 0⟩] scope pos) (some (.Name y py)) spos.line X.env = pure true) (hi : DI X W tgt iter fi) (ok : BlkOk X.N X.env.scope scope own)
    (hg : Blk X scope fun X' => PG X' tgt t) (ht : TgOk X.K t tg is) (hv : ∀ i ∈ is, i ∈ own.map (·.2)) (he : Blk X scope fun X' => DE X' W0 elt fe) (hs : ∀ x, foldedSetIterable iter X.env x = pure x := by intro _; rfl) :
    DS X W (.Assign [.Name y py] (.ListComp elt [⟨tgt, iter, [], 0⟩] scope pos) spos) (sAsg i (eComp (own.map (·.2)) fi tg (fun _ => pure true) fe)) := by
  refine PS.imp' (ps_setLc (tt := rdT X.K W0 fun _ => pure true) (te := rdE X.K W0 fe) hc hN hy hyl hsw hi ok hg (fun s H C cl fp => ?_) he hs) fun D' σ H h => ?_
  · exact ⟨fun pins s σ H Q I h => pts_nil.run pins s σ H Q I (by
      obtain ⟨w, env, hk, rfl, r, n, h⟩ := h
      exact Wp.ok_ (a := true) r h)⟩
  · exact comp_rd ht hv (asg_rd h)
theorem ds_setCompIf (i : Nat) {y : Str} {py spos : Pos} {elt tgt iter cond : Expr} {scope : Scope} {own : List (Str × Nat)} {t : TG} {tg : D → Ev → Option Ev} {is : List Nat} {fi : Ev → M (List D)} {tt : Ev → M Bool} {fe : Ev → M D} (hc : X.calm = true) (hN : X.N.Nodup) (hy : X.N[i]? = some y) (hyl : X.env.scope.names.lookup y = some .local)
    (hsw : swapsWith (.ListComp elt [⟨tgt, iter, [cond], 0⟩] scope pos) (some (.Name y py)) spos.line X.env = pure true) (hi : DI X W tgt iter fi) (ok : BlkOk X.N X.env.scope scope own)
    (hg : Blk X scope fun X' => PG X' tgt t) (ht : TgOk X.K t tg is) (hv : ∀ i ∈ is, i ∈ own.map (·.2)) (hif : Blk X scope fun X' => DT X' W0 cond tt) (he : Blk X scope fun X' => DE X' W0 elt fe) (hs : ∀ x, foldedSetIterable iter X.env x = pure x := by intro _; rfl) :
    DS X W (.Assign [.Name y py] (.ListComp elt [⟨tgt, iter, [cond], 0⟩] scope pos) spos) (sAsg i (eComp (own.map (·.2)) fi tg tt fe)) :=
  PS.imp' (ps_setLc (tt := rdT X.K W0 tt) (te := rdE X.K W0 fe) hc hN hy hyl hsw hi ok hg (fun s H C cl fp => pts_one (hif s H C cl fp)) he hs) fun D' σ H h => comp_rd ht hv (asg_rd h)
end
end G
end

section
set_option Elab.async false
set_option linter.all false
set_option autoImplicit false
set_option maxRecDepth 100000
set_option maxHeartbeats 1000000
namespace G
open PySem PySem.Spec PyProof.Rows L2
/-! ## defs: their promises where no repr is under way -/
section
variable {P : Program} {w : World} {K : PySem.W.Frag} {mg : Str → Option Value} {base : Heap}
structure FnG (P : Program) (w : World) (K : PySem.W.Frag) (mg : Str → Option Value) (base : Heap) (k : Nat) (f : Addr) (fd : FuncData) (ps : List Str) (sp : Sp) : Prop where
  len : ∀ vs H Q E, sp vs H Q E → vs.length = ps.length
  run : ∀ (A : Around) (outer : List Env) (s : Shared) (H : Hp) (args : Args) (us : List Value) (vs : List V) (Q : VK) (E : XK), A.guards = some [] → Room k A → Env0 P w K mg base A outer s H →
    BindsTo s fd args (ps.zip us) → Vals vs us → sp vs H Q E → codeAny (model P w) A (.call (.ref f) args) (CR (L2.CX P w) outer P w H s Q E) s
theorem FnG.mono {j k : Nat} {f : Addr} {fd : FuncData} {ps : List Str} {sp : Sp} (F : FnG P w K mg base j f fd ps sp) (h : j ≤ k) : FnG P w K mg base k f fd ps sp :=
  ⟨F.len, fun A outer s H args us vs Q E g hr => F.run A outer s H args us vs Q E g (hr.mono h)⟩
/-- a def by its body -/
theorem fng_of {k : Nat} {x qual : Str} {params : Arguments} {body : List Stmt} {scope : Scope} {f : Addr} {fd : FuncData} {N ps : List Str} {sp : Sp} (FD : FunD K x qual params body scope [] [] f fd) (S : FnScope N ps scope)
    (len : ∀ vs H Q E, sp vs H Q E → vs.length = ps.length)
    (hbody : ∀ (cdv : Value) (A : Around) (outer : List Env) (s : Shared) (H : Hp) (vs : List V) (Q : VK) (E : XK), A.guards = some [] → Room k (A.deeper (envOfC qual scope s.heap.objs.size f cdv)) → sp vs H Q E →
      ∃ t, PSs (cxOf (L2.CX P w) P w K mg base N qual scope f cdv A outer s H E) body t ∧ t { nx := fun _ H' => Q .non H', rt := Q } (L2.start N vs) H) : FnG P w K mg base (k + 1) f fd ps sp := by
  obtain ⟨oc, od, dV, kV, doc, pm, an, cdv, ct, osl, rfl, lk, hcd, _, _⟩ := FD.ex
  refine ⟨len, ?_⟩
  intro A outer s H args us vs Q E gd rm env0 bind rel hsp
  have hl := len vs H Q E hsp
  have kin : K.In s.heap := env0.mod.kin.keeps (fun b o z => (env0.bs b o z).1)
  have nolim : s.heap.NoLimit := env0.mod.nolimit.keeps (fun b o z => (env0.bs b o z).1)
  have kinds : ∀ y ∈ ps.zip us, scope.names.lookup y.1 = some .local ∨ (scope.names.lookup y.1 = some .cell ∧ ((cellsFrom (s.heap.objs.size + 1) scope.names []).lookup y.1).isSome = true) := by
    rintro ⟨n, v⟩ hy
    cases S.par n (List.of_mem_zip hy).1 with
    | inl q => exact Or.inl q
    | inr q => exact Or.inr ⟨q, PySem.W.cellsFrom_some _ _ _ (Or.inl q)⟩
  refine codeAny_call_function rm.depth (kin _ _ lk) rfl S.co S.gen rfl (PySem.W.codeRec_of kin hcd) (bind _ _ _ _ (wpAny_newFunctionEnv_cells S.kind kinds ?_))
  intro env he s1 x1
  subst he
  refine ⟨nolim.keeps x1.toInCall.keep, codeAny_func ?_⟩
  obtain ⟨t, der, rd⟩ := hbody cdv A outer s H vs Q E gd (rm.deeper _) hsp
  have I0 : Inv (cxOf (L2.CX P w) P w K mg base N qual scope f cdv A outer s H E) [] (L2.start N vs) H s1 := inv_start S rm.hd env0 hl rel x1
  refine wpAny_mono (der.run [] s1 (L2.start N vs) H _ I0 rd) ?_ (fun _ _ z => z)
  intro fl s' z
  cases fl with
  | ret u =>
    obtain ⟨v, σ', H', J, rv, q⟩ := z
    exact ⟨v, H', J.os, J.bare, J.base, J.hok, rv, q⟩
  | next =>
    obtain ⟨σ', H', J, q⟩ := z
    exact ⟨V.non, H', J.os, J.bare, J.base, J.hok, rfl, q⟩
  | brk => obtain ⟨_, _, _, q⟩ := z; exact q.elim
  | cont => obtain ⟨_, _, _, q⟩ := z; exact q.elim
/-- the promise: it computes F -/
def spM (K : PySem.W.Frag) (n : Nat) (F : List D → M D) : Sp := fun vs H Q E => ∃ (w : Wd) (ds : List D), w.K = K ∧ w.H = H ∧ RS w ∧ Reps w ds vs ∧ ds.length = n ∧
  Wp w (F ds w.st) (fun d w' => ∀ v, Rep w' d v → Q v w'.H) (fun c w' => E (.ref (He.ga K c)) none w'.H)
def FnM (P : Program) (w : World) (K : PySem.W.Frag) (mg : Str → Option Value) (base : Heap) (k : Nat) (f : Addr) (fd : FuncData) (ps : List Str) (F : List D → M D) : Prop := FnG P w K mg base k f fd ps (spM K ps.length F)
def throwM {α : Type} (c : Str) : M α := fun st => .err c st
def runF (n : Nat) (g : Ev → M Fl) : List D → M D := fun ds => do
  let fl ← noErr (g (ds.map some ++ List.replicate (n - ds.length) none))
  match fl with
  | .ret d => pure d
  | .nx _ => pure .non
  | .exc c _ => throwM c
  | _ => M.stuck
theorem env_start {w : Wd} : ∀ {ds : List D} {vs : List V} (n : Nat), Reps w ds vs → REnv w (ds.map some ++ List.replicate n none) (vs.map some ++ List.replicate n none) := by
  intro ds vs n h
  refine ⟨by simp [reps_len h], fun i d e => ?_⟩
  by_cases hi : i < ds.length
  · rw [List.getElem?_append_left (by simpa using hi), List.getElem?_map] at e
    cases q : ds[i]? with
    | none => rw [q] at e; cases e
    | some d' =>
      rw [q] at e
      cases e
      obtain ⟨x, ex, rx⟩ := reps_at h q
      refine ⟨x, ?_, rx⟩
      rw [List.getElem?_append_left (by simpa [reps_len h] using hi), List.getElem?_map, ex]
      rfl
  · rw [List.getElem?_append_right (by simpa using hi), List.getElem?_replicate] at e
    split at e <;> cases e
theorem noErr_wp {α : Type} {w : Wd} {x : M α} {P : α → Wd → Prop} {V' : Str → Wd → Prop} (h : Wp w (noErr x w.st) P V') : Wp w (x w.st) P nov := by
  unfold noErr at h
  cases e : x w.st with
  | ok a st' => rw [e] at h; exact h
  | err c st' => rw [e] at h; exact h.elim
  | bad => rw [e] at h; exact h
/-- the wish of a def about exceptions -/
abbrev wE (K : PySem.W.Frag) (E : XK) : XW := fun c _ H => E (.ref (He.ga K c)) none H
theorem fnm_of {k : Nat} {x qual : Str} {params : Arguments} {body : List Stmt} {scope : Scope} {f : Addr} {fd : FuncData} {N ps : List Str} {g : Ev → M Fl} (FD : FunD K x qual params body scope [] [] f fd) (S : FnScope N ps scope) (hN : ps.length ≤ N.length)
    (hb : ∀ (cdv : Value) (A : Around) (outer : List Env) (s : Shared) (H : Hp) (E : XK), A.guards = some [] → Room k (A.deeper (envOfC qual scope s.heap.objs.size f cdv)) →
      DSs (cxOf (L2.CX P w) P w K mg base N qual scope f cdv A outer s H E) (wE K E) body g) : FnM P w K mg base (k + 1) f fd ps (runF N.length g) := by
  refine fng_of FD S (fun vs H Q E h => ?_) fun cdv A outer s H vs Q E gd hr h => ⟨_, hb cdv A outer s H E gd hr, ?_⟩
  · obtain ⟨w', ds, _, _, _, r, hl, _⟩ := h
    rw [reps_len r]; exact hl
  · obtain ⟨w', ds, hk, rfl, rs, r, hl, h⟩ := h
    refine ⟨w', ds.map some ++ List.replicate (N.length - ds.length) none, hk, rfl, rs, ?_, (noErr_wp (Wp.bind h)).imp fun fl w1 a1 h1 => ?_⟩
    · have := env_start (w := w') (N.length - ds.length) r
      unfold L2.start
      rw [reps_len r]
      exact this
    · cases fl with
      | ret d => exact Wp.ok_ (a := d) a1.rs h1
      | nx e => exact fun σ _ => Wp.ok_ (a := D.non) a1.rs h1 _ rep_non
      | brk e => exact h1.elim
      | ct e => exact h1.elim
      | exc c e => exact fun σ _ => h1 w1 (.refl a1.rs) rfl
end
/-! ## calls -/
section
variable {X : Cx} {W : XW} {e a b c : Expr} {pos p : Pos} {fa fb fc : Ev → M D} {k : Nat} {f : Addr} {fd : FuncData} {ps : List Str} {x : Str} {es : List Expr}
/-- the wishes in the layer's own words -/
abbrev wX (K : PySem.W.Frag) (Wx : WX) : XW := fun c σ H => Wx (.ref (He.ga K c)) none σ H
theorem run_fng {pins : List (Addr × Obj)} {σ : L2.St} {H : Hp} {s : Shared} {Q : VK} {us : List Value} {vs : List V} {sp : Sp} {Wx : WX} (F : FnG X.prog X.w X.K X.mg X.base k f fd ps sp) (hg : X.A.guards = some []) (hr : Room k X.A) (hb : Binds X.K fd ps []) (tk : Takes X Wx)
    (I : Inv X pins σ H s) (r : Vals vs us) (h : sp vs H Q (fun cls d H' => Wx cls d σ H')) : wpAny (model X.prog X.w) X.A (call (.ref f) us) (EP X pins σ Q) X.xe s := by
  have e1 : us.length = ps.length := r.length.symm.trans (F.len _ _ _ _ h)
  have e2 := hb s us I.kIn (by rw [List.append_nil]; exact e1)
  rw [List.append_nil] at e2
  refine wpAny_call (codeAny_mono (F.run X.A X.stack s H ⟨us, []⟩ us vs Q _ hg hr I.env0 e2 r h) ?_)
  intro res s' z
  cases res with
  | error ev => exact passAt tk σ pins H s ev s' I z
  | ok fl =>
    cases fl with
    | ret u => exact I.after z
    | next => exact z.elim
    | brk => exact z.elim
    | cont => exact z.elim
def eCall (F : List D → M D) (fs : List (Ev → M D)) : Ev → M D := fun env => do
  let ds ← aSeq fs env
  F ds
/-- f(e, ..) of a def that computes F -/
theorem de_call {F : List D → M D} {fs : List (Ev → M D)} {Wx : WX} (FN : FnM X.prog X.w X.K X.mg X.base k f fd ps F) (hgd : X.A.guards = some []) (hr : Room k X.A) (tk : Takes X Wx) (hW : W = wX X.K Wx) (hg : Gl X x) (hm : X.mg x = some (.ref f)) (hk : PySem.W.keepIn X.K (.ref f) = true) (hb : Binds X.K fd ps [])
    (ha : DA X W (e :: es) fs) (hl : fs.length = ps.length := by rfl) (hdb : (x == ("__debug__" : Str)) = false := by decide) (he : starEach (e :: es) X.env = (false, eval e X.env) :: starEach es X.env := by rfl) (hpl : (backTo pos (starEach es X.env)).any (·.1) = false := by rfl) :
    DE X W (.Call (.Name x p) (e :: es) [] pos) (eCall F fs) := by
  refine ⟨fun pins s σ H Q I h => ?_⟩
  obtain ⟨w, env, ek, rfl, r, n, h⟩ := h
  have h1 := wp_seq (Wp.bind h)
  refine wpAny_Call_Name_kw (ld_glob I hg hm ?_ hdb)
  refine PySem.W.callWith_K (h₀ := X.base) I.ok.mod.kin hk (thn (ha.run pos pins s σ w.H (fun vs H1 => spM X.K ps.length F vs H1 Q (fun cls d H' => Wx cls d σ H')) I ⟨w, env, ek, rfl, r, n, h1.imp fun ds w1 a1 h2 vs rv => ?_⟩) fun us s1 z => ?_) he hpl
  · refine ⟨w1, ds, a1.k.trans ek, rfl, a1.rs, rv, h2.1.trans hl, h2.2.mono (fun _ _ _ q => q) fun c w2 a2 q => ?_⟩
    rw [hW] at q
    exact q
  · obtain ⟨vs, H1, I1, r1, q1⟩ := z
    exact ⟨I1.kIn, run_fng FN hgd hr hb tk I1 r1 q1⟩
theorem de_call0 {F : List D → M D} {Wx : WX} (FN : FnM X.prog X.w X.K X.mg X.base k f fd [] F) (hgd : X.A.guards = some []) (hr : Room k X.A) (tk : Takes X Wx) (hW : W = wX X.K Wx) (hg : Gl X x) (hm : X.mg x = some (.ref f)) (hk : PySem.W.keepIn X.K (.ref f) = true) (hb : Binds X.K fd [] [])
    (hdb : (x == ("__debug__" : Str)) = false := by decide) : DE X W (.Call (.Name x p) [] [] pos) (eCall F []) := by
  refine ⟨fun pins s σ H Q I h => ?_⟩
  obtain ⟨w, env, ek, rfl, r, n, h⟩ := h
  refine wpAny_Call_Name_kw (ld_glob I hg hm ?_ hdb)
  refine PySem.W.callWith_K0 I.kIn hk (run_fng (us := []) (vs := []) FN hgd hr hb tk I .nil ⟨w, [], ek, rfl, r, rfl, rfl, Wp.mono (Wp.ok_ (P := fun ds w1 => Wp w1 (F ds w1.st) _ _) (a := ([] : List D)) r (Wp.bind h)) (fun _ _ _ q => q) fun c w2 a2 q => ?_⟩)
  rw [hW] at q
  exact q
end
/-! ## the law's call -/
section
variable {P : Program} {w : World} {K : PySem.W.Frag} {mg mb : Str → Option Value}
theorem law_callG {k : Nat} {fa a : Addr} {fd : FuncData} {x : Str} {sp : Sp} {s₁ : Shared} {vs : List Value} {ns : List Int} (kin : K.In s₁.heap) (gns : s₁.heap.Ns mainGlobals mg) (bns : s₁.heap.Ns builtinsNs mb) (bbt : ∀ x : Str, x ≠ "__name__" → mb x = bootBuiltins x) (lim : s₁.heap.NoLimit)
    (gen0 : s₁.gens = #[]) (scr : s₁.heap.get? a = some { cls := .type "list", data := .seq vs.toArray }) (itsI : IntsAre vs ns) (short : ns.length ≤ sizeLine) (rm : Room k callerA) (F : ∀ base : Heap, K.In base → base.Ns mainGlobals mg → FnG P w K mg base k fa fd [x] sp)
    (bind : ∀ (s : Shared) (u : Value), BindsTo s fd ⟨[u], []⟩ [(x, u)]) (hsp : ∀ H : Hp, RoL K H a (ns.map V.int) → sp [.ref a] H (fun v _ => v = .bl true) fun _ _ _ => False) :
    codeAny (model P w) callerA (.call (.ref fa) ⟨[.ref a], []⟩) (fun r s' => r = .ok (.ret (.bool true)) ∧ OldK s₁.heap s'.heap ∧ s'.os = s₁.os ∧ AllBare s'.gens) s₁ := by
  have rv : Vals (ns.map V.int) vs := vals_ints itsI
  have lv : vs.length = ns.length := itsI.length
  have main : ∀ H : Hp, RoL K H a (ns.map V.int) → HOk P w H s₁.heap → (∀ b u, H b = some u → b = a ∧ K.lookup a = none ∧ ∃ ob xs, u = .frz ob (.lst xs)) →
      codeAny (model P w) callerA (.call (.ref fa) ⟨[.ref a], []⟩) (fun r s' => r = .ok (.ret (.bool true)) ∧ OldK s₁.heap s'.heap ∧ s'.os = s₁.os ∧ AllBare s'.gens) s₁ := by
    intro H hR hok only
    have hid : ∀ {b : Addr} {o : Obj}, s₁.heap.get? b = some o → H b = none → (hidT s₁.heap H).get? b = some o := fun z n => hidT_get z n
    have dict0 : ∀ {b : Addr} {o : Obj} {es : Array DictEntry} {ep : Nat}, s₁.heap.get? b = some o → o.data = .dict es ep → H b = none := by
      intro b o es ep z d
      cases q : H b with
      | none => rfl
      | some u =>
        obtain ⟨rfl, _⟩ := only b u q
        rw [scr] at z
        cases z
        exact absurd d (by intro z; cases z)
    have nsH : ∀ {b : Addr} {m : Str → Option Value}, s₁.heap.Ns b m → (hidT s₁.heap H).Ns b m := by
      rintro b m ⟨o, es, ep, z, d, r⟩
      exact ⟨o, es, ep, hid z (dict0 z d), d, r⟩
    have kinH : K.In (hidT s₁.heap H) := by
      intro b o z
      refine hid (kin b o z) ?_
      cases q : H b with
      | none => rfl
      | some u =>
        obtain ⟨rfl, z2, _⟩ := only b u q
        rw [z2] at z
        cases z
    obtain ⟨mc, l1, l2⟩ := lim
    have md : Mod K mg (hidT s₁.heap H) := ⟨kinH, nsH gns, ⟨mb, nsH bns, bbt⟩, ⟨mc, nsH l1, l2⟩⟩
    have ev : Env0 P w K mg (hidT s₁.heap H) callerA [] s₁ H := ⟨rfl, md, fun b o z => of_hidT z, Nat.le_of_eq (hidT_size _ _), trivial, fun b z => absurd (show b ∈ ([] : List Addr) from z) (by simp), hok, .of_eq gen0⟩
    refine codeAny_mono ((F _ kinH (nsH gns)).run callerA [] s₁ H ⟨[.ref a], []⟩ [.ref a] [.ref a] _ _ rfl rm ev (bind s₁ (.ref a)) (.cons rfl .nil) (hsp H hR)) ?_
    intro res s' z
    cases res with
    | error e =>
      obtain ⟨_, _, _, _, _, _, _, _, _, _, _, _, y⟩ := z
      exact y.elim
    | ok fl =>
      cases fl with
      | next => exact z.elim
      | brk => exact z.elim
      | cont => exact z.elim
      | ret u =>
        obtain ⟨v, H', eos, eb, un, hok', rel, q⟩ := z
        have q : v = .bl true := q
        subst q
        cases (show u = Value.bool true from rel)
        refine ⟨rfl, OldK.of_keep ?_, eos, eb⟩
        intro b o y
        cases qb : H b with
        | none => exact un.keep b o y qb (fun t => absurd (show b ∈ ([] : List Addr) from t) (by simp)) (by simp)
        | some u =>
          obtain ⟨_, _, ob, xs, rfl⟩ := only b u qb
          have y2 := un.frzs b ob _ qb
          have y3 := (hok b _ qb).1
          have y4 := (hok' b _ y2).1
          rw [y] at y3
          cases y3
          exact y4
  cases hk : K.lookup a with
  | some o =>
    have z := kin a o hk
    rw [scr] at z
    cases z
    refine main (fun _ => none) (.inr ⟨_, vs.toArray, _, hk, rfl, rfl, rfl, ?_, by simpa using rv⟩) (fun b u z => nomatch z) (fun b u z => nomatch z)
    rw [List.size_toArray, lv]; exact short
  | none =>
    refine main (fun b => if b = a then some (.frz { cls := .type "list", data := .seq vs.toArray } (.lst (ns.map V.int))) else none) (.inl ⟨{ cls := .type "list", data := .seq vs.toArray }, if_pos rfl⟩) ?_ ?_
    · intro b u z
      by_cases hb : b = a
      · have z := (if_pos hb).symm.trans z
        cases z
        rw [hb]
        exact ⟨scr, by rw [List.length_map]; exact short, vs, _, rv, scr⟩
      · have z := (if_neg hb).symm.trans z
        cases z
    · intro b u z
      by_cases hb : b = a
      · have z := (if_pos hb).symm.trans z
        cases z
        exact ⟨hb, hk, _, _, rfl⟩
      · have z := (if_neg hb).symm.trans z
        cases z
/-- the law's def computes F, and F tells True of every script -/
theorem walkG {l : PySem.W.OpenLaw} {k : Nat} {q : Program} {loose : List Str} {XP : (Str → Option Value) → Heap → Prop} {YP : World → Heap → Prop} {d : DefRec} {x : Str} {F : List D → M D} (hn : l.most = some 63) (hdf : d.params.defaults = []) (rm : Room k callerA)
    (FN : ∀ (w : World) (mg : Str → Option Value) (fa : Addr) (h : Heap), YP w h → h.Ns mainGlobals mg → mg d.name = some (.ref fa) → ∃ (K : PySem.W.Frag) (fd : FuncData), K.In h ∧ (∀ (s : Shared) (u : Value), BindsTo s fd ⟨[u], []⟩ [(x, u)]) ∧
      ∀ base : Heap, K.In base → base.Ns mainGlobals mg → FnM l.prog w K mg base k fa fd [x] F)
    (true_ : ∀ ns : List Int, ns.length ≤ 63 → (∀ z ∈ ns, Builtin.Int.intBits z ≤ 1048576) → ∃ st', F [.cell 0] [.ro (ns.map D.int)] = .ok (.bl true) st') : PySem.W.WalkO q loose XP YP l.row.toRowW d [] (fun f vs => PySem.call f vs) := by
  refine Att.attach_callB hn hdf ?_
  intro w s₀ s₁ mg mb fa o pm cd doc a vs ns Gr Y ho hd hcd hmg hobj hints hlen hbits hg
  obtain ⟨K, fd, kin, hb, hF⟩ := FN w mg fa _ Y Gr.T.g hmg
  have sh : ns.length ≤ sizeLine := Nat.le_trans hlen (by decide)
  refine law_callG kin Gr.T.g Gr.T.b Gr.T.builtins Gr.T.nolimit hg hobj hints sh rm hF hb ?_
  intro H hR
  obtain ⟨st', e⟩ := true_ ns hlen hbits
  have reps : ∀ (w : Wd) (ms : List Int), Reps w (ms.map D.int) (ms.map V.int) := by
    intro w ms
    induction ms with
    | nil => simp [Reps]
    | cons m r ih => simp only [List.map_cons, Reps]; exact ⟨_, _, rfl, rep_int m, ih⟩
  refine ⟨⟨K, fun _ => a, [.ro (ns.map D.int)], H, []⟩, [.cell 0], rfl, rfl, ⟨fun i c h => ?_, fun i j c c' h h' l => ?_, fun x hx => absurd hx (by simp), fun x hx => absurd hx (by simp)⟩, ?_, rfl, ?_⟩
  · cases i with
    | zero => cases h; exact ⟨ns.map V.int, hR, reps _ _, by rw [List.length_map]; exact sh⟩
    | succ i => simp at h
  · cases i with
    | zero => cases h; exact l.elim
    | succ i => simp at h
  · simp only [Reps, Rep]
    exact ⟨.ref a, [], rfl, ⟨rfl, by simp⟩, rfl⟩
  · have e : F [.cell 0] [Cell.ro (ns.map D.int)] = .ok (.bl true) st' := e
    show Wp _ (F [.cell 0] [Cell.ro (ns.map D.int)]) _ _
    rw [e]
    intro w' a' e' v rv
    simp only [Rep] at rv
    exact rv
end
end G
end

section
set_option Elab.async false
set_option linter.all false
set_option autoImplicit false
set_option maxRecDepth 100000
set_option maxHeartbeats 1000000
namespace G
open PySem PySem.Spec PyProof.Rows L2
section
variable {X : Cx} {W : XW} {e a b c : Expr} {s : Stmt} {ss : List Stmt} {pos : Pos} {fa fb fc : Ev → M D} {g g' : Ev → M Fl}
/-! ## targets that store -/
def rdG (K : PySem.W.Frag) (W : XW) (tg : D → Ev → M Ev) : TG := fun v σ H Q => ∃ (w : Wd) (env : Ev) (d : D), w.K = K ∧ w.H = H ∧ RS w ∧ REnv w env σ ∧ Rep w d v ∧ Wp w (tg d env w.st) (fun env' w' => ∀ σ', REnv w' env' σ' → Q σ' w'.H) (fun c w' => W c σ w'.H)
def DG (X : Cx) (W : XW) (t : Expr) (tg : D → Ev → M Ev) : Prop := PG X t (rdG X.K W tg)
theorem PG.imp' {t : Expr} {r r' : TG} (h : PG X t r) (k : ∀ v σ H Q, r' v σ H Q → r v σ H Q) : PG X t r' := ⟨fun pins s σ H v u Q I rv z => h.run pins s σ H v u Q I rv (k _ _ _ _ z)⟩
def gtName (i : Nat) : D → Ev → M Ev := fun d env => pure (env.set i (some d))
theorem dg_name (i : Nat) {x : Str} (hN : X.N.Nodup) (hi : X.N[i]? = some x) (hx : Loc X.env.scope x) (hf : X.fn x = true ∨ X.env.scope.names.lookup x = some .local := by first | exact .inl rfl | exact .inr rfl) : DG X W (.Name x pos) (gtName i) := PG.imp' (pg_name hN hi hx hf) fun v σ H Q h => by
  obtain ⟨w, env, d, hk, rfl, r, n, rv, h⟩ := h
  exact Wp.ok_ (a := env.set i (some d)) r h _ (n.set i rv)
theorem reps_set {w : Wd} {d : D} {v : V} (r : Rep w d v) : ∀ {ds : List D} {xs : List V} (i : Nat), Reps w ds xs → Reps w (ds.set i d) (xs.set i v)
  | [], xs, i, h => by simp only [Reps] at h; subst h; simp [Reps]
  | y :: ds, xs, 0, h => by
    simp only [Reps] at h
    obtain ⟨x, xs, rfl, r1, rs⟩ := h
    simp only [List.set, Reps]
    exact ⟨v, xs, rfl, r, rs⟩
  | y :: ds, xs, i + 1, h => by
    simp only [Reps] at h
    obtain ⟨x, xs, rfl, r1, rs⟩ := h
    simp only [List.set, Reps]
    exact ⟨x, xs.set i v, rfl, r1, reps_set r i rs⟩
/-- o[i] = d of a list's cell -/
def putIdx (o i d : D) : M Unit := fun st => match o, i with
  | .cell c, .int k => match st[c]? with
    | some (.lst l) => match ixN l.length k with
      | some j => .ok () (st.set c (.lst (l.set j d)))
      | none => .bad
    | _ => .bad
  | _, _ => .bad
theorem putIdx_wp {w : Wd} {o i d : D} {u y v : V} {P : Unit → Wd → Prop} {V' : Str → Wd → Prop} (rs : RS w) (ru : Rep w o u) (ry : Rep w i y) (rv : Rep w d v) (h : Wp w (putIdx o i d w.st) P V') :
    rSetL u y v w.H fun H' => ∃ w', w'.H = H' ∧ Aft w w' ∧ P () w' := by
  unfold putIdx at h
  split at h
  · rename_i c k
    split at h
    · rename_i l el
      split at h
      · rename_i j ej
        simp only [Rep] at ru ry
        obtain ⟨xs, e1, r1, l1⟩ := rs.cells c _ el
        refine ⟨_, xs, k, j, ru.1, ry, e1, by rw [reps_len r1]; exact ej, ?_⟩
        have up : ∀ b q, b ≠ w.m c → w.H b = some q → upd w.H (w.m c) (.lst (xs.set j v)) b = some q := fun b q hb z => by rw [upd_ne hb]; exact z
        have bb : Bears w ⟨w.K, w.m, w.st.set c (.lst (l.set j d)), upd w.H (w.m c) (.lst (xs.set j v)), w.rv⟩ := bears_set (c := .lst (l.set j d)) (c0 := .lst l) rs el trivial up
        have aa : Aft w ⟨w.K, w.m, w.st.set c (.lst (l.set j d)), upd w.H (w.m c) (.lst (xs.set j v)), w.rv⟩ := aft_set (c0 := .lst l) rs el trivial up ⟨_, upd_same, reps_set (bb.rep _ _ rv) j (bb.reps _ _ r1), by rw [List.length_set]; exact l1⟩
        exact ⟨_, rfl, aa, h _ aa rfl⟩
      · exact h.elim
    · exact h.elim
  · exact h.elim
def gtSub (fo fi : Ev → M D) : D → Ev → M Ev := fun d env => do
  let o ← fo env
  let i ← fi env
  putIdx o i d
  pure env
theorem dg_sub {o i : Expr} {fo fi : Ev → M D} (ho : DE X W o fo) (hi : DE X W i fi)
    (ha : ∀ v, assign (.Subscript o i pos) X.env v = (do
      let ov ← holding [v] (eval o X.env)
      let iv ← holding [v, ov] (eval i X.env)
      standAt pos
      holding [v, ov, iv] (setItem ov iv v)
      release [v, ov, iv] []) := by intro _; rfl) : DG X W (.Subscript o i pos) (gtSub fo fi) := PG.imp' (pg_sub ho hi set_list ha) fun v σ H Q h => by
  obtain ⟨w, env, d, hk, rfl, r, n, rv, h⟩ := h
  refine ⟨w, env, hk, rfl, r, n, (Wp.bind h).imp fun od w1 a1 h1 u ru => ?_⟩
  refine ⟨w1, env, a1.k.trans hk, rfl, a1.rs, n.after a1, (Wp.bind h1).imp fun id w2 a2 h2 y ry => ?_⟩
  obtain ⟨p, xs, k, j, e1, e2, e3, e4, w3, e5, a3, h3⟩ := putIdx_wp a2.rs (a2.rep ru) ry ((a1.trans a2).rep rv) (Wp.bind h2)
  refine ⟨p, xs, k, j, e1, e2, e3, e4, ?_⟩
  rw [← e5]
  exact Wp.ok_ (a := env) a3.rs h3 σ (((n.after a1).after a2).after a3)
def gtPair (t1 t2 : D → Ev → M Ev) : D → Ev → M Ev := fun d env => match d with
  | .tup [a, b] => do
    let e1 ← t1 a env
    t2 b e1
  | _ => M.stuck
theorem gtPair_wp {g1 g2 : D → Ev → M Ev} {w : Wd} {d : D} {env : Ev} {P : Ev → Wd → Prop} {V' : Str → Wd → Prop} (h : Wp w (gtPair g1 g2 d env w.st) P V') : ∃ x y, d = .tup [x, y] ∧ Wp w ((g1 x env >>= fun e1 => g2 y e1) w.st) P V' := by
  cases d with
  | tup l =>
    cases l with
    | nil => exact h.elim
    | cons x l =>
      cases l with
      | nil => exact h.elim
      | cons y l =>
        cases l with
        | nil => exact ⟨x, y, rfl, h⟩
        | cons z l => exact h.elim
  | _ => exact h.elim
theorem dg_pair {t1 t2 : Expr} {kk : Nat} {g1 g2 : D → Ev → M Ev} (hc : X.calm = true) (h1 : DG X W0 t1 g1) (h2 : DG X W0 t2 g2) (hs1 : (assignEach [t1, t2] X.env).map (·.2) = assign t1 X.env :: (assignEach [t2] X.env).map (·.2) := by rfl) (hs2 : (assignEach [t2] X.env).map (·.2) = assign t2 X.env :: (assignEach [] X.env).map (·.2) := by rfl)
    (hn : (assignEach [t1, t2] X.env).length = 2 := by rfl) (hst : (assignEach [t1, t2] X.env).findIdx? (·.1) = none := by rfl) : DG X W (.Tuple [t1, t2] kk pos) (fun d env => noErr (gtPair g1 g2 d env)) := PG.imp' (pg_tup hc (pgs_cons h1 (pgs_cons h2 pgs_nil hs2) hs1) hn hst) fun v σ H Q h => by
  obtain ⟨w, env, d, hk, rfl, r, n, rv, h⟩ := h
  have h := noErr_wp (x := gtPair g1 g2 d env) h
  obtain ⟨x, y, rfl, h⟩ := gtPair_wp h
  simp only [Rep] at rv
  obtain ⟨p, xs, rfl, sq, rr, _⟩ := rv
  obtain ⟨u1, u2, rfl, r1, r2⟩ := reps2 rr
  refine ⟨p, [u1, u2], rfl, by rw [← hk]; exact sq, rfl, u1, [u2], rfl, w, env, x, hk, rfl, r, n, r1, (Wp.bind h).mono (fun e1 w1 a1 h1 σ1 n1 => ?_) fun _ _ _ z => z⟩
  refine ⟨u2, [], rfl, w1, e1, y, a1.k.trans hk, rfl, a1.rs, n1, a1.rep r2, h1.mono (fun e2 w2 a2 h2 σ2 n2 => ⟨rfl, h2 σ2 n2⟩) fun _ _ _ z => z⟩
def sAsgT (f : Ev → M D) (tg : D → Ev → M Ev) : Ev → M Fl := fun env => stx (f env) env fun d => stx (tg d env) env fun env' => pure (.nx env')
theorem ds_asg {tgt : Expr} {tg : D → Ev → M Ev} (he : DE X W e fa) (hg : DG X W tgt tg) (hs : swapsWithSole [tgt] e pos.line X.env = pure false := by rfl) (hw : swappedStores [tgt] e X.env = pure none := by rfl) (h1 : (assignEach [tgt] X.env).map (·.2) = [assign tgt X.env] := by rfl) :
    DS X W (.Assign [tgt] e pos) (sAsgT fa tg) := PS.imp' (ps_asg he hg hs hw h1) fun D' σ H h => by
  obtain ⟨w, env, hk, rfl, r, n, h⟩ := h
  refine ⟨w, env, hk, rfl, r, n, (stx_wp n h).imp fun d w1 a1 h1 v rv => ?_⟩
  refine ⟨w1, env, d, a1.k.trans hk, rfl, a1.rs, n.after a1, rv, (stx_wp (n.after a1) h1).imp fun e' w2 a2 h2 σ' n' => ?_⟩
  exact Wp.ok_ (a := Fl.nx e') a2.rs h2 σ' n'
/-! ## dicts in cells -/
def keyOf : D → Option Key
  | .int i => some (.inl i)
  | .str x => some (.inr x)
  | _ => none
def valD (l : List (Key × D)) (k : Key) : Option D := (l.find? fun kv => decide (kv.1 = k)).map (·.2)
def putD (l : List (Key × D)) (k : Key) (d : D) : List (Key × D) := if (l.any fun kv => decide (kv.1 = k)) = true then l.map (fun kv => if kv.1 = k then (kv.1, d) else kv) else l ++ [(k, d)]
theorem keyOf_rep {w : Wd} {d : D} {v : V} {k : Key} (h : keyOf d = some k) (r : Rep w d v) : v = kV k := by
  cases d with
  | int i => cases h; simp only [Rep] at r; exact r
  | str x => cases h; simp only [Rep] at r; exact r
  | _ => cases h
theorem valD_rep {w : Wd} {k : Key} : ∀ {l : List (Key × D)} {kvs : List (Key × V)} {d : D}, RepK w l kvs → valD l k = some d → ∃ v, valV kvs k = some v ∧ Rep w d v
  | [], kvs, d, h, e => by cases e
  | (k1, d1) :: l, kvs, d, h, e => by
    obtain ⟨⟨k2, v2⟩, ys, rfl, e1, r, rs⟩ := h
    have e1 : k2 = k1 := e1
    subst e1
    by_cases hk : k2 = k
    · rw [valV_pos (p := (k2, v2)) hk]
      have : valD ((k2, d1) :: l) k = some d1 := by simp [valD, List.find?_cons, hk]
      rw [this] at e
      cases e
      exact ⟨v2, rfl, r⟩
    · rw [valV_neg (p := (k2, v2)) hk]
      have : valD ((k2, d1) :: l) k = valD l k := by simp [valD, List.find?_cons, hk]
      rw [this] at e
      exact valD_rep rs e
theorem valD_none {w : Wd} {k : Key} : ∀ {l : List (Key × D)} {kvs : List (Key × V)}, RepK w l kvs → valD l k = none → valV kvs k = none
  | [], kvs, h, e => by simp only [RepK] at h; subst h; rfl
  | (k1, d1) :: l, kvs, h, e => by
    obtain ⟨⟨k2, v2⟩, ys, rfl, e1, r, rs⟩ := h
    have e1 : k2 = k1 := e1
    subst e1
    by_cases hk : k2 = k
    · have : valD ((k2, d1) :: l) k = some d1 := by simp [valD, List.find?_cons, hk]
      rw [this] at e; cases e
    · rw [valV_neg (p := (k2, v2)) hk]
      have : valD ((k2, d1) :: l) k = valD l k := by simp [valD, List.find?_cons, hk]
      rw [this] at e
      exact valD_none rs e
theorem repK_any {w : Wd} {k : Key} : ∀ {l : List (Key × D)} {kvs : List (Key × V)}, RepK w l kvs → (kvs.any fun kv => decide (kv.1 = k)) = (l.any fun kv => decide (kv.1 = k))
  | [], kvs, h => by simp only [RepK] at h; subst h; rfl
  | (k1, d1) :: l, kvs, h => by
    obtain ⟨⟨k2, v2⟩, ys, rfl, e1, r, rs⟩ := h
    have e1 : k2 = k1 := e1
    subst e1
    simp only [List.any_cons, repK_any rs]
theorem repK_map {w : Wd} {k : Key} {d : D} {v : V} (r0 : Rep w d v) : ∀ {l : List (Key × D)} {kvs : List (Key × V)}, RepK w l kvs → RepK w (l.map fun kv => if kv.1 = k then (kv.1, d) else kv) (kvs.map fun kv => if kv.1 = k then (kv.1, v) else kv)
  | [], kvs, h => by simp only [RepK] at h; subst h; rfl
  | (k1, d1) :: l, kvs, h => by
    obtain ⟨⟨k2, v2⟩, ys, rfl, e1, r, rs⟩ := h
    have e1 : k2 = k1 := e1
    subst e1
    simp only [List.map_cons, RepK]
    refine ⟨_, _, rfl, ?_, ?_, repK_map r0 rs⟩
    · by_cases hk : k2 = k <;> simp [hk]
    · by_cases hk : k2 = k <;> simp [hk]
      · exact r0
      · exact r
theorem repK_snoc {w : Wd} {k : Key} {d : D} {v : V} (r0 : Rep w d v) : ∀ {l : List (Key × D)} {kvs : List (Key × V)}, RepK w l kvs → RepK w (l ++ [(k, d)]) (kvs ++ [(k, v)])
  | [], kvs, h => by simp only [RepK] at h; subst h; exact ⟨(k, v), [], rfl, rfl, r0, rfl⟩
  | x :: l, kvs, h => by
    obtain ⟨y, ys, rfl, e1, r, rs⟩ := h
    exact ⟨y, ys ++ [(k, v)], rfl, e1, r, repK_snoc r0 rs⟩
theorem repK_put {w : Wd} {l : List (Key × D)} {kvs : List (Key × V)} {k : Key} {d : D} {v : V} (h : RepK w l kvs) (r : Rep w d v) : RepK w (putD l k d) (putK kvs k v) := by
  unfold putD putK
  rw [repK_any h]
  split
  · exact repK_map r h
  · exact repK_snoc r h
theorem repK_len {w : Wd} : ∀ {l : List (Key × D)} {kvs : List (Key × V)}, RepK w l kvs → kvs.length = l.length
  | [], kvs, h => by simp only [RepK] at h; subst h; rfl
  | x :: l, kvs, h => by
    obtain ⟨y, ys, rfl, _, _, rs⟩ := h
    rw [List.length_cons, List.length_cons, repK_len rs]
/-- d[k] of a dict's cell -/
def dGet : D → D → Store → Option D := fun o i st => match o, keyOf i with
  | .cell c, some k => match st[c]? with
    | some (.dct l) => valD l k
    | _ => none
  | _, _ => none
theorem de_dget (hu : X.A.units + 1 < cLine) (ha : DE X W a fa) (hb : DE X W b fb) (hs : NoSl b := by intro _ _; rfl) : DE X W (.Subscript a b pos) (eOp dGet fa fb) := PE.imp' (pe_dget hu ha hb hs) fun σ H Q h => by
  obtain ⟨w, env, hk, rfl, r, n, h⟩ := h
  refine ⟨w, env, hk, rfl, r, n, (Wp.bind h).imp fun x w1 a1 h1 v rv => ?_⟩
  refine ⟨w1, env, a1.k.trans hk, rfl, a1.rs, n.after a1, (Wp.bind h1).imp fun y w2 a2 h2 u ru => ?_⟩
  have q := Wq.of h2
  obtain ⟨d, e⟩ := wq_some q
  have e0 := e
  unfold dGet at e
  split at e
  · rename_i c k hkey
    split at e
    · rename_i l el
      obtain ⟨kvs, e1, r1⟩ := a2.rs.cells c _ el
      obtain ⟨z, ez, rz⟩ := valD_rep r1 e
      have rv2 := a2.rep rv
      simp only [Rep] at rv2
      refine ⟨_, z, rv2.1, ?_, q.here a2.rs e0 rz⟩
      rw [keyOf_rep hkey ru, ← ez]
      exact DGet.k e1
    · cases e
  · cases e
def putKey (o i d : D) : M Unit := fun st => match o, keyOf i with
  | .cell c, some k => match st[c]? with
    | some (.dct l) => if l.length < 1000 then .ok () (st.set c (.dct (putD l k d))) else .bad
    | _ => .bad
  | _, _ => .bad
def sPutK (fo fi f : Ev → M D) : Ev → M Fl := fun env => stx (f env) env fun d => stx (fo env) env fun o => stx (fi env) env fun i => stx (putKey o i d) env fun _ => pure (.nx env)
theorem ds_dput {o i : Expr} {pos' : Pos} {fo fi : Ev → M D} (hu : X.A.units + 1 < cLine) (ho : DE X W o fo) (hi : DE X W i fi) (hv : DE X W e fa) (hs : swapsWith e (some (.Subscript o i pos')) pos.line X.env = pure false := by rfl) : DS X W (.Assign [.Subscript o i pos'] e pos) (sPutK fo fi fa) :=
  PS.imp' (ps_dput hu ho hi hv hs) fun D' σ H h => by
    obtain ⟨w, env, hk, rfl, r, n, h⟩ := h
    refine ⟨w, env, hk, rfl, r, n, (stx_wp n h).imp fun d w1 a1 h1 v rv => ?_⟩
    refine ⟨w1, env, a1.k.trans hk, rfl, a1.rs, n.after a1, (stx_wp (n.after a1) h1).imp fun od w2 a2 h2 u ru => ?_⟩
    refine ⟨w2, env, a2.k.trans (a1.k.trans hk), rfl, a2.rs, (n.after a1).after a2, (stx_wp ((n.after a1).after a2) h2).imp fun id w3 a3 h3 y ry => ?_⟩
    have h4 := stx_wp (((n.after a1).after a2).after a3) h3
    unfold putKey at h4
    split at h4
    · rename_i c k hkey
      split at h4
      · rename_i l el
        split at h4
        · rename_i hl
          obtain ⟨kvs, e1, r1⟩ := a3.rs.cells c _ el
          have ru3 := a3.rep ru
          simp only [Rep] at ru3
          have up : ∀ b q, b ≠ w3.m c → w3.H b = some q → upd w3.H (w3.m c) (.dK (putK kvs k v)) b = some q := fun b q hb z => by rw [upd_ne hb]; exact z
          have rv3 := (a2.trans a3).rep rv
          have bb : Bears w3 ⟨w3.K, w3.m, w3.st.set c (.dct (putD l k d)), upd w3.H (w3.m c) (.dK (putK kvs k v)), w3.rv⟩ := bears_set (c := .dct (putD l k d)) (c0 := .dct l) a3.rs el trivial up
          have aa : Aft w3 ⟨w3.K, w3.m, w3.st.set c (.dct (putD l k d)), upd w3.H (w3.m c) (.dK (putK kvs k v)), w3.rv⟩ := aft_set (c0 := .dct l) a3.rs el trivial up ⟨_, upd_same, repK_put (bb.repK _ _ r1) (bb.rep _ _ rv3)⟩
          refine ⟨_, _, ru3.1, ?_, Wp.ok_ (a := Fl.nx env) aa.rs (h4 _ aa rfl) σ ((((n.after a1).after a2).after a3).after aa)⟩
          rw [keyOf_rep hkey ry]
          exact DPut.k e1 (by rw [repK_len r1]; exact small1000 (Nat.le_of_lt hl))
        · exact h4.elim
      · exact h4.elim
    · exact h4.elim
/-! ### displays of dicts -/
theorem lat_after {w w1 w2 : Wd} (l : Lat w w1) (a : Aft w1 w2) (h : ∀ x, x ∈ w.rv → x ∈ w1.rv) : Lat w w2 := by
  have hx : ∀ x, x ∈ w.rv → x ∈ w2.rv := fun x hx => by rw [a.rv]; exact h x hx
  exact l.trans ⟨a.k, rfl, ⟨fun i c hc => cell_rv hx (a.rs.cells i c hc), a.rs.inj, fun x z => a.rs.rvs x (hx x z), fun x z => a.rs.rvo x (hx x z)⟩, a.ext, a.len, a.tup, a.fz⟩
theorem Wp.lat {α : Type} {w w1 : Wd} {r : Res α} {P : α → Wd → Prop} {V' : Str → Wd → Prop} (h : Wp w r P V') (l : Lat w w1) (hr : ∀ x, x ∈ w.rv → x ∈ w1.rv) : Wp w1 r (fun a w2 => Lat w w2 ∧ P a ⟨w2.K, w2.m, w2.st, w2.H, w.rv⟩) (fun c w2 => V' c ⟨w2.K, w2.m, w2.st, w2.H, w.rv⟩) := by
  cases r with
  | ok a st' => exact fun w2 a2 e2 => ⟨lat_after l a2 hr, h _ (lat_after l a2 hr) e2⟩
  | err c st' => exact fun w2 a2 e2 => h _ (lat_after l a2 hr) e2
  | bad => exact h
/-- the keys of a display are written -/
def DKs (X : Cx) (W : XW) (pos : Pos) (keys : List (Option Expr)) (vals : List Expr) (ks : List Key) (fs : List (Ev → M D)) : Prop := PPs X pos keys vals ((ks.zip fs).map fun p => (tC (kV p.1), rdE X.K W p.2)) ∧ ks.length = fs.length
theorem dk_nil : DKs X W pos [] [] [] [] := ⟨pps_nil, rfl⟩
theorem dk_cons {x : Str} {j : Nat} {kp : Pos} {keys : List (Option Expr)} {vals : List Expr} {ks : List Key} {fs : List (Ev → M D)} (hv : DE X W e fa) (hr : DKs X W pos keys vals ks fs) : DKs X W pos (some (.Constant (.str x) j kp) :: keys) (e :: vals) (.inr x :: ks) (fa :: fs) :=
  ⟨pps_cons pe_str hv hr.1, by rw [List.length_cons, List.length_cons, hr.2]⟩
theorem pairs_rd {σ : L2.St} {env : Ev} : ∀ {ks : List Key} {fs : List (Ev → M D)} {w : Wd} {G : List (V × V) → Hp → Prop}, ks.length = fs.length → w.K = X.K → RS w → REnv w env σ →
    Wp w (aSeq fs env w.st) (fun ds w2 => ∀ vs, Reps w2 ds vs → G ((ks.zip vs).map fun p => (kV p.1, p.2)) w2.H) (fun c w2 => W c σ w2.H) → tPairs ((ks.zip fs).map fun p => (tC (kV p.1), rdE X.K W p.2)) σ w.H G
  | [], [], w, G, hl, hk, rs, n, h => Wp.ok_ (a := ([] : List D)) rs h [] rfl
  | [], _ :: _, _, _, hl, _, _, _, _ => by cases hl
  | _ :: _, [], _, _, hl, _, _, _, _ => by cases hl
  | k :: ks, f :: fs, w, G, hl, hk, rs, n, h => by
    refine ⟨w, env, hk, rfl, rs, n, (Wp.bind h).imp fun d w1 a1 h1 v rv => ?_⟩
    refine pairs_rd (by simpa using hl) (a1.k.trans hk) a1.rs (n.after a1) ((Wp.bind h1).imp fun ds w2 a2 h2 vs rvs => ?_)
    exact Wp.ok_ (a := d :: ds) a2.rs h2 (v :: vs) ⟨v, vs, rfl, a2.rep rv, rvs⟩
theorem merge_nodup : ∀ {kvs acc : List (Key × V)}, (acc.map (·.1) ++ kvs.map (·.1)).Nodup → mergeK acc kvs = acc ++ kvs
  | [], acc, h => by simp [mergeK]
  | kv :: kvs, acc, h => by
    have hn : valV acc kv.1 = none := by
      have : ¬ kv.1 ∈ acc.map (·.1) := fun z => by
        rw [List.nodup_append] at h
        exact h.2.2 _ z _ (by simp) rfl
      unfold valV
      rw [Option.map_eq_none_iff, List.find?_eq_none]
      intro y hy z
      exact this (List.mem_map.mpr ⟨y, hy, of_decide_eq_true z⟩)
    have e : mergeK acc (kv :: kvs) = mergeK (putK acc kv.1 kv.2) kvs := rfl
    rw [e, putK_new _ hn, merge_nodup (by simpa using h)]
    simp
theorem repK_zip {w : Wd} : ∀ {ks : List Key} {ds : List D} {vs : List V}, Reps w ds vs → RepK w (ks.zip ds) (ks.zip vs)
  | [], ds, vs, h => by simp [RepK]
  | k :: ks, [], vs, h => by simp only [Reps] at h; subst h; simp [RepK]
  | k :: ks, d :: ds, vs, h => by
    simp only [Reps] at h
    obtain ⟨x, xs, rfl, r, rs⟩ := h
    exact ⟨(k, x), _, rfl, rfl, r, repK_zip rs⟩
/-- the same world, one more address reserved -/
def Wd.res (w : Wd) (p : Addr) : Wd := ⟨w.K, w.m, w.st, w.H, p :: w.rv⟩
/-- what a display leaves: the dict at p, known to nobody yet -/
theorem disp_rd {σ : L2.St} {env : Ev} {ks : List Key} {fs : List (Ev → M D)} {w : Wd} {Q : VK} (hl : ks.length = fs.length) (hs : ks.length ≤ 15) (hnd : ks.Nodup) (hk : w.K = X.K) (rs : RS w) (n : REnv w env σ)
    (h : Wp w (aSeq fs env w.st) (fun ds w2 => ∀ (p : Addr) (vs : List V), w.H p = none → w2.H p = some (.dK (ks.zip vs)) → RS (w2.res p) → Bears w (w2.res p) → Reps (w2.res p) ds vs → ds.length = ks.length → Q (.ref p) w2.H) (fun c w2 => W c σ w2.H)) :
    tDisp ((ks.zip fs).map fun p => (tC (kV p.1), rdE X.K W p.2)) σ w.H Q := by
  intro p hp
  have hsub : ∀ x, x ∈ w.rv → x ∈ p :: w.rv := fun x hx => List.mem_cons_of_mem _ hx
  have a0 : Aft w ⟨w.K, w.m, w.st, upd w.H p (.dK []), w.rv⟩ := aft_new rs hp
  have l0 : Lat w ⟨w.K, w.m, w.st, upd w.H p (.dK []), p :: w.rv⟩ := a0
  have rs0 : RS ⟨w.K, w.m, w.st, upd w.H p (.dK []), p :: w.rv⟩ := by
    refine ⟨fun i c hc => cell_bears (bears_res hp) (fun o q _ => same_upd hp _ _ q) (fun _ q => roL_same (same_upd hp) q) rfl (rs.cells i c hc), a0.rs.inj, fun x hx z => ?_, fun x hx z => ?_⟩
    · rcases List.mem_cons.mp hx with rfl | hx
      · have z : upd w.H x (.dK []) x = none := z; rw [upd_same] at z; cases z
      · exact a0.rs.rvs x hx z
    · rcases List.mem_cons.mp hx with rfl | hx
      · exact (fz_new (w := w) (o := .dK []) rs hp).2 z
      · exact a0.rs.rvo x hx z
  have n0 : REnv ⟨w.K, w.m, w.st, upd w.H p (.dK []), p :: w.rv⟩ env σ := ⟨n.len, fun i d e => let ⟨v, e1, r⟩ := n.at_ i d e; ⟨v, e1, (bears_res hp).rep _ _ r⟩⟩
  refine pairs_rd (w := ⟨w.K, w.m, w.st, upd w.H p (.dK []), p :: w.rv⟩) hl hk rs0 n0 ?_
  show Wp (⟨w.K, w.m, w.st, upd w.H p (.dK []), p :: w.rv⟩ : Wd) (aSeq fs env w.st) _ _
  cases ea : aSeq fs env w.st with
  | bad => rw [ea] at h; exact h.elim
  | err c st' =>
    rw [ea] at h
    exact fun w2 a2 e2 => h ⟨w2.K, w2.m, w2.st, w2.H, w.rv⟩ (lat_after l0 a2 hsub) e2
  | ok ds st' =>
    rw [ea] at h
    intro w2 a2 e2 vs rvs
    have hdl : ds.length = fs.length := aSeq_len ea
    have lat2 : Lat w w2 := lat_after l0 a2 hsub
    have hf := a2.fz p (.dK []) (fz_new (w := w) rs hp)
    have own2 : ¬ Own w2.m w2.st p := hf.2
    have hks : (ks.zip vs).map (·.1) = ks := by
      rw [List.map_fst_zip]
      rw [reps_len rvs, hdl, hl]; exact Nat.le_refl _
    refine ⟨hf.1, ks.zip vs, rfl, by rw [List.length_zip]; omega, ?_⟩
    rw [merge_nodup (by simpa [hks] using hnd), List.nil_append]
    have rv2 : w2.rv = p :: w.rv := a2.rv
    have up : ∀ b q, b ≠ p → w2.H b = some q → upd w2.H p (.dK (ks.zip vs)) b = some q := fun b q hb z => by rw [upd_ne hb]; exact z
    have tupk : ∀ a xs, SqT w2.K w2.H a xs → SqT w2.K (upd w2.H p (.dK (ks.zip vs))) a xs := fun a xs q => by
      rcases q with (q | ⟨o, q⟩) | q
      · exact .inl (.inl (up _ _ (ne_of q hf.1 (by intro z; cases z)) q))
      · exact .inl (.inr ⟨o, up _ _ (ne_of q hf.1 (by intro z; cases z)) q⟩)
      · exact .inr q
    have bW : Bears w2 ⟨w2.K, w2.m, w2.st, upd w2.H p (.dK (ks.zip vs)), p :: w.rv⟩ := ⟨fun _ _ => rfl, Nat.le_refl _, tupk, fun x o q => ⟨⟨up _ _ (fun z => q.2 (by rw [z, rv2]; exact List.mem_cons_self ..)) q.1.1, q.1.2⟩, by rw [← rv2]; exact q.2⟩⟩
    have cellk : ∀ i c, w2.st[i]? = some c → CellOk ⟨w2.K, w2.m, w2.st, upd w2.H p (.dK (ks.zip vs)), p :: w.rv⟩ (w2.m i) c := fun i c hc => by
      have q := a2.rs.cells i c hc
      by_cases lv : c.live
      · have hne : w2.m i ≠ p := fun z => own2 ⟨i, c, hc, lv, z⟩
        exact cell_bears bW (fun o q _ => up _ _ hne q) (fun xs q => by
          rcases q with ⟨u, q⟩ | q
          · exact .inl ⟨u, up _ _ hne q⟩
          · exact .inr q) rfl q
      · cases c with
        | ro l' =>
          obtain ⟨xs, q1, q2, q3⟩ := q
          refine ⟨xs, ?_, bW.reps _ _ q2, q3⟩
          rcases q1 with ⟨u, q1⟩ | q1
          · exact .inl ⟨u, up _ _ (ne_of q1 hf.1 (by intro z; cases z)) q1⟩
          · exact .inr q1
        | dead => trivial
        | _ => exact absurd trivial lv
    have rsW : RS ⟨w2.K, w2.m, w2.st, upd w2.H p (.dK (ks.zip vs)), p :: w.rv⟩ := ⟨cellk, a2.rs.inj, fun x hx z => by
        by_cases hxp : x = p
        · subst hxp; have z : upd w2.H x (.dK (ks.zip vs)) x = none := z; rw [upd_same] at z; cases z
        · have z : upd w2.H p (.dK (ks.zip vs)) x = none := z
          rw [upd_ne hxp] at z; exact a2.rs.rvs x (by rw [rv2]; exact hx) z, fun x hx => a2.rs.rvo x (by rw [rv2]; exact hx)⟩
    have latW : Aft w ⟨w2.K, w2.m, w2.st, upd w2.H p (.dK (ks.zip vs)), w.rv⟩ := by
      refine ⟨lat2.k, rfl, ⟨fun i c hc => cell_rv (w := ⟨w2.K, w2.m, w2.st, upd w2.H p (.dK (ks.zip vs)), p :: w.rv⟩) hsub (cellk i c hc), a2.rs.inj, fun x hx => rsW.rvs x (hsub x hx), fun x hx => rsW.rvo x (hsub x hx)⟩, lat2.ext, lat2.len, fun a xs q => tupk a xs (lat2.tup a xs q), fun x o q => ?_⟩
      have q' := lat2.fz x o q
      exact ⟨up _ _ (fun z => by rw [z] at q; exact absurd (q.1.symm.trans hp) (by simp)) q'.1, q'.2⟩
    exact h _ latW e2 p vs hp upd_same rsW ((bears_res hp).trans (a2.bears.trans bW)) (bW.reps _ _ rvs) (by rw [hdl, hl])
/-- {..}[k] -/
def eDispGet (ks : List Key) (fs : List (Ev → M D)) (fb : Ev → M D) : Ev → M D := fun env => do
  let ds ← aSeq fs env
  let k ← fb env
  lift fun _ => (keyOf k).bind fun key => valD (ks.zip ds) key
end
end G
end

section
set_option Elab.async false
set_option linter.all false
set_option autoImplicit false
set_option maxRecDepth 100000
set_option maxHeartbeats 1000000
namespace G
open PySem PySem.Spec PyProof.Rows L2
section
variable {X : Cx} {W : XW} {e a b c : Expr} {s : Stmt} {ss : List Stmt} {pos : Pos} {fa fb fc : Ev → M D} {g g' : Ev → M Fl}
theorem de_dispGet {keys : List (Option Expr)} {vals : List Expr} {ks : List Key} {fs : List (Ev → M D)} {dpos : Pos} (hu : X.A.units + 1 < cLine) (hd : DKs X W dpos keys vals ks fs) (hb : DE X W b fb) (hall : keys.all (·.isSome) = true) (hl : keys.length = vals.length) (h0 : keys ≠ []) (h15 : keys.length ≤ 15)
    (hkl : ks.length ≤ 15) (hnd : ks.Nodup) (hs : NoSl b := by intro _ _; rfl) : DE X W (.Subscript (.Dict keys vals dpos) b pos) (eDispGet ks fs fb) := PE.imp' (pe_dget hu (pe_disp hd.1 hall hl h0 h15) hb hs) fun σ H Q h => by
  obtain ⟨w, env, hk, rfl, r, n, h⟩ := h
  refine disp_rd hd.2 hkl hnd hk r n ((Wp.bind h).imp fun ds w2 a2 h2 p vs hp hH rsR bR rvs hdl => ?_)
  have hsub : ∀ x, x ∈ w2.rv → x ∈ (w2.res p).rv := fun x hx => List.mem_cons_of_mem _ hx
  have l2 : Lat w2 (w2.res p) := Aft.refl a2.rs
  refine ⟨w2.res p, env, a2.k.trans hk, rfl, rsR, ⟨n.len, fun i d e => let ⟨v, e1, rr⟩ := n.at_ i d e; ⟨v, e1, bR.rep _ _ rr⟩⟩, ?_⟩
  show Wp (w2.res p) (fb env w2.st) _ _
  have h3 := Wp.bind h2
  cases ek : fb env w2.st with
  | bad => rw [ek] at h3; exact h3.elim
  | err c st' => rw [ek] at h3; exact fun w3 a3 e3 => h3 ⟨w3.K, w3.m, w3.st, w3.H, w2.rv⟩ (lat_after l2 a3 hsub) e3
  | ok y st' =>
    rw [ek] at h3
    intro w3 a3 e3 u ru
    have h4 := Wq.of (w := ⟨w3.K, w3.m, w3.st, w3.H, w2.rv⟩) (h3 ⟨w3.K, w3.m, w3.st, w3.H, w2.rv⟩ (lat_after l2 a3 hsub) e3)
    obtain ⟨d, ed⟩ := wq_some h4
    have hf := a3.fz p _ ⟨hH, rsR.rvo p (List.mem_cons_self ..)⟩
    cases kk : keyOf y with
    | none => rw [kk] at ed; cases ed
    | some key =>
      have ed' := ed
      rw [kk] at ed'
      obtain ⟨v, ev, rv⟩ := valD_rep (repK_zip (ks := ks) (a3.reps rvs)) ed'
      refine ⟨p, v, rfl, by rw [keyOf_rep kk ru, ← ev]; exact DGet.k hf.1, ?_⟩
      exact h4.here (lat_after l2 a3 hsub).rs ed ((bears_rv (w := w3) (fun x hx => by rw [a3.rv]; exact hsub x hx)).rep _ _ rv)
def eNewD (ks : List Key) (fs : List (Ev → M D)) : Ev → M D := fun env => do
  let ds ← aSeq fs env
  newCell (.dct (ks.zip ds))
theorem de_newD {keys : List (Option Expr)} {vals : List Expr} {ks : List Key} {fs : List (Ev → M D)} (hd : DKs X W pos keys vals ks fs) (hall : keys.all (·.isSome) = true) (hl : keys.length = vals.length) (h0 : keys ≠ []) (h15 : keys.length ≤ 15) (hkl : ks.length ≤ 15) (hnd : ks.Nodup) :
    DE X W (.Dict keys vals pos) (eNewD ks fs) := PE.imp' (pe_disp hd.1 hall hl h0 h15) fun σ H Q h => by
  obtain ⟨w, env, hk, rfl, r, n, h⟩ := h
  refine disp_rd hd.2 hkl hnd hk r n ?_
  have h1 : Wp w ((aSeq fs env >>= fun ds => newCell (.dct (ks.zip ds))) w.st) (fun d w' => ∀ v, Rep w' d v → Q v w'.H) (fun c w' => W c σ w'.H) := h
  have h2 : Wp w (M.andThen (aSeq fs env) (fun ds => newCell (.dct (ks.zip ds))) w.st) (fun d w' => ∀ v, Rep w' d v → Q v w'.H) (fun c w' => W c σ w'.H) := h1
  unfold M.andThen at h2
  cases ea : aSeq fs env w.st with
  | bad => rw [ea] at h2; exact h2.elim
  | err c st' => rw [ea] at h2; exact h2
  | ok ds st' =>
    rw [ea] at h2
    intro w2 a2 e2 p vs hp hH rsR bR rvs hdl
    subst e2
    have own2 : ¬ Own w2.m w2.st p := rsR.rvo p (List.mem_cons_self ..)
    -- the dict becomes a cell
    have ownN : ∀ x, Own (mpNew w2.m w2.st.length p) (w2.st ++ [.dct (ks.zip ds)]) x → Own w2.m w2.st x ∨ x = p := fun x z => own_new z
    have bN : Bears (w2.res p) ⟨w2.K, mpNew w2.m w2.st.length p, w2.st ++ [.dct (ks.zip ds)], w2.H, w2.rv⟩ := ⟨fun i hi => mpNew_old hi, by simp [Wd.res], fun _ _ q => q, fun x o q => ⟨⟨q.1.1, fun z => by
      rcases ownN x z with z | z
      · exact q.1.2 z
      · exact q.2 (by rw [z]; exact List.mem_cons_self ..)⟩, fun z => q.2 (List.mem_cons_of_mem _ z)⟩⟩
    have cells : ∀ i c, (w2.st ++ [Cell.dct (ks.zip ds)])[i]? = some c → CellOk ⟨w2.K, mpNew w2.m w2.st.length p, w2.st ++ [.dct (ks.zip ds)], w2.H, w2.rv⟩ (mpNew w2.m w2.st.length p i) c := fun i c hc => by
      rcases at_new hc with ⟨hi, hc⟩ | ⟨hi, hc⟩
      · rw [mpNew_old hi]
        exact cell_bears bN (fun o q _ => q) (fun _ q => q) rfl (rsR.cells i c hc)
      · subst hc hi
        rw [mpNew_new]
        exact ⟨_, hH, repK_zip (bN.reps _ _ rvs)⟩
    have aN : Aft w ⟨w2.K, mpNew w2.m w2.st.length p, w2.st ++ [.dct (ks.zip ds)], w2.H, w2.rv⟩ := by
      refine ⟨a2.k, a2.rv, ⟨cells, fun i j c1 c2 q1 q2 l1 l2 q => ?_, fun x hx => a2.rs.rvs x hx, fun x hx z => ?_⟩, fun i hi => (mpNew_old (Nat.lt_of_lt_of_le hi a2.len)).trans (a2.ext i hi), Nat.le_trans a2.len (by simp), a2.tup, fun x o q => ?_⟩
      · have q : mpNew w2.m w2.st.length p i = mpNew w2.m w2.st.length p j := q
        rcases at_new q1 with ⟨hi, q1⟩ | ⟨hi, q1⟩
        · rw [mpNew_old hi] at q
          rcases at_new q2 with ⟨hj, q2⟩ | ⟨hj, q2⟩
          · rw [mpNew_old hj] at q
            exact a2.rs.inj i j c1 c2 q1 q2 l1 l2 q
          · rw [hj, mpNew_new] at q
            exact absurd ⟨i, c1, q1, l1, q⟩ own2
        · rw [hi, mpNew_new] at q
          rcases at_new q2 with ⟨hj, q2⟩ | ⟨hj, q2⟩
          · rw [mpNew_old hj] at q
            exact absurd ⟨j, c2, q2, l2, q.symm⟩ own2
          · rw [hi, hj]
      · rcases ownN x z with z | z
        · exact a2.rs.rvo x hx z
        · subst z; rw [a2.rv] at hx; exact r.rvs x hx hp
      · have q' := a2.fz x o q
        refine ⟨q'.1, fun z => ?_⟩
        rcases ownN x z with z | z
        · exact q'.2 z
        · subst z; exact absurd (q.1.symm.trans hp) (by simp)
    refine h2 _ aN rfl (.ref p) ?_
    simp only [Rep]
    exact ⟨by rw [mpNew_new], by simp⟩
/-! ## repr of data -/
def reprOk (p : PyData) : Bool := p.showable && decide (p.shown.length ≤ sizeLine) && decide (p.depth ≤ 60) && !p.hasDict
def dRepr : List D → Store → Option D
  | [.tup l], _ => match (D.tup l).data with
    | some p => if reprOk p then some (.str p.shown) else none
    | none => none
  | [.lst l], _ => match (D.lst l).data with
    | some p => if reprOk p then some (.str p.shown) else none
    | none => none
  | [.int i], _ => if i.natAbs.log2 < 1920 then some (.str (toString i)) else none
  | _, _ => none
def rReprD (K : PySem.W.Frag) : List V → Hp → VK → Prop := fun xs H Q => ∃ (x : Addr) (d : PyData), xs = [.ref x] ∧ Dp K H (.ref x) d ∧ reprOk d = true ∧ Q (.str d.shown) H
theorem cr_reprD (hg : X.A.guards = some []) (hu : X.A.units + 64 < cLine) : CallR X (.builtin "repr") (rReprD X.K) := by
  intro pins s σ H xs us Q I rel h
  obtain ⟨x, d, rfl, hd, hok, q⟩ := h
  obtain ⟨u, rfl, rx⟩ := vals1 rel
  cases (show u = Value.ref x from rx)
  obtain ⟨as, rr⟩ := Dp.reads I d (.ref x) (.ref x) hd rfl
  unfold reprOk at hok
  simp only [Bool.and_eq_true, decide_eq_true_eq, Bool.not_eq_true'] at hok
  obtain ⟨⟨⟨h1, h2⟩, h3⟩, h4⟩ := hok
  refine repr_of_reads' (h₀ := s.heap) rr h1 (fun z => by rw [h4] at z; cases z) hg (by omega) (fun _ _ z => z) ?_ h2
  intro h' ut tk keep
  refine ⟨.str d.shown, H, ?_, ⟨_, rfl⟩, q⟩
  exact I.un (Un.kept keep) (I.hok.kept keep)
theorem cd_repr (hg : X.A.guards = some []) (hu : X.A.units + 64 < cLine) : CallD X (.builtin "repr") dRepr := CallR.imp' ((cr_reprD hg hu).or SkE.call_repr_int) fun xs H Q h => by
  obtain ⟨w, ds, hk, rfl, rs, rd, q⟩ := h
  obtain ⟨d, e⟩ := wq_some q
  have e0 := e
  unfold dRepr at e
  split at e
  · rename_i l
    obtain ⟨v, rfl, r⟩ := reps1 rd
    split at e
    · rename_i p ep
      split at e
      · rename_i hok
        have r0 := r
        simp only [Rep] at r
        obtain ⟨x, ys, rfl, _⟩ := r
        exact .inl ⟨x, p, rfl, by rw [← hk]; exact dp_of _ _ p r0 ep, hok, q.here rs (e0.trans e.symm) (rep_str _)⟩
      · cases e
    · cases e
  · rename_i l
    obtain ⟨v, rfl, r⟩ := reps1 rd
    split at e
    · rename_i p ep
      split at e
      · rename_i hok
        have r0 := r
        simp only [Rep] at r
        obtain ⟨x, ys, rfl, _⟩ := r
        exact .inl ⟨x, p, rfl, by rw [← hk]; exact dp_of _ _ p r0 ep, hok, q.here rs (e0.trans e.symm) (rep_str _)⟩
      · cases e
    · cases e
  · rename_i i
    obtain ⟨v, rfl, r⟩ := reps1 rd
    simp only [Rep] at r
    split at e
    · rename_i hc
      exact .inr ⟨i, by rw [r], hc, q.here rs (e0.trans e.symm) (rep_str _)⟩
    · cases e
  · cases e
/-! ## xs[::-1] -/
def dRev : D → Store → Option D
  | .lst l, _ => some (.lst l.reverse)
  | _, _ => none
theorem reps_rev {w : Wd} : ∀ {ds : List D} {vs : List V}, Reps w ds vs → Reps w ds.reverse vs.reverse
  | [], vs, h => by simp only [Reps] at h; subst h; simp [Reps]
  | d :: ds, vs, h => by
    simp only [Reps] at h
    obtain ⟨x, xs, rfl, r, rs⟩ := h
    rw [List.reverse_cons, List.reverse_cons]
    exact reps_app (reps_rev rs) (by simp only [Reps]; exact ⟨x, [], rfl, r, rfl⟩)
theorem de_rev {k : Nat} {p1 p2 p3 : Pos} (ha : DE X W a fa) : DE X W (.Subscript a (.Slice none none (some (.UnaryOp .USub (.Constant (.int 1) k p1) p2)) p3) pos) (eUn dRev fa) := PE.imp' (pe_revL ha) fun σ H Q h => by
  obtain ⟨w, env, hk, rfl, r, n, h⟩ := h
  refine ⟨w, env, hk, rfl, r, n, (Wp.bind h).imp fun x w1 a1 h1 v rv => ?_⟩
  have q := Wq.of h1
  obtain ⟨d, e⟩ := wq_some q
  unfold dRev at e
  split at e
  · rename_i l
    simp only [Rep] at rv
    obtain ⟨x, xs, rfl, sq, rr, hl⟩ := rv
    show ∃ a xs, _ ∧ _ ∧ _
    exact ⟨x, xs, rfl, SqL.of sq.1.1, fun p hp => q.new a1.rs hp rfl (rep_new a1.rs hp (reps_rev rr) (by rw [List.length_reverse]; exact hl))⟩
  · cases e
end
end G
end

section
set_option Elab.async false
set_option linter.all false
set_option autoImplicit false
set_option maxRecDepth 100000
set_option maxHeartbeats 1000000
namespace G
open PySem PySem.Spec PyProof.Rows L2
/-! ## a def by its name -/
structure CalM (P : Program) (w : World) (K : PySem.W.Frag) (mg : Str → Option Value) (base : Heap) (k : Nat) (x : Str) (ps : List Str) (F : List D → M D) : Prop where
  ex : ∃ (f : Addr) (fd : FuncData), mg x = some (.ref f) ∧ PySem.W.keepIn K (.ref f) = true ∧ Binds K fd ps [] ∧ FnM P w K mg base k f fd ps F
theorem calm_zero {P : Program} {w : World} {K : PySem.W.Frag} {mg : Str → Option Value} {base : Heap} {x : Str} {ps : List Str} {f : Addr} {fd : FuncData} (hm : mg x = some (.ref f)) (hk : PySem.W.keepIn K (.ref f) = true) (hb : Binds K fd ps []) : CalM P w K mg base 0 x ps (fun _ => M.stuck) :=
  ⟨f, fd, hm, hk, hb, ⟨fun vs H Q E h => by obtain ⟨_, _, _, _, _, _, _, h⟩ := h; exact h.elim, fun A outer s H args us vs Q E _ _ _ _ _ h => by obtain ⟨_, _, _, _, _, _, _, h⟩ := h; exact h.elim⟩⟩
section
variable {X : Cx} {W : XW} {e a b c : Expr} {pos p : Pos} {fa fb fc : Ev → M D} {k : Nat} {ps : List Str} {x : Str} {es : List Expr}
theorem dcall {F : List D → M D} {fs : List (Ev → M D)} {Wx : WX} (C : CalM X.prog X.w X.K X.mg X.base k x ps F) (hgd : X.A.guards = some []) (hr : Room k X.A) (tk : Takes X Wx) (hW : W = wX X.K Wx) (hg : Gl X x) (ha : DA X W (e :: es) fs) (hl : fs.length = ps.length := by rfl)
    (hdb : (x == ("__debug__" : Str)) = false := by decide) (he : starEach (e :: es) X.env = (false, eval e X.env) :: starEach es X.env := by rfl) (hpl : (backTo pos (starEach es X.env)).any (·.1) = false := by rfl) : DE X W (.Call (.Name x p) (e :: es) [] pos) (eCall F fs) := by
  obtain ⟨f, fd, h1, h2, h3, h4⟩ := C.ex
  exact de_call h4 hgd hr tk hW hg h1 h2 h3 ha hl hdb he hpl
theorem dcall0 {F : List D → M D} {Wx : WX} (C : CalM X.prog X.w X.K X.mg X.base k x [] F) (hgd : X.A.guards = some []) (hr : Room k X.A) (tk : Takes X Wx) (hW : W = wX X.K Wx) (hg : Gl X x) (hdb : (x == ("__debug__" : Str)) = false := by decide) : DE X W (.Call (.Name x p) [] [] pos) (eCall F []) := by
  obtain ⟨f, fd, h1, h2, h3, h4⟩ := C.ex
  exact de_call0 h4 hgd hr tk hW hg h1 h2 h3 hdb
/-- the name in the i-th slot -/
theorem dv (i : Nat) (hN : X.N[i]? = some x := by rfl) (hv : Vis X.env.scope x := by first | exact Or.inl rfl | exact Or.inr (Or.inl rfl) | exact Or.inr (Or.inr rfl)) (hd : (x == ("__debug__" : Str)) = false := by decide) (hcd : (x == ("__classdict__" : Str)) = false := by decide) : DE X W (.Name x pos) (eVar i) := de_var i hN hv hd hcd
/-- a list's cell is given up -/
def freeL : D → M D := fun d st => match d with
  | .cell c => match st[c]? with
    | some (.lst l) => .ok (.lst l) (st.set c .dead)
    | _ => .bad
  | _ => .bad
def eFree (f : Ev → M D) : Ev → M D := fun env => do
  let d ← f env
  freeL d
theorem de_free (h : DE X W e fa) : DE X W e (eFree fa) := PE.imp' h fun σ H Q h => by
  obtain ⟨w, env, hk, rfl, r, n, h⟩ := h
  refine ⟨w, env, hk, rfl, r, n, (Wp.bind h).imp fun d w1 a1 h1 v rv => ?_⟩
  unfold freeL at h1
  split at h1
  · rename_i c
    split at h1
    · rename_i l el
      obtain ⟨a2, v2, r2, e2⟩ := aft_free (K := w1.K) (m := w1.m) (st := w1.st) (H := w1.H) (rv := w1.rv) a1.rs el
      simp only [Rep] at rv
      subst e2
      rw [rv.1]
      exact h1 _ a2 rfl _ r2
    · exact h1.elim
  · exact h1.elim
theorem room65 {A : Around} {n : Nat} (r : Room n A) : A.units + 65 < cLine := by have := r.un; omega
theorem room1 {A : Around} {n : Nat} (r : Room n A) : A.units + 1 < cLine := by have := r.un; omega
end
/-! ## the frame of a proof: the defs of a text by an index -/
structure Facts (ι : Type) (nm : ι → Str) (st : ι → Stmt) (free : List Str) (K : PySem.W.Frag) (mg : Str → Option Value) : Prop where
  mgf : ∀ i, mg (nm i) = some (.ref (He.ga K (nm i)))
  fd : ∀ i, ∃ fd, FunD K (nm i) (nm i) (defArgs (st i)) (defBody (st i)) (defScope (st i)) [] [] (He.ga K (nm i)) fd
  fr : ∀ x ∈ free, mg x = none
theorem calm_of {ι : Type} {nm : ι → Str} {st : ι → Stmt} {free : List Str} {P : Program} {w : World} {K : PySem.W.Frag} {mg : Str → Option Value} {base : Heap} {k : Nat} {N ps : List Str} {g : Ev → M Fl} (T : Facts ι nm st free K mg) (i : ι) (S : FnScope N ps (defScope (st i))) (hN : ps.length ≤ N.length)
    (hbd : ∀ fd, FunD K (nm i) (nm i) (defArgs (st i)) (defBody (st i)) (defScope (st i)) [] [] (He.ga K (nm i)) fd → Binds K fd ps [])
    (hb : ∀ (cdv : Value) (A : Around) (outer : List Env) (s : Shared) (H : Hp) (E : XK), A.guards = some [] → Room k (A.deeper (envOfC (nm i) (defScope (st i)) s.heap.objs.size (He.ga K (nm i)) cdv)) →
      DSs (cxOf (L2.CX P w) P w K mg base N (nm i) (defScope (st i)) (He.ga K (nm i)) cdv A outer s H E) (wE K E) (defBody (st i)) g) : CalM P w K mg base (k + 1) (nm i) ps (runF N.length g) := by
  obtain ⟨fd, FD⟩ := T.fd i
  exact ⟨_, fd, T.mgf i, FD.kp, hbd fd FD, fnm_of FD S hN hb⟩
/-! ## == of two texts -/
def dEqS : D → D → Store → Option D
  | .str x, .str y, _ => some (.bl (x == y))
  | _, _, _ => none
def dNeS : D → D → Store → Option D
  | .str x, .str y, _ => some (.bl (!(x == y)))
  | _, _, _ => none
theorem od_eqS {X : Cx} : OpD X (compareOp .Eq) dEqS := OpR.imp' op_eq fun x y H Q h => by
  obtain ⟨w, a, b, hk, rfl, rs, ra, rb, q⟩ := h
  obtain ⟨d, e⟩ := wq_some q
  unfold dEqS at e
  split at e
  · rename_i u v
    cases e
    simp only [Rep] at ra rb
    subst ra; subst rb
    refine ⟨rfl, ?_⟩
    rw [dec_str]
    exact q.here rs rfl (rep_bl _)
  · cases e
theorem od_neS {X : Cx} : OpD X (compareOp .NotEq) dNeS := OpR.imp' op_ne fun x y H Q h => by
  obtain ⟨w, a, b, hk, rfl, rs, ra, rb, q⟩ := h
  obtain ⟨d, e⟩ := wq_some q
  unfold dNeS at e
  split at e
  · rename_i u v
    cases e
    simp only [Rep] at ra rb
    subst ra; subst rb
    refine ⟨rfl, ?_⟩
    rw [dec_str]
    exact q.here rs rfl (rep_bl _)
  · cases e
end G
end

section
set_option Elab.async false
set_option linter.all false
set_option autoImplicit false
set_option maxRecDepth 100000
set_option maxHeartbeats 1000000
namespace G
open PySem PySem.Spec PyProof.Rows L2
/-! ## the module's constants -/
inductive Con (K : PySem.W.Frag) (mg : Str → Option Value) (x : Str) : D → Prop
  | int {i : Int} {t : Tok} (h : mg x = some (.int i t)) : Con K mg x (.int i)
  | str {z : Str} {t : Tok} (h : mg x = some (.str z t)) : Con K mg x (.str z)
  | tup {zs : List Str} (h : mg x = some (.ref (He.ga K x))) (hs : ∀ H, SqT K H (He.ga K x) (zs.map V.str)) (hl : zs.length ≤ sizeLine) : Con K mg x (.tup (zs.map D.str))
theorem reps_strs {w : Wd} : ∀ zs : List Str, Reps w (zs.map D.str) (zs.map V.str)
  | [] => by simp [Reps]
  | z :: zs => by
    simp only [List.map_cons, Reps]
    exact ⟨_, _, rfl, by simp [Rep], reps_strs zs⟩
section
variable {X : Cx} {W : XW} {e a b c : Expr} {pos p : Pos} {fa fb fc : Ev → M D} {x : Str}
theorem de_con {d : D} (hg : Gl X x) (hc : Con X.K X.mg x d) (hd : (x == ("__debug__" : Str)) = false := by decide) : DE X W (.Name x pos) (eC d) := by
  cases hc with
  | @int i t h =>
    refine PE.imp' (pe_glob (v := .int i) hg h ⟨t, rfl⟩ hd) fun σ H Q h => ?_
    obtain ⟨w, env, hk, rfl, r, n, h⟩ := h
    exact Wp.ok_ (a := D.int i) r h _ (by simp [Rep])
  | @str z t h =>
    refine PE.imp' (pe_glob (v := .str z) hg h ⟨t, rfl⟩ hd) fun σ H Q h => ?_
    obtain ⟨w, env, hk, rfl, r, n, h⟩ := h
    exact Wp.ok_ (a := D.str z) r h _ (by simp [Rep])
  | @tup zs h hs hl =>
    refine PE.imp' (pe_glob (v := .ref (He.ga X.K x)) hg h rfl hd) fun σ H Q h => ?_
    obtain ⟨w, env, hk, rfl, r, n, h⟩ := h
    refine Wp.ok_ (a := D.tup (zs.map D.str)) r h _ ?_
    simp only [Rep]
    exact ⟨_, zs.map V.str, rfl, by rw [hk]; exact hs _, reps_strs zs, by simpa using hl⟩
/-! ## signs -/
def chars (z : Str) : List D := z.cps.toList.map fun c => D.str ⟨#[c]⟩
def asS : D → M Str
  | .str z => pure z
  | _ => M.stuck
def iChars (f : Ev → M D) : Ev → M (List D) := fun env => do
  let d ← f env
  let z ← asS d
  if z.length ≤ sizeLine then pure (chars z) else M.stuck
theorem asS_wp {w : Wd} {d : D} {P : Str → Wd → Prop} {V' : Str → Wd → Prop} (rs : RS w) (h : Wp w (asS d w.st) P V') : ∃ b, d = .str b ∧ P b w := by
  cases d with
  | str b => exact ⟨b, rfl, Wp.ok_ rs h⟩
  | _ => exact h.elim
theorem walks_str {w : Wd} {z : Str} (hz : z.length ≤ sizeLine) : Walks w (Its z) (chars z) where
  step := fun w' hk rs b i d e => by
    unfold chars at e
    rw [List.getElem?_map] at e
    cases q : z.cps.toList[i]? with
    | none => rw [q] at e; cases e
    | some c =>
      rw [q] at e
      cases e
      have hi : i < z.cps.size := by
        have := (List.getElem?_eq_some_iff.mp q).1
        simpa using this
      refine ⟨hi, fun v H' hv => ?_⟩
      obtain ⟨rfl, c', hc', rfl⟩ := hv
      have e3 : c' = c := by
        rw [Array.getElem?_toList] at q
        rw [hc'] at q
        cases q
        rfl
      subst e3
      exact ⟨w', .refl rs, rfl, rfl, rfl, by simp [Rep]⟩
  stop := fun w' hk rs b => by
    unfold chars
    rw [List.length_map]
    exact Nat.le_of_eq (by simp)
  len := by
    unfold chars
    rw [List.length_map]
    exact hz
theorem di_chars {tg : Expr} (h : DE X W a fa) : DI X W tg a (iChars fa) := by
  refine PI.imp' (pi_str h) fun σ H R h => ?_
  obtain ⟨w, env, hk, rfl, r, n, h⟩ := h
  refine ⟨w, env, hk, rfl, r, n, (Wp.bind h).imp fun d w1 a1 h1 v rv => ?_⟩
  obtain ⟨z, rfl, h2⟩ := asS_wp a1.rs (Wp.bind h1)
  simp only [Rep] at rv
  by_cases hc : z.length ≤ sizeLine
  · rw [if_pos hc] at h2
    exact ⟨z, rv, Wp.ok_ (a := chars z) a1.rs h2 _ (walks_str hc)⟩
  · rw [if_neg hc] at h2
    exact h2.elim
def sign? : D → Option Nat
  | .str z => match z.cps.toList with
    | [c] => some c
    | _ => none
  | _ => none
def dInS : D → D → Store → Option D := fun a b _ => match sign? a, b with
  | some c, .str z => some (.bl (decide (c ∈ z.cps.toList)))
  | _, _ => none
def dNotInS : D → D → Store → Option D := fun a b _ => match sign? a, b with
  | some c, .str z => some (.bl (!decide (c ∈ z.cps.toList)))
  | _, _ => none
theorem sign_some {d : D} {c : Nat} (h : sign? d = some c) : d = .str ⟨#[c]⟩ := by
  cases d with
  | str z =>
    obtain ⟨cs⟩ := z
    obtain ⟨l⟩ := cs
    simp only [sign?] at h
    split at h
    · cases h
      rfl
    · cases h
  | _ => cases h
theorem od_inS : OpD X (compareOp .In) dInS := OpR.imp' op_in_sign fun x y H Q h => by
  obtain ⟨w, a, b, hk, rfl, rs, ra, rb, q⟩ := h
  obtain ⟨d, e⟩ := wq_some q
  have e0 := e
  unfold dInS at e
  split at e
  · rename_i c z hs
    cases sign_some hs
    simp only [Rep] at ra rb
    exact ⟨c, z, ra, rb, q.here rs (e0.trans e.symm) (rep_bl _)⟩
  · cases e
theorem od_notInS : OpD X (compareOp .NotIn) dNotInS := OpR.imp' op_notIn_sign fun x y H Q h => by
  obtain ⟨w, a, b, hk, rfl, rs, ra, rb, q⟩ := h
  obtain ⟨d, e⟩ := wq_some q
  have e0 := e
  unfold dNotInS at e
  split at e
  · rename_i c z hs
    cases sign_some hs
    simp only [Rep] at ra rb
    exact ⟨c, z, ra, rb, q.here rs (e0.trans e.symm) (rep_bl _)⟩
  · cases e
/-! ## int of a truth -/
def dIntB : List D → Store → Option D
  | [.bl k], _ => some (.int (if k then 1 else 0))
  | _, _ => none
theorem cd_intB : CallD X (.type "int") dIntB := CallR.imp' call_int1 fun xs H Q h => by
  obtain ⟨w, ds, hk, rfl, rs, rd, q⟩ := h
  obtain ⟨d, e⟩ := wq_some q
  unfold dIntB at e
  split at e
  · rename_i k
    obtain ⟨v, rfl, r⟩ := reps1 rd
    simp only [Rep] at r
    exact .inr ⟨k, by rw [r], q.here rs rfl (rep_int _)⟩
  · cases e
/-! ## max of a list -/
def maxI : List Int → Option Int
  | [] => none
  | n :: r => some (r.foldl max n)
theorem foldl_max (r : List Int) : ∀ n : Int, (r.foldl max n = n ∨ r.foldl max n ∈ r) ∧ n ≤ r.foldl max n ∧ ∀ y ∈ r, y ≤ r.foldl max n := by
  induction r with
  | nil => intro n; exact ⟨.inl rfl, Int.le_refl _, by simp⟩
  | cons m r ih =>
    intro n
    obtain ⟨h1, h2, h3⟩ := ih (max n m)
    simp only [List.foldl_cons]
    refine ⟨?_, by omega, fun y hy => ?_⟩
    · rcases h1 with h1 | h1
      · rw [h1]
        by_cases z : n ≤ m
        · right; rw [Int.max_eq_right z]; simp
        · left; rw [Int.max_eq_left (by omega)]
      · right; simp [h1]
    · rcases List.mem_cons.mp hy with rfl | hy
      · omega
      · exact h3 y hy
def dMaxL : List D → Store → Option D
  | [.lst l], _ => (ints? l).bind fun ns => (maxI ns).map .int
  | _, _ => none
theorem cd_maxL (hc : X.calm = true) : CallD X (.builtin "max") dMaxL := CallR.imp' (cr_max hc) fun xs H Q h => by
  obtain ⟨w, ds, hk, rfl, rs, rd, q⟩ := h
  obtain ⟨d, e⟩ := wq_some q
  have e0 := e
  unfold dMaxL at e
  split at e
  · rename_i l
    obtain ⟨v, rfl, r⟩ := reps1 rd
    simp only [Rep] at r
    obtain ⟨a, ys, rfl, s, r1, l1⟩ := r
    cases qi : ints? l with
    | none => rw [qi] at e; cases e
    | some ns =>
      rw [qi] at e
      have ey := ints_reps qi r1
      subst ey
      cases ns with
      | nil => cases e
      | cons n r =>
        obtain ⟨f1, f2, f3⟩ := foldl_max r n
        refine ⟨a, n :: r, rfl, by rw [← hk]; exact SqL.of s.1.1, by simp, fun m hm hy => ?_⟩
        have em : m = r.foldl max n := by
          have a1 : m ≤ r.foldl max n := by
            rcases List.mem_cons.mp hm with rfl | hm
            · exact f2
            · exact f3 m hm
          have a2 : r.foldl max n ≤ m := by
            rcases f1 with f1 | f1
            · rw [f1]; exact hy n (by simp)
            · exact hy _ (by simp [f1])
          omega
        subst em
        exact q.here rs (e0.trans e.symm) (rep_int _)
  · cases e
end
end G
end

section
set_option Elab.async false
set_option linter.all false
set_option autoImplicit false
set_option maxRecDepth 100000
set_option maxHeartbeats 1000000
namespace G
open PySem PySem.Spec PyProof.Rows L2
section
variable {X : Cx} {W : XW} {e a b c : Expr} {pos p : Pos} {fa fb fc : Ev → M D} {x : Str}
/-! ## repr of any datum -/
def dReprA : List D → Store → Option D
  | [.non], _ => some (.str "None")
  | [.bl k], _ => some (.str (if k then "True" else "False"))
  | [.str z], _ => if (reprText z).length ≤ sizeLine then some (.str (reprText z)) else none
  | [.dct0], _ => some (.str (PyData.shown (.dict [])))
  | ds, st => dRepr ds st
theorem cr_none : CallR X (.builtin "repr") (fun xs H Q => xs = [.non] ∧ Q (.str "None") H) := by
  intro pins s σ H xs us Q I r h
  obtain ⟨rfl, q⟩ := h
  obtain ⟨u, rfl, ru⟩ := vals1 r
  cases (show u = Value.none from ru)
  exact PySem.P.repr_of_none ⟨.str _, H, I.tok _, ⟨_, rfl⟩, q⟩
theorem cr_bool : CallR X (.builtin "repr") (fun xs H Q => ∃ k : Bool, xs = [.bl k] ∧ Q (.str (if k then "True" else "False")) H) := by
  intro pins s σ H xs us Q I r h
  obtain ⟨k, rfl, q⟩ := h
  obtain ⟨u, rfl, ru⟩ := vals1 r
  cases (show u = Value.bool k from ru)
  refine PySem.P.repr_of_bool ?_
  exact ⟨.str (if k then "True" else "False"), H, I.tok _, by cases k <;> exact ⟨_, rfl⟩, q⟩
theorem cr_strR : CallR X (.builtin "repr") (fun xs H Q => ∃ z : Str, xs = [.str z] ∧ (reprText z).length ≤ sizeLine ∧ Q (.str (reprText z)) H) := by
  intro pins s σ H xs us Q I r h
  obtain ⟨z, rfl, hz, q⟩ := h
  obtain ⟨u, rfl, t, rfl⟩ := vals1 r
  exact PySem.P.repr_of_str ⟨.str _, H, I.tok _, ⟨_, rfl⟩, q⟩ hz
theorem cr_dct0 (hg : X.A.guards = some []) (hu : X.A.units + 64 < cLine) : CallR X (.builtin "repr") (fun xs H Q => ∃ a, xs = [.ref a] ∧ H a = some (.dK []) ∧ Q (.str (PyData.shown (.dict []))) H) := by
  intro pins s σ H xs us Q I r h
  obtain ⟨a, rfl, ha, q⟩ := h
  obtain ⟨u, rfl, ru⟩ := vals1 r
  cases (show u = Value.ref a from ru)
  obtain ⟨_, hne, vs, kv, dd⟩ := dk_of I.hok ha
  have hv : vs = [] := by cases kv; rfl
  subst hv
  obtain ⟨o, es, ep, h1, h2, h3, _, h5, _⟩ := dd
  have he : es.toList = [] := by
    generalize es.toList = l at h5
    cases h5; rfl
  have hsm : ¬ sysModules ∈ [a] := by
    intro z
    rw [List.mem_singleton.mp z] at hne
    simp at hne
  have rr : Reads s.heap (.ref a) (.dict []) (a :: [] ++ []) := .dict h1 h2.1 h3 (by rw [he]; exact .nil) (by rw [he]; exact .nil)
  refine repr_of_reads' (h₀ := s.heap) rr rfl (fun _ => hsm) hg (by show X.A.units + (PyData.depth (.dict []) + 1) < cLine; have : PyData.depth (.dict []) = 1 := rfl; omega) (fun _ _ z => z) ?_ (by decide)
  intro h' ut tk keep
  exact ⟨.str _, H, I.un (Un.kept keep) (I.hok.kept keep), ⟨_, rfl⟩, q⟩
theorem cd_reprA (hg : X.A.guards = some []) (hu : X.A.units + 64 < cLine) : CallD X (.builtin "repr") dReprA := CallR.imp' (cr_none.or (cr_bool.or (cr_strR.or ((cr_dct0 hg hu).or (cd_repr hg hu))))) fun xs H Q h => by
  obtain ⟨w, ds, hk, rfl, rs, rd, q⟩ := h
  obtain ⟨d, e⟩ := wq_some q
  have e0 := e
  unfold dReprA at e
  split at e
  · obtain ⟨v, rfl, r⟩ := reps1 rd
    simp only [Rep] at r
    exact .inl ⟨by rw [r], q.here rs rfl (rep_str _)⟩
  · rename_i k
    obtain ⟨v, rfl, r⟩ := reps1 rd
    simp only [Rep] at r
    exact .inr (.inl ⟨k, by rw [r], q.here rs rfl (rep_str _)⟩)
  · rename_i z
    obtain ⟨v, rfl, r⟩ := reps1 rd
    simp only [Rep] at r
    split at e
    · rename_i hz
      exact .inr (.inr (.inl ⟨z, by rw [r], hz, q.here rs (e0.trans e.symm) (rep_str _)⟩))
    · cases e
  · obtain ⟨v, rfl, r⟩ := reps1 rd
    simp only [Rep] at r
    obtain ⟨a, rfl, s⟩ := r
    exact .inr (.inr (.inr (.inl ⟨a, rfl, s.1.1, q.here rs rfl (rep_str _)⟩)))
  · rename_i ds' n1 n2 n3 n4
    refine .inr (.inr (.inr (.inr ⟨w, _, hk, rfl, rs, rd, ?_⟩)))
    obtain ⟨d', e', q'⟩ := q
    exact ⟨d', e.trans (e0.symm.trans e'), q'⟩
/-! ## split -/
def dSplit : D → D → Store → Option D
  | .str z, .str y, _ => if (y.length == 0) = false ∧ z.length + 2 ≤ sizeLine ∧ (Txt.split z y).length ≤ sizeLine then some (.lst ((Txt.split z y).map D.str)) else none
  | _, _, _ => none
def eSplit (fa fb : Ev → M D) : Ev → M D := fun env => do
  let d ← fa env
  let z ← asS d
  let y ← fb env
  lift (dSplit (.str z) y)
theorem de_split {apos : Pos} (ha : DE X W a fa) (hb : DE X W b fb) (hs : starEach [b] X.env = [(false, eval b X.env)] := by rfl) (hbase : attributeBase a "split" X.env (eval a X.env) = eval a X.env := by rfl) (hline : (apos.endLine == pos.line) = true := by rfl) :
    DE X W (.Call (.Attribute a "split" apos) [b] [] pos) (eSplit fa fb) := PE.imp' (pe_split ha hb hs hbase hline) fun σ H Q h => by
  obtain ⟨w, env, hk, rfl, r, n, h⟩ := h
  refine ⟨w, env, hk, rfl, r, n, (Wp.bind h).imp fun x w1 a1 h1 v rv => ?_⟩
  obtain ⟨z, rfl, h2⟩ := asS_wp a1.rs (Wp.bind h1)
  simp only [Rep] at rv
  refine ⟨⟨z, rv⟩, w1, env, a1.k.trans hk, rfl, a1.rs, n.after a1, (Wp.bind h2).imp fun y w2 a2 h3 u ru => ?_⟩
  have q := Wq.of h3
  obtain ⟨d, e⟩ := wq_some q
  have e0 := e
  unfold dSplit at e
  split at e
  · rename_i z' y' ez
    cases ez
    simp only [Rep] at ru
    split at e
    · rename_i hc
      refine ⟨z, _, rv, by rw [ru], hc.1, hc.2.1, fun p hp => ?_⟩
      refine q.new a2.rs hp (e0.trans e.symm) ?_
      exact rep_new a2.rs hp (reps_strs _) (by simpa using hc.2.2)
    · cases e
  · cases e
/-! ## d.get(k, x) of a dict's cell -/
def isDct (d : D) (st : Store) : Bool := match d with
  | .cell c => match st[c]? with
    | some (.dct _) => true
    | _ => false
  | _ => false
def chkD (d : D) : M Unit := fun st => if isDct d st = true then .ok () st else .bad
def dGet2 (o k z : D) (st : Store) : Option D := match o, keyOf k with
    | .cell c, some key => match st[c]? with
      | some (.dct l) => some ((valD l key).getD z)
      | _ => none
    | _, _ => none
def eGet2 (fo fk fx : Ev → M D) : Ev → M D := fun env => do
  let o ← fo env
  chkD o
  let k ← fk env
  let z ← fx env
  lift (dGet2 o k z)
theorem chkD_wp {w : Wd} {d : D} {P : Unit → Wd → Prop} {V' : Str → Wd → Prop} (rs : RS w) (h : Wp w (chkD d w.st) P V') : (∃ c l, d = .cell c ∧ w.st[c]? = some (.dct l)) ∧ P () w := by
  unfold chkD at h
  by_cases hd : isDct d w.st = true
  · rw [if_pos hd] at h
    refine ⟨?_, Wp.ok_ rs h⟩
    unfold isDct at hd
    split at hd
    · split at hd
      · rename_i c _ l e; exact ⟨c, l, rfl, e⟩
      · cases hd
    · cases hd
  · rw [if_neg hd] at h; exact h.elim
theorem de_get2 {apos : Pos} (hu : X.A.units + 1 < cLine) (ha : DE X W a fa) (hb : DE X W b fb) (hc : DE X W c fc) (m : M2 X a "get" apos b c pos) : DE X W (.Call (.Attribute a "get" apos) [b, c] [] pos) (eGet2 fa fb fc) := PE.imp' (pe_dget2 hu ha hb hc m) fun σ H Q h => by
  obtain ⟨w, env, hk, rfl, r, n, h⟩ := h
  refine ⟨w, env, hk, rfl, r, n, (Wp.bind h).imp fun x w1 a1 h1 v rv => ?_⟩
  obtain ⟨⟨c1, l1, rfl, e1⟩, h2⟩ := chkD_wp a1.rs (Wp.bind h1)
  have rv0 := rv
  simp only [Rep] at rv
  obtain ⟨kv1, q1, _⟩ := a1.rs.cells c1 _ e1
  refine ⟨_, rv.1, .inl ⟨kv1, .inl q1⟩, w1, env, a1.k.trans hk, rfl, a1.rs, n.after a1, (Wp.bind h2).imp fun y w2 a2 h3 u ru => ?_⟩
  refine ⟨w2, env, a2.k.trans (a1.k.trans hk), rfl, a2.rs, (n.after a1).after a2, (Wp.bind h3).imp fun z w3 a3 h4 t rt => ?_⟩
  have q := Wq.of h4
  obtain ⟨d, e⟩ := wq_some q
  have e0 := e
  unfold dGet2 at e
  split at e
  · rename_i c' key ec hkey
    cases ec
    split at e
    · rename_i l el
      obtain ⟨kvs, e2, r2⟩ := a3.rs.cells _ _ el
      have rv3 := (a2.trans a3).rep rv0
      simp only [Rep] at rv3
      have eu := keyOf_rep hkey ru
      subst eu
      have em : w1.m c1 = w3.m c1 := V.ref.inj (rv.1.symm.trans rv3.1)
      cases qv : valD l key with
      | some d1 =>
        obtain ⟨v1, ev, r1⟩ := valD_rep r2 qv
        refine ⟨some v1, ?_, q.here a3.rs (e0.trans (e.symm.trans (by rw [qv]; rfl))) r1⟩
        rw [← ev, em]
        exact DGet.k e2
      | none =>
        have ev := valD_none r2 qv
        refine ⟨none, ?_, q.here a3.rs (e0.trans (e.symm.trans (by rw [qv]; rfl))) rt⟩
        rw [← ev, em]
        exact DGet.k e2
    · cases e
  · cases e
/-! ## enumerate -/
def pairsD (l : List D) : List D := (l.zipIdx).map fun q => D.tup [.int (q.2 : Nat), q.1]
def iEnumL (f : Ev → M D) : Ev → M (List D) := fun env => do
  let d ← f env
  let l ← itemsL d
  pure (pairsD l)
theorem walks_enum {w : Wd} {a : Addr} {l : List D} (r : Rep w (.lst l) (.ref a)) : Walks w (Ite w.K a) (pairsD l) where
  step := fun w' hk rs b i d e => by
    have r' := b.rep _ _ r
    simp only [Rep] at r'
    obtain ⟨a', xs, ea, s, rr, _⟩ := r'
    cases ea
    unfold pairsD at e
    rw [List.getElem?_map, List.getElem?_zipIdx] at e
    cases q : l[i]? with
    | none => rw [q] at e; cases e
    | some d0 =>
      rw [q] at e
      simp only [Option.map_some, Nat.zero_add, Option.some.injEq] at e
      subst e
      obtain ⟨x0, ex, rx⟩ := reps_at rr q
      have sl : SqL w.K w'.H a xs := by rw [← hk]; exact SqL.of s.1.1
      refine ⟨⟨xs, x0, sl, ex⟩, fun y H' hy => ?_⟩
      obtain ⟨T, x1, rfl, hT, rfl, hx⟩ := hy
      have e1 := hx xs sl
      rw [ex] at e1
      cases e1
      refine ⟨⟨w'.K, w'.m, w'.st, upd w'.H T (.tup [.int (i : Nat), x0]), w'.rv⟩, aft_new (K := w'.K) (m := w'.m) (st := w'.st) (H := w'.H) (rv := w'.rv) rs hT, rfl, rfl, rfl, ?_⟩
      refine rep_newT rs hT ?_ (Nat.le_of_ble_eq_true rfl)
      simp only [Reps]
      exact ⟨_, _, rfl, by simp [Rep], _, _, rfl, rx, rfl⟩
  stop := fun w' hk rs b => by
    have r' := b.rep _ _ r
    simp only [Rep] at r'
    obtain ⟨a', xs, ea, s, rr, _⟩ := r'
    cases ea
    refine ⟨xs, by rw [← hk]; exact SqL.of s.1.1, ?_⟩
    unfold pairsD
    simp [reps_len rr]
  len := by
    simp only [Rep] at r
    obtain ⟨_, _, _, _, _, h⟩ := r
    unfold pairsD
    simpa using h
theorem itemsL_wp {w : Wd} {d : D} {P : List D → Wd → Prop} {V' : Str → Wd → Prop} (rs : RS w) (h : Wp w (itemsL d w.st) P V') : ∃ l, d = .lst l ∧ P l w := by
  cases d with
  | lst l => exact ⟨l, rfl, Wp.ok_ rs h⟩
  | _ => exact h.elim
theorem di_enum {elts : List Expr} {kk : Nat} {tpos : Pos} (hg : Gl X "enumerate") (hm : X.mg "enumerate" = none) (h : DE X W a fa) (hst : starEach [a] X.env = (false, eval a X.env) :: starEach [] X.env := by rfl) : DI X W (.Tuple elts kk tpos) (.Call (.Name "enumerate" p) [a] [] pos) (iEnumL fa) := by
  refine PI.imp' (pi_enum hg hm (pa_cons (es := []) h pa_nil hst) (hs := hst)) fun σ H R h => ?_
  obtain ⟨w, env, hk, rfl, r, n, h⟩ := h
  refine ⟨w, env, hk, rfl, r, n, (Wp.bind h).imp fun d w1 a1 h1 v rv => ?_⟩
  obtain ⟨l, rfl, h2⟩ := itemsL_wp a1.rs (Wp.bind h1)
  have rv0 := rv
  simp only [Rep] at rv
  obtain ⟨q, xs, rfl, s, rr, hl⟩ := rv
  refine ⟨q, xs, rfl, SqL.of s.1.1, ?_⟩
  have wk := walks_enum rv0
  rw [a1.k.trans hk] at wk
  exact Wp.ok_ (a := pairsD l) a1.rs h2 _ wk
/-! ## a, b = a list of two -/
def gtPairL (t1 t2 : D → Ev → M Ev) : D → Ev → M Ev := fun d env => match d with
  | .lst [a, b] => do
    let e1 ← t1 a env
    t2 b e1
  | _ => M.stuck
theorem gtPairL_wp {g1 g2 : D → Ev → M Ev} {w : Wd} {d : D} {env : Ev} {P : Ev → Wd → Prop} {V' : Str → Wd → Prop} (h : Wp w (gtPairL g1 g2 d env w.st) P V') : ∃ x y, d = .lst [x, y] ∧ Wp w ((g1 x env >>= fun e1 => g2 y e1) w.st) P V' := by
  cases d with
  | lst l =>
    match l, h with
    | [], h => exact h.elim
    | [x], h => exact h.elim
    | [x, y], h => exact ⟨x, y, rfl, h⟩
    | x :: y :: z :: l, h => exact h.elim
  | _ => exact h.elim
theorem dg_pairL {t1 t2 : Expr} {kk : Nat} {g1 g2 : D → Ev → M Ev} (hc : X.calm = true) (h1 : DG X W0 t1 g1) (h2 : DG X W0 t2 g2) (hs1 : (assignEach [t1, t2] X.env).map (·.2) = assign t1 X.env :: (assignEach [t2] X.env).map (·.2) := by rfl) (hs2 : (assignEach [t2] X.env).map (·.2) = assign t2 X.env :: (assignEach [] X.env).map (·.2) := by rfl)
    (hn : (assignEach [t1, t2] X.env).length = 2 := by rfl) (hst : (assignEach [t1, t2] X.env).findIdx? (·.1) = none := by rfl) : DG X W (.Tuple [t1, t2] kk pos) (fun d env => noErr (gtPairL g1 g2 d env)) := PG.imp' (pg_lst hc (pgs_cons h1 (pgs_cons h2 pgs_nil hs2) hs1) hn hst) fun v σ H Q h => by
  obtain ⟨w, env, d, hk, rfl, r, n, rv, h⟩ := h
  have h := noErr_wp (x := gtPairL g1 g2 d env) h
  obtain ⟨x, y, rfl, h⟩ := gtPairL_wp h
  simp only [Rep] at rv
  obtain ⟨p, xs, rfl, sq, rr, _⟩ := rv
  obtain ⟨u1, u2, rfl, r1, r2⟩ := reps2 rr
  refine ⟨p, [u1, u2], rfl, SqL.of sq.1.1, rfl, u1, [u2], rfl, w, env, x, hk, rfl, r, n, r1, (Wp.bind h).mono (fun e1 w1 a1 h1 σ1 n1 => ?_) fun _ _ _ z => z⟩
  refine ⟨u2, [], rfl, w1, e1, y, a1.k.trans hk, rfl, a1.rs, n1, a1.rep r2, h1.mono (fun e2 w2 a2 h2 σ2 n2 => ⟨rfl, h2 σ2 n2⟩) fun _ _ _ z => z⟩
end
end G
end

section
set_option Elab.async false
set_option linter.all false
set_option maxRecDepth 100000
set_option maxHeartbeats 4000000
namespace G
open PySem PySem.Spec PyProof.Rows L2
/-! ## a tuple times 0, times 1 -/
theorem tmul0 (l : Addr) (its : Array Value) (n : Nat) (dd : Option Addr) (sl : Array (Option Value)) (u : Tok) (he : its.isEmpty = false) :
    Meets (Builtin.«tuple.__mul__» ⟨[.ref l, .int 0 u], []⟩) (fun _ R s => s.heap.get? l = some { cls := .type "tuple", dict := dd, data := .seq its n, slots := sl } ∧ R (.ok (.ret (Value.ref s.heap.objs.size))) { s with heap := s.heap.push { cls := .type "tuple", data := .seq #[] } }) :=
  .of_wp fun prog w A R s h => by
    obtain ⟨hp, g, d, tk, os⟩ := s
    obtain ⟨hl, h⟩ := h
    have idx := AutoSeq1.idx_int
    have e1 : (its.isEmpty || (0 : Int) == 1) = false := by rw [he]; rfl
    wp_walk using wpAny_loadPart' hl
    repeat (first
      | (refine wpAny_ite_false (decide_eq_false (by rw [e1]; decide)) ?_; wp_walk using wpAny_loadPart' hl)
      | (refine wpAny_ite_true (decide_eq_true (by rfl)) ?_; wp_walk using wpAny_loadPart' hl)
      | (refine wpAny_ite_false (decide_eq_false (by decide)) ?_; wp_walk using wpAny_loadPart' hl))
    exact ⟨_, rfl, h⟩
theorem tmul1 (l : Addr) (its : Array Value) (n : Nat) (dd : Option Addr) (sl : Array (Option Value)) (u : Tok) :
    Meets (Builtin.«tuple.__mul__» ⟨[.ref l, .int 1 u], []⟩) (fun _ R s => s.heap.get? l = some { cls := .type "tuple", dict := dd, data := .seq its n, slots := sl } ∧ R (.ok (.ret (Value.ref l))) s) :=
  .of_wp fun prog w A R s h => by
    obtain ⟨hp, g, d, tk, os⟩ := s
    obtain ⟨hl, h⟩ := h
    have idx := AutoSeq1.idx_int
    have e1 : (its.isEmpty || (1 : Int) == 1) = true := by rw [show ((1 : Int) == 1) = true from rfl, Bool.or_true]
    wp_walk using wpAny_loadPart' hl
    repeat (first
      | (refine wpAny_ite_true (decide_eq_true (by rw [e1])) ?_; wp_walk using wpAny_loadPart' hl)
      | (refine wpAny_ite_false (decide_eq_false (by decide)) ?_; wp_walk using wpAny_loadPart' hl))
    exact ⟨_, rfl, h⟩
section
variable {X : Cx} {W : XW}
theorem op_t01 : OpR X (binaryOp .Mult) (fun x y H Q => ∃ l xs, x = .ref l ∧ SqT X.K H l xs ∧ xs ≠ [] ∧ ((y = .int 1 ∧ Q (.ref l) H) ∨ (y = .int 0 ∧ ∀ p, H p = none → Q (.ref p) (upd H p (.tup []))))) := by
  intro pins s σ H x y v u Q I rx ry h
  obtain ⟨l, xs, rfl, hT, hne, h⟩ := h
  cases rx
  obtain ⟨its, r, ⟨⟨cls, dd, data, sl⟩, ho, hc, n, hd⟩, hs⟩ := I.tuple hT
  simp only at hc hd
  subst hc hd
  have hi : its.toArray.isEmpty = false := by
    cases its with
    | nil => exact absurd (List.eq_nil_of_length_eq_zero (by rw [r.length]; rfl)) hne
    | cons a b => rfl
  rcases h with ⟨rfl, q⟩ | ⟨rfl, q⟩
  · obtain ⟨t, rfl⟩ := ry
    refine wpAny_binaryOp_repeat_ref (T := "tuple") (U := "int") (by decide) ⟨_, ho, rfl⟩ (fun s' => typeIs_int s' 1 t) noFill_tuple_mul F.fills_int_mul F.slot_int_rmul repeat_tuple F.slot_int_index.lookup ?_
    refine call_meets F.slot_int_rmul (typeIs_int s 1 t) F.entry_int_rmul (F.args_int_rmul_2 _ _) (int_rmul_tuple 1 t l its.toArray n dd sl) ⟨ho, rfl, ⟨_, ho, rfl⟩, ?_⟩
    refine call_meets F.slot_tuple_mul ⟨_, ho, rfl⟩ F.entry_tuple_mul (F.args_tuple_mul_2 _ _) (tmul1 l its.toArray n dd sl t) ⟨ho, ?_⟩
    exact ⟨.ref l, H, I, rfl, q⟩
  · obtain ⟨t, rfl⟩ := ry
    refine wpAny_binaryOp_repeat_ref (T := "tuple") (U := "int") (by decide) ⟨_, ho, rfl⟩ (fun s' => typeIs_int s' 0 t) noFill_tuple_mul F.fills_int_mul F.slot_int_rmul repeat_tuple F.slot_int_index.lookup ?_
    refine call_meets F.slot_int_rmul (typeIs_int s 0 t) F.entry_int_rmul (F.args_int_rmul_2 _ _) (int_rmul_tuple 0 t l its.toArray n dd sl) ⟨ho, rfl, ⟨_, ho, rfl⟩, ?_⟩
    refine call_meets F.slot_tuple_mul ⟨_, ho, rfl⟩ F.entry_tuple_mul (F.args_tuple_mul_2 _ _) (tmul0 l its.toArray n dd sl t hi) ⟨ho, ?_⟩
    refine ⟨.ref s.heap.objs.size, _, I.laid (t' := s.toks) (o := .tup []) (fun b ob q => Heap.get?_push_of_some _ q) (Nat.le_refl _) ?_, rfl, q _ (I.hok.fresh (Nat.le_refl _))⟩
    exact ⟨Nat.zero_le _, [], .nil, ⟨_, Heap.get?_push_size _ rfl, rfl, _, rfl⟩⟩
def dMulT : D → D → Store → Option D
  | .tup l, .int k, _ => if l ≠ [] ∧ 0 ≤ k ∧ k ≤ 1000 ∧ l.length ≤ 1000 then some (.tup (List.replicate k.toNat l).flatten) else none
  | _, _, _ => none
theorem reps_flat {w : Wd} {ds : List D} {xs : List V} (h : Reps w ds xs) : ∀ n, Reps w (List.replicate n ds).flatten (List.replicate n xs).flatten
  | 0 => by simp [Reps]
  | n + 1 => by
    rw [List.replicate_succ, List.flatten_cons, List.replicate_succ, List.flatten_cons]
    exact reps_app h (reps_flat h n)
theorem od_mulT : OpD X (binaryOp .Mult) dMulT := OpR.imp' (op_repT.or op_t01) fun x y H Q h => by
  obtain ⟨w, a, b, hk, rfl, rs, ra, rb, q⟩ := h
  obtain ⟨d, e⟩ := wq_some q
  have e0 := e
  unfold dMulT at e
  split at e
  · rename_i l k
    split at e
    · rename_i hc
      obtain ⟨h1, h2, h3, h4⟩ := hc
      have ra0 := ra
      simp only [Rep] at ra rb
      obtain ⟨p, xs, rfl, sq, rr, hl⟩ := ra
      subst rb
      have hx : xs ≠ [] := fun z => h1 (List.eq_nil_of_length_eq_zero (by rw [← reps_len rr, z]; rfl))
      have hxl : xs.length ≤ 1000 := by rw [reps_len rr]; exact h4
      have sq' : SqT X.K w.H p xs := by rw [← hk]; exact sq
      by_cases k2 : 2 ≤ k
      · refine .inl ⟨p, k, xs, rfl, rfl, sq', hx, k2, h3, hxl, fun p' hp => ?_⟩
        refine q.new rs hp (e0.trans e.symm) ?_
        refine rep_newT rs hp (reps_flat rr _) ?_
        rw [PyProof.Rows.lm_len_rep_flat, sizeLine_eq]
        have a1 : k.toNat * l.length ≤ 1000 * 1000 := Nat.mul_le_mul (by omega) h4
        omega
      · refine .inr ⟨p, xs, rfl, sq', hx, ?_⟩
        rcases (by omega : k = 1 ∨ k = 0) with rfl | rfl
        · refine .inl ⟨rfl, q.here rs (e0.trans (e.symm.trans ?_)) ra0⟩
          simp
        · refine .inr ⟨rfl, fun p' hp => q.new rs hp (e0.trans e.symm) ?_⟩
          refine rep_newT rs hp ?_ (Nat.zero_le _)
          simp [Reps]
    · cases e
  · cases e
end
/-! ## {} -/
def eDct0 : Ev → M D := fun _ => pure .dct0
theorem de_dct0 {X : Cx} {W : XW} {pos : Pos} : DE X W (.Dict [] [] pos) eDct0 := PE.imp' pe_dnewK fun σ H Q h => by
  obtain ⟨w, env, hk, rfl, r, n, h⟩ := h
  intro p hp
  have a1 := aft_new (K := w.K) (m := w.m) (st := w.st) (H := w.H) (rv := w.rv) (o := .dK []) r hp
  refine h _ a1 rfl (.ref p) ?_
  simp only [Rep]
  exact ⟨p, rfl, fr_new r hp⟩
/-! ## a Hook with one more look -/
def hookM (n : Nat) (fa : List He.Fa) (fn : List He.DefD) (ex : PySem.W.Frag → Bool) : PySem.W.Hook where
  α := He.AlD × Bool
  obs := fun s => (He.obsDG n fa fn s.heap.get?, ex (He.frG s.heap.get? (He.asD s.heap.get? n)))
  val := fun _ => (He.valD fn, true)
  says := fun _ h => ∃ K : PySem.W.Frag, K.In h ∧ He.SaysD fa fn K ∧ ex K = true
  of := fun _ _ e => ⟨_, He.frG_in, congrArg Prod.fst e, congrArg Prod.snd e⟩
  keeps := fun _ _ _ ⟨K, hK, c⟩ k => ⟨K, PySem.W.Frag.In.keeps hK k, c⟩
def obsM (n : Nat) (fa : List He.Fa) (fn : List He.DefD) (ex : PySem.W.Frag → Bool) (g : Addr → Option Obj) : He.AlD × Bool := (He.obsDG n fa fn g, ex (He.frG g (He.asD g n)))
theorem obsM_eq {n : Nat} {fa : List He.Fa} {fn : List He.DefD} {ex : PySem.W.Frag → Bool} {g : Addr → Option Obj} {s : Shared} (h : ∀ a, g a = s.heap.get? a) : obsM n fa fn ex g = (hookM n fa fn ex).obs s := by
  have e : g = s.heap.get? := funext h
  rw [e] <;> rfl
end G
end

section
set_option Elab.async false
set_option linter.all false
set_option maxRecDepth 100000
set_option maxHeartbeats 1000000
namespace G
open PySem PySem.Spec PyProof.Rows L2
/-! ## how the readings compute -/
def Res.bnd {α β : Type} (r : Res α) (f : α → M β) : Res β := match r with
  | .ok a st => f a st
  | .err c st => .err c st
  | .bad => .bad
def Res.sb {α : Type} (r : Res α) (env : Ev) (k : α → M Fl) : Res Fl := match r with
  | .ok a st => k a st
  | .err c st => .ok (.exc c env) st
  | .bad => .bad
def Res.noe {α : Type} (r : Res α) : Res α := match r with
  | .ok a st => .ok a st
  | _ => .bad
def lif (o : Option D) (st : Store) : Res D := match o with
  | some d => .ok d st
  | none => .bad
def nxt (g' : Ev → M Fl) : Fl → M Fl
  | .nx e => g' e
  | other => pure other
section
variable {α β : Type} {env : Ev} {st : Store} {fa fb fc : Ev → M D} {g g' : Ev → M Fl} {fs : List (Ev → M D)}
@[simp] theorem bnd_ok (a : α) (st : Store) (f : α → M β) : (Res.ok a st).bnd f = f a st := rfl
@[simp] theorem bnd_err (c : Str) (st : Store) (f : α → M β) : (Res.err c st).bnd f = .err c st := rfl
@[simp] theorem sb_ok (a : α) (st : Store) (env : Ev) (f : α → M Fl) : (Res.ok a st).sb env f = f a st := rfl
@[simp] theorem sb_err (c : Str) (st : Store) (env : Ev) (f : α → M Fl) : (Res.err c st).sb env f = .ok (.exc c env) st := rfl
@[simp] theorem noe_ok (a : α) (st : Store) : (Res.ok a st).noe = .ok a st := rfl
@[simp] theorem lif_some (d : D) (st : Store) : lif (some d) st = .ok d st := rfl
@[simp] theorem nxt_nx (e : Ev) : nxt g' (.nx e) = g' e := rfl
@[simp] theorem nxt_ret (d : D) : nxt g' (.ret d) st = .ok (.ret d) st := rfl
@[simp] theorem nxt_exc (c : Str) (e : Ev) : nxt g' (.exc c e) st = .ok (.exc c e) st := rfl
@[simp] theorem bind_app (x : M α) (f : α → M β) (st : Store) : (x >>= f) st = (x st).bnd f := rfl
@[simp] theorem pure_app' (a : α) (st : Store) : (pure a : M α) st = .ok a st := rfl
@[simp] theorem noErr_app (x : M α) (st : Store) : noErr x st = (x st).noe := rfl
@[simp] theorem stx_app (x : M α) (env : Ev) (k : α → M Fl) (st : Store) : stx x env k st = (x st).sb env k := rfl
@[simp] theorem lift_app (o : Store → Option D) (st : Store) : lift o st = lif (o st) st := by unfold lift lif; cases o st <;> rfl
@[simp] theorem sSeq_app : sSeq g g' env st = (g env st).bnd (nxt g') := by
  show (g env >>= _) st = _
  rw [bind_app]
  congr 1
@[simp] theorem sRet_app : sRet fa env st = (fa env st).sb env fun d st => .ok (.ret d) st := rfl
@[simp] theorem sNop_app : sNop env st = .ok (.nx env) st := rfl
@[simp] theorem sExpr_app : sExpr fa env st = (fa env st).sb env fun _ st => .ok (.nx env) st := rfl
@[simp] theorem sIf_app {t : Ev → M Bool} : sIf t g g' env st = (t env st).sb env fun b => if b = true then g env else g' env := rfl
@[simp] theorem sAsg_app {i : Nat} : sAsg i fa env st = (fa env st).sb env fun d st => .ok (.nx (env.set i (some d))) st := rfl
@[simp] theorem sPar_app {i j : Nat} : sPar i j fa fb env st = (fa env st).sb env fun d st => (fb env st).sb env fun e st => .ok (.nx ((env.set i (some d)).set j (some e))) st := rfl
@[simp] theorem sFor_app {fi : Ev → M (List D)} {tg : D → Ev → Option Ev} : sFor fi tg g env st = (fi env st).sb env fun l => forGo tg g l env := rfl
@[simp] theorem sAsgT_app {tg : D → Ev → M Ev} : sAsgT fa tg env st = (fa env st).sb env fun d st => (tg d env st).sb env fun e st => .ok (.nx e) st := rfl
@[simp] theorem sPutK_app : sPutK fa fb fc env st = (fc env st).sb env fun d st => (fa env st).sb env fun o st => (fb env st).sb env fun i st => (putKey o i d st).sb env fun _ st => .ok (.nx env) st := rfl
@[simp] theorem eC_app (d : D) : eC d env st = .ok d st := rfl
@[simp] theorem eVar_at (i : Nat) {d : D} (h : env[i]? = some (some d)) : eVar i env st = .ok d st := by unfold eVar; rw [h]
@[simp] theorem eOp_app {g : D → D → Store → Option D} : eOp g fa fb env st = (fa env st).bnd fun x st => (fb env st).bnd fun y st => lif (g x y st) st := by
  show (fa env >>= _) st = _
  simp only [bind_app, lift_app]
  congr 1
@[simp] theorem eUn_app {g : D → Store → Option D} : eUn g fa env st = (fa env st).bnd fun x st => lif (g x st) st := by
  show (fa env >>= _) st = _
  simp only [bind_app]
  congr 1
@[simp] theorem asB_bl (b : Bool) : asB (.bl b) st = .ok b st := rfl
@[simp] theorem asI_int (b : Int) : asI (.int b) st = .ok b st := rfl
@[simp] theorem tVal_app : tVal fa env st = (fa env st).bnd asB := rfl
@[simp] theorem tNot_app {t : Ev → M Bool} : tNot' t env st = (t env st).bnd fun b st => .ok (!b) st := rfl
@[simp] theorem tAnd_app {t u : Ev → M Bool} : tAnd' t u env st = (t env st).bnd fun b => if b = true then u env else fun st => .ok false st := rfl
@[simp] theorem tOr_app {t u : Ev → M Bool} : tOr' t u env st = (t env st).bnd fun b => if b = true then fun st => .ok true st else u env := rfl
@[simp] theorem aSeq_nil : aSeq [] env st = .ok [] st := rfl
@[simp] theorem aSeq_cons (f : Ev → M D) : aSeq (f :: fs) env st = (f env st).bnd fun d st => (aSeq fs env st).bnd fun ds st => .ok (d :: ds) st := rfl
@[simp] theorem eCall_app {F : List D → M D} : eCall F fs env st = (aSeq fs env st).bnd F := rfl
@[simp] theorem eB_app {g : List D → Store → Option D} : eB g fs env st = (aSeq fs env st).bnd fun ds st => lif (g ds st) st := by
  show (aSeq fs env >>= _) st = _
  simp only [bind_app]
  congr 1
@[simp] theorem eTup_app : eTup fs env st = (aSeq fs env st).bnd fun ds st => .ok (.tup ds) st := rfl
@[simp] theorem eLst_app : eLst fs env st = (aSeq fs env st).bnd fun ds st => .ok (.lst ds) st := rfl
@[simp] theorem eNewL_app : eNewL fs env st = (aSeq fs env st).bnd fun ds st => .ok (.cell st.length) (st ++ [.lst ds]) := rfl
@[simp] theorem eNewD_app {ks : List Key} : eNewD ks fs env st = (aSeq fs env st).bnd fun ds st => .ok (.cell st.length) (st ++ [.dct (ks.zip ds)]) := rfl
@[simp] theorem iSeq_app : iSeq fa env st = (fa env st).bnd items := rfl
@[simp] theorem items_tup (l : List D) : items (.tup l) st = .ok l st := rfl
@[simp] theorem items_lst (l : List D) : items (.lst l) st = .ok l st := rfl
theorem iRange_at {i : Int} {st' : Store} (h : fa env st = .ok (.int i) st') (h1 : i ≤ 16777216) (h2 : 0 ≤ i) : iRange fa env st = .ok (rangeD i.toNat) st' := by
  show (fa env >>= _) st = _
  rw [bind_app, h, bnd_ok, bind_app, asI_int, bnd_ok, if_pos ⟨h1, by omega⟩]
  rfl
@[simp] theorem eDispGet_app {ks : List Key} : eDispGet ks fs fb env st = (aSeq fs env st).bnd fun ds st => (fb env st).bnd fun k st => lif ((keyOf k).bind fun key => valD (ks.zip ds) key) st := by
  show (aSeq fs env >>= _) st = _
  simp only [bind_app]
  congr 1
@[simp] theorem gtName_app {i : Nat} {d : D} : gtName i d env st = .ok (env.set i (some d)) st := rfl
@[simp] theorem gtSub_app {d : D} : gtSub fa fb d env st = (fa env st).bnd fun o st => (fb env st).bnd fun i st => (putIdx o i d st).bnd fun _ st => .ok env st := rfl
@[simp] theorem gtPair_app {t1 t2 : D → Ev → M Ev} {a b : D} : gtPair t1 t2 (.tup [a, b]) env st = (t1 a env st).bnd fun e1 => t2 b e1 := rfl
@[simp] theorem pNo_app : pNo env st = .ok none st := rfl
@[simp] theorem pAt_app : pAt fa env st = (fa env st).bnd fun d st => (asI d st).bnd fun i st => .ok (some i) st := rfl
@[simp] theorem eSl_app {fl fh : Ev → M (Option Int)} : eSl fa fl fh env st = (fa env st).bnd fun d st => (fl env st).bnd fun lo st => (fh env st).bnd fun hi st => lif (dSl lo hi d st) st := by
  show (fa env >>= _) st = _
  simp only [bind_app]
  congr 1
@[simp] theorem eIf_app {t : Ev → M Bool} : eIf t fa fb env st = (t env st).bnd fun b => if b = true then fa env else fb env := rfl
@[simp] theorem dLt_int {i j : Int} : dLt (.int i) (.int j) st = some (.bl (decide (i < j))) := rfl
@[simp] theorem dLe_int {i j : Int} : dLe (.int i) (.int j) st = some (.bl (decide (i ≤ j))) := rfl
@[simp] theorem dGt_int {i j : Int} : dGt (.int i) (.int j) st = some (.bl (decide (j < i))) := rfl
@[simp] theorem dGe_int {i j : Int} : dGe (.int i) (.int j) st = some (.bl (decide (j ≤ i))) := rfl
@[simp] theorem dAdd_int {i j : Int} : dAdd (.int i) (.int j) st = some (.int (i + j)) := rfl
@[simp] theorem dSub_int {i j : Int} : dSub (.int i) (.int j) st = some (.int (i - j)) := rfl
@[simp] theorem dNeg_int {i : Int} : dNeg (.int i) st = some (.int (-i)) := rfl
theorem beq_decide (i j : Int) : (i == j) = decide (i = j) := rfl
@[simp] theorem dEq_int {i j : Int} : dEq (.int i) (.int j) st = some (.bl (decide (i = j))) := rfl
@[simp] theorem dNe_int {i j : Int} : dNe (.int i) (.int j) st = some (.bl (!decide (i = j))) := rfl
theorem mulOk_of {i j : Int} {a b : Nat} (h1 : i.natAbs < 2 ^ a) (h2 : j.natAbs < 2 ^ b) (h : a + b ≤ 1000000) (hp : 0 < a ∨ 0 < b) : mulOk i j = true := by
  have l1 : i.natAbs.log2 ≤ a := by
    by_cases z : i.natAbs = 0
    · rw [z]; exact Nat.zero_le _
    · exact Nat.le_of_lt ((Nat.log2_lt z).mpr h1)
  have l2 : j.natAbs.log2 ≤ b := by
    by_cases z : j.natAbs = 0
    · rw [z]; exact Nat.zero_le _
    · exact Nat.le_of_lt ((Nat.log2_lt z).mpr h2)
  have l3 : 0 < a → i.natAbs.log2 < a := fun ha => by
    by_cases z : i.natAbs = 0
    · rw [z]; exact ha
    · exact (Nat.log2_lt z).mpr h1
  have l4 : 0 < b → j.natAbs.log2 < b := fun ha => by
    by_cases z : j.natAbs = 0
    · rw [z]; exact ha
    · exact (Nat.log2_lt z).mpr h2
  unfold mulOk
  refine decide_eq_true ?_
  rcases hp with hp | hp
  · have := l3 hp; omega
  · have := l4 hp; omega
theorem dMul_of {i j : Int} (h : mulOk i j = true) : dMul (.int i) (.int j) st = some (.int (i * j)) := by simp only [dMul, if_pos h]
theorem dMod_of {i j : Int} (h : 0 < j) : dMod (.int i) (.int j) st = some (.int (i % j)) := by simp only [dMod, if_pos h]
theorem dDiv_of {i j : Int} (h : divOk j = true) : dDiv (.int i) (.int j) st = some (.int (i / j)) := by simp only [dDiv, if_pos h]
theorem dDivmod_of {i j : Int} (h : divOk j = true) : dDivmod [.int i, .int j] st = some (.tup [.int (i / j), .int (i % j)]) := by simp only [dDivmod, if_pos h]
end
/-! ## loops -/
section
variable {env : Ev} {st : Store} {fe : Ev → M D}
theorem eComp_of {vs : List Nat} {fi : Ev → M (List D)} {tg : D → Ev → Option Ev} {tt : Ev → M Bool} {l ds : List D} {st1 st2 : Store} (h1 : fi env st = .ok l st1) (h2 : compGo tg tt fe (evWipe env vs) l [] st1 = .ok ds st2) : eComp vs fi tg tt fe env st = .ok (.lst ds) st2 := by
  show (fi env >>= _) st = _
  rw [bind_app, h1, bnd_ok, bind_app, h2, bnd_ok]
  rfl
theorem compGo_inv {i : Nat} (I : Store → Prop) (P : D → Prop) : ∀ (l : List D) (acc : List D) (st : Store), (∀ d ∈ l, ∀ st, I st → ∃ y st', fe (env.set i (some d)) st = .ok y st' ∧ I st' ∧ P y) → I st →
    ∃ ys st', compGo (tgName i) (fun _ => pure true) fe env l acc st = .ok (acc ++ ys) st' ∧ I st' ∧ ys.length = l.length ∧ ∀ y ∈ ys, P y
  | [], acc, st, _, hi => ⟨[], st, by simp [compGo], hi, rfl, by simp⟩
  | d :: l, acc, st, h, hi => by
    obtain ⟨y, st1, e1, i1, p1⟩ := h d (by simp) st hi
    obtain ⟨ys, st2, e2, i2, hl, p2⟩ := compGo_inv I P l (acc ++ [y]) st1 (fun d hd => h d (by simp [hd])) i1
    refine ⟨y :: ys, st2, ?_, i2, by simp [hl], ?_⟩
    · unfold compGo
      simp only [tgName, bind_app, noErr_app, pure_app', noe_ok, bnd_ok, if_pos, e1]
      rw [e2]
      simp
    · intro z hz
      rcases List.mem_cons.mp hz with rfl | hz
      · exact p1
      · exact p2 z hz
theorem compGo_map {i : Nat} (f : D → D) : ∀ (l : List D) (acc : List D), (∀ d ∈ l, fe (env.set i (some d)) st = .ok (f d) st) → compGo (tgName i) (fun _ => pure true) fe env l acc st = .ok (acc ++ l.map f) st
  | [], acc, _ => by simp [compGo]
  | d :: l, acc, h => by
    have e1 := h d (by simp)
    have e2 := compGo_map f l (acc ++ [f d]) (fun d hd => h d (by simp [hd]))
    unfold compGo
    simp only [tgName, bind_app, noErr_app, pure_app', noe_ok, bnd_ok, if_pos, e1]
    rw [e2]
    simp
theorem pick {α β : Type} [Inhabited β] [DecidableEq α] {l : List α} {R : α → β → Prop} (h : ∀ d ∈ l, ∃ y, R d y) : ∃ f : α → β, ∀ d ∈ l, R d (f d) := by
  classical
  refine ⟨fun d => if hd : d ∈ l then Classical.choose (h d hd) else default, fun d hd => ?_⟩
  simp only [dif_pos hd]
  exact Classical.choose_spec (h d hd)
theorem pickD {β : Type} [Inhabited β] {l : List D} {R : D → β → Prop} (h : ∀ d ∈ l, ∃ y, R d y) : ∃ f : D → β, ∀ d ∈ l, R d (f d) := by
  classical
  exact pick h
theorem bools_map (l : List D) (f : D → Bool) : bools? (l.map fun d => D.bl (f d)) = some (l.map f) := by
  induction l with
  | nil => rfl
  | cons d l ih => simp only [List.map_cons, bools?, ih]; rfl
theorem ints_map (l : List D) (f : D → Int) : ints? (l.map fun d => D.int (f d)) = some (l.map f) := by
  induction l with
  | nil => rfl
  | cons d l ih => simp only [List.map_cons, ints?, ih]; rfl
theorem ints_map' (l : List Int) : ints? (l.map D.int) = some l := by
  induction l with
  | nil => rfl
  | cons d l ih => simp only [List.map_cons, ints?, ih]; rfl
/-- a loop that looks at each item and stops at the first bad one -/
theorem forGo_all {i : Nat} {g : Ev → M Fl} (J : Ev → Prop) (f : D → Bool) {r : D} : ∀ (l : List D) (env : Ev), J env → (∀ d ∈ l, ∀ env, J env → ∃ env', J env' ∧ g (env.set i (some d)) st = .ok (if f d = true then .nx env' else .ret r) st) →
    ∃ env', J env' ∧ forGo (tgName i) g l env st = .ok (if l.all f = true then .nx env' else .ret r) st
  | [], env, j, _ => ⟨env, j, by simp [forGo]⟩
  | d :: l, env, j, h => by
    obtain ⟨e1, j1, h1⟩ := h d (by simp) env j
    obtain ⟨e2, j2, h2⟩ := forGo_all J f l e1 j1 (fun d hd => h d (by simp [hd]))
    refine ⟨e2, j2, ?_⟩
    unfold forGo
    simp only [tgName, bind_app, h1, bnd_ok]
    by_cases q : f d = true
    · simp only [q, if_true, List.all_cons, Bool.true_and]; exact h2
    · simp [q]
/-- a loop with an invariant that ends no sooner -/
theorem forGo_inv {i : Nat} {g : Ev → M Fl} : ∀ (l : List D) (I : Nat → Ev → Store → Prop) (env : Ev) (st : Store), I 0 env st → (∀ k d, l[k]? = some d → ∀ env st, I k env st → ∃ env' st', I (k + 1) env' st' ∧ g (env.set i (some d)) st = .ok (.nx env') st') →
    ∃ env' st', I l.length env' st' ∧ forGo (tgName i) g l env st = .ok (.nx env') st'
  | [], I, env, st, h0, _ => ⟨env, st, h0, by simp [forGo]⟩
  | d :: l, I, env, st, h0, h => by
    obtain ⟨e1, s1, i1, h1⟩ := h 0 d rfl env st h0
    obtain ⟨e2, s2, i2, h2⟩ := forGo_inv l (fun k => I (k + 1)) e1 s1 i1 (fun k d' hd => h (k + 1) d' hd)
    refine ⟨e2, s2, i2, ?_⟩
    unfold forGo
    simp only [tgName, bind_app, h1, bnd_ok]
    exact h2
end
end G
end

section
set_option Elab.async false
set_option linter.all false
set_option maxRecDepth 100000
set_option maxHeartbeats 1000000
namespace G
open PySem PySem.Spec PyProof.Rows L2
/-! ## plain data of a bounded depth -/
def Sh (L : Nat) : Nat → D → Prop
  | _, .non => True
  | _, .bl _ => True
  | _, .int i => i.natAbs < 10 ^ 126
  | _, .str x => PyData.strOk x = true ∧ x.length ≤ 100
  | k + 1, .tup l => l.length ≤ L ∧ ∀ x ∈ l, Sh L k x
  | k + 1, .lst l => l.length ≤ L ∧ ∀ x ∈ l, Sh L k x
  | _, _ => False
theorem Sh.mono {L L' : Nat} (hL : L ≤ L') : ∀ {k k' : Nat} {d : D}, k ≤ k' → Sh L k d → Sh L' k' d
  | _, _, .non, _, _ => by simp [Sh]
  | _, _, .bl _, _, _ => by simp [Sh]
  | _, _, .int _, _, h => by simpa only [Sh] using h
  | _, _, .str x, _, h => by simpa only [Sh] using h
  | 0, _, .tup l, _, h => by simp [Sh] at h
  | 0, _, .lst l, _, h => by simp [Sh] at h
  | k + 1, 0, .tup l, hk, h => absurd hk (by omega)
  | k + 1, 0, .lst l, hk, h => absurd hk (by omega)
  | k + 1, k' + 1, .tup l, hk, h => by
    simp only [Sh] at h ⊢
    exact ⟨Nat.le_trans h.1 hL, fun x hx => Sh.mono hL (by omega) (h.2 x hx)⟩
  | k + 1, k' + 1, .lst l, hk, h => by
    simp only [Sh] at h ⊢
    exact ⟨Nat.le_trans h.1 hL, fun x hx => Sh.mono hL (by omega) (h.2 x hx)⟩
  | _, _, .cell _, _, h => by simp [Sh] at h
  | _, _, .dct0, _, h => by simp [Sh] at h
  | _, _, .exc _, _, h => by simp [Sh] at h
theorem sh_list {k : Nat} : ∀ (l : List D), (∀ x ∈ l, ∃ p, x.data = some p ∧ p.canLay0 = true ∧ p.depth ≤ k ∧ p.hasDict = false) → ∃ ps, D.datas l = some ps ∧ PyData.canLayAll0 ps = true ∧ PyData.depthAll ps ≤ k ∧ PyData.hasDictAll ps = false
  | [], _ => ⟨[], by simp [D.datas], by simp [PyData.canLayAll0], by simp [PyData.depthAll], by simp [PyData.hasDictAll]⟩
  | x :: l, h => by
    obtain ⟨p, e, c, q, z⟩ := h x (by simp)
    obtain ⟨ps, es, cs, qs, zs⟩ := sh_list l fun y hy => h y (by simp [hy])
    refine ⟨p :: ps, by simp only [D.datas, e, es], by simp only [PyData.canLayAll0, c, cs, Bool.and_self], ?_, by simp only [PyData.hasDictAll, z, zs, Bool.or_self]⟩
    simp only [PyData.depthAll]
    omega
theorem Sh.data {L : Nat} : ∀ {k : Nat} {d : D}, Sh L k d → ∃ p, d.data = some p ∧ p.canLay0 = true ∧ p.depth ≤ k ∧ p.hasDict = false
  | _, .non, _ => ⟨_, rfl, rfl, Nat.zero_le _, rfl⟩
  | _, .bl _, _ => ⟨_, rfl, rfl, Nat.zero_le _, rfl⟩
  | _, .int _, _ => ⟨_, rfl, rfl, Nat.zero_le _, rfl⟩
  | _, .str x, h => ⟨_, rfl, by simp only [Sh] at h; simpa only [PyData.canLay0] using h.1, Nat.zero_le _, rfl⟩
  | 0, .tup l, h => by simp [Sh] at h
  | 0, .lst l, h => by simp [Sh] at h
  | k + 1, .tup l, h => by
    simp only [Sh] at h
    obtain ⟨ps, e, c, q, z⟩ := sh_list l fun x hx => Sh.data (h.2 x hx)
    exact ⟨.tuple ps, by simp [D.data, e], by simpa [PyData.canLay0] using c, by simp only [PyData.depth]; omega, by simpa [PyData.hasDict] using z⟩
  | k + 1, .lst l, h => by
    simp only [Sh] at h
    obtain ⟨ps, e, c, q, z⟩ := sh_list l fun x hx => Sh.data (h.2 x hx)
    exact ⟨.list ps, by simp [D.data, e], by simpa [PyData.canLay0] using c, by simp only [PyData.depth]; omega, by simpa [PyData.hasDict] using z⟩
  | _, .cell _, h => by simp [Sh] at h
  | _, .dct0, h => by simp [Sh] at h
  | _, .exc _, h => by simp [Sh] at h
theorem Sh.shaped {L k : Nat} {d : D} (h : Sh L k d) (hk : k ≤ 64) : ∃ p, d.data = some p ∧ SeqAt.shaped p = true := by
  obtain ⟨p, e, c, q, _⟩ := h.data
  exact ⟨p, e, by simp only [SeqAt.shaped, c, Bool.true_and, decide_eq_true_eq]; omega⟩
/-- is d the text x? -/
def isW (d : D) (x : Str) : Bool := match d with
  | .str y => y == x
  | _ => false
theorem eqv_str {L k : Nat} {d : D} {p : PyData} {x : Str} (h : Sh L k d) (e : d.data = some p) : PyData.eqv p (.str x) = isW d x := by
  cases d with
  | tup l => simp only [D.data] at e; cases q : D.datas l with
    | none => rw [q] at e; cases e
    | some ps => rw [q] at e; cases e; rfl
  | lst l => simp only [D.data] at e; cases q : D.datas l with
    | none => rw [q] at e; cases e
    | some ps => rw [q] at e; cases e; rfl
  | non => cases e; rfl
  | bl b => cases e; rfl
  | int i => cases e; rfl
  | str y => cases e; rfl
  | cell _ => cases e
  | dct0 => cases e
  | exc _ => cases e
theorem beq_str_comm (x y : Str) : (x == y) = (y == x) := by
  by_cases h : x = y
  · subst h; rfl
  · have h2 : ¬ y = x := fun e => h e.symm
    rw [show (x == y) = false from by simpa using h, show (y == x) = false from by simpa using h2]
theorem eqv_str' {L k : Nat} {d : D} {p : PyData} {x : Str} (h : Sh L k d) (e : d.data = some p) : PyData.eqv (.str x) p = isW d x := by
  cases d with
  | tup l => simp only [D.data] at e; cases q : D.datas l with
    | none => rw [q] at e; cases e
    | some ps => rw [q] at e; cases e; rfl
  | lst l => simp only [D.data] at e; cases q : D.datas l with
    | none => rw [q] at e; cases e
    | some ps => rw [q] at e; cases e; rfl
  | non => cases e; rfl
  | bl b => cases e; rfl
  | int i => cases e; rfl
  | str y => cases e; exact beq_str_comm _ _
  | cell _ => cases e
  | dct0 => cases e
  | exc _ => cases e
theorem shaped_str {x : Str} (h : PyData.strOk x = true) : SeqAt.shaped (.str x) = true := by
  simp only [SeqAt.shaped, PyData.canLay0, h, PyData.depth]; rfl
section
variable {L k : Nat} {d : D} {st : Store}
theorem dEq_w {x : Str} (h : Sh L k d) (hk : k ≤ 64) (hx : PyData.strOk x = true) : dEq d (.str x) st = some (.bl (isW d x)) := by
  obtain ⟨p, e, s⟩ := h.shaped hk
  simp only [dEq, eqD, e, D.data, s, shaped_str hx, Bool.and_self, if_true, Option.map_some, eqv_str h e]
theorem dNe_w {x : Str} (h : Sh L k d) (hk : k ≤ 64) (hx : PyData.strOk x = true) : dNe d (.str x) st = some (.bl (!isW d x)) := by
  obtain ⟨p, e, s⟩ := h.shaped hk
  simp only [dNe, eqD, e, D.data, s, shaped_str hx, Bool.and_self, if_true, Option.map_some, eqv_str h e]
def strsD (xs : List Str) : List D := xs.map .str
theorem datas_strs : ∀ xs : List Str, D.datas (xs.map D.str) = some (xs.map PyData.str)
  | [] => rfl
  | x :: xs => by simp only [List.map_cons, D.datas, D.data, datas_strs xs]
theorem canLay_strs : ∀ xs : List Str, xs.all PyData.strOk = true → PyData.canLayAll0 (xs.map PyData.str) = true
  | [], _ => rfl
  | x :: xs, h => by
    simp only [List.all_cons, Bool.and_eq_true] at h
    simp only [List.map_cons, PyData.canLayAll0, PyData.canLay0, h.1, canLay_strs xs h.2, Bool.and_self]
theorem depth_strs : ∀ xs : List Str, PyData.depthAll (xs.map PyData.str) = 0
  | [] => rfl
  | x :: xs => by simp only [List.map_cons, PyData.depthAll, PyData.depth, depth_strs xs]; rfl
theorem inD_strs {xs : List Str} (h : Sh L k d) (hk : k ≤ 64) (hx : xs.all PyData.strOk = true) : inD d (.tup (xs.map D.str)) = some (xs.any fun x => isW d x) := by
  obtain ⟨p, e, s⟩ := h.shaped hk
  have s2 : SeqAt.shaped (.tuple (xs.map PyData.str)) = true := by
    simp only [SeqAt.shaped, PyData.canLay0, canLay_strs xs hx, PyData.depth, depth_strs]; rfl
  simp only [inD, e, D.data, datas_strs, Option.map_some, s, s2, Bool.and_self, if_true, List.any_map]
  congr 2
  funext x
  exact eqv_str' h e
theorem inD_strsL {xs : List Str} (h : Sh L k d) (hk : k ≤ 64) (hx : xs.all PyData.strOk = true) : inD d (.lst (xs.map D.str)) = some (xs.any fun x => isW d x) := by
  obtain ⟨p, e, s⟩ := h.shaped hk
  have s2 : SeqAt.shaped (.list (xs.map PyData.str)) = true := by
    simp only [SeqAt.shaped, PyData.canLay0, canLay_strs xs hx, PyData.depth, depth_strs]; rfl
  simp only [inD, e, D.data, datas_strs, Option.map_some, s, s2, Bool.and_self, if_true, List.any_map]
  congr 2
  funext x
  exact eqv_str' h e
theorem dIn_2 {x y : Str} (h : Sh L k d) (hk : k ≤ 64) (hx : [x, y].all PyData.strOk = true) : dIn d (.tup [.str x, .str y]) st = some (.bl (isW d x || isW d y)) := by
  have e := inD_strs h hk hx
  simp only [List.map_cons, List.map_nil, List.any_cons, List.any_nil, Bool.or_false] at e
  simp only [dIn, e, Option.map_some]
theorem dNotIn_2L {x y : Str} (h : Sh L k d) (hk : k ≤ 64) (hx : [x, y].all PyData.strOk = true) : dNotIn d (.lst [.str x, .str y]) st = some (.bl (!(isW d x || isW d y))) := by
  have e := inD_strsL h hk hx
  simp only [List.map_cons, List.map_nil, List.any_cons, List.any_nil, Bool.or_false] at e
  simp only [dNotIn, e, Option.map_some]
theorem dNotIn_3L {x y z : Str} (h : Sh L k d) (hk : k ≤ 64) (hx : [x, y, z].all PyData.strOk = true) : dNotIn d (.lst [.str x, .str y, .str z]) st = some (.bl (!(isW d x || (isW d y || isW d z)))) := by
  have e := inD_strsL h hk hx
  simp only [List.map_cons, List.map_nil, List.any_cons, List.any_nil, Bool.or_false] at e
  simp only [dNotIn, e, Option.map_some]
theorem dNotIn_ints {i a b : Int} : dNotIn (.int i) (.tup [.int a, .int b]) st = some (.bl (!(decide (a = i) || decide (b = i)))) := by
  have e : inD (.int i) (.tup [.int a, .int b]) = some (decide (a = i) || (decide (b = i) || false)) := rfl
  simp only [dNotIn, e, Option.map_some, Bool.or_false]
def qTup : D → Bool
  | .tup _ => true
  | _ => false
def qInt : D → Bool
  | .int _ => true
  | _ => false
def qBl : D → Bool
  | .bl _ => true
  | _ => false
def qStr : D → Bool
  | .str _ => true
  | _ => false
theorem dIsT_tuple (h : Sh L k d) : dIsT "tuple" d st = some (.bl (qTup d)) := by
  cases d <;> first | rfl | simp [Sh] at h
theorem dIsT_int (h : Sh L k d) : dIsT "int" d st = some (.bl (qInt d || qBl d)) := by
  cases d <;> first | rfl | simp [Sh] at h
theorem dIsT_bool (h : Sh L k d) : dIsT "bool" d st = some (.bl (qBl d)) := by
  cases d <;> first | rfl | simp [Sh] at h
theorem dIsT_str (h : Sh L k d) : dIsT "str" d st = some (.bl (qStr d)) := by
  cases d <;> first | rfl | simp [Sh] at h
@[simp] theorem eChain_app {fa fb fc : Ev → M D} {g g' : D → D → Store → Option D} {env : Ev} : eChain g g' fa fb fc env st = (fa env st).bnd fun x st => (fb env st).bnd fun y st => (lif (g x y st) st).bnd fun z st => (asB z st).bnd fun k st => if k = true then (fc env st).bnd (fun u st => lif (g' y u st) st) else .ok (.bl false) st := by
  show (fa env >>= _) st = _
  simp only [bind_app]
  congr 1
  funext x st
  simp only [bind_app]
  congr 1
  funext y st
  simp only [bind_app, lift_app]
  congr 1
  funext z st
  simp only [bind_app]
  congr 1
  funext k st
  cases k <;> rfl
end
section
variable {st : Store} {env : Ev} {fa fb : Ev → M D}
@[simp] theorem eAnd_app : eAnd fa fb env st = (fa env st).bnd fun d st => (asB d st).bnd fun b => if b = true then fb env else fun st => .ok (.bl false) st := rfl
@[simp] theorem eOr_app : eOr fa fb env st = (fa env st).bnd fun d st => (asB d st).bnd fun b => if b = true then fun st => .ok (.bl true) st else fb env := rfl
@[simp] theorem eNot_app : eNot fa env st = (fa env st).bnd fun d st => (asB d st).bnd fun b st => .ok (.bl (!b)) st := rfl
theorem atI_nat {l : List D} {k : Nat} (h : k < l.length) : atI l (k : Int) = l[k]? := by
  unfold atI ixN
  rw [if_pos (by omega), if_pos (by omega)]
  simp
@[simp] theorem dIdx_t0 (a : D) (l : List D) : dIdx (.tup (a :: l)) (.int 0) st = some a := atI_nat (l := a :: l) (k := 0) (by simp)
@[simp] theorem dIdx_t1 (a b : D) (l : List D) : dIdx (.tup (a :: b :: l)) (.int 1) st = some b := atI_nat (l := a :: b :: l) (k := 1) (by simp)
@[simp] theorem dIdx_t2 (a b c : D) (l : List D) : dIdx (.tup (a :: b :: c :: l)) (.int 2) st = some c := atI_nat (l := a :: b :: c :: l) (k := 2) (by simp)
@[simp] theorem dIdx_l0 (a : D) (l : List D) : dIdx (.lst (a :: l)) (.int 0) st = some a := atI_nat (l := a :: l) (k := 0) (by simp)
@[simp] theorem dIdx_l1 (a b : D) (l : List D) : dIdx (.lst (a :: b :: l)) (.int 1) st = some b := atI_nat (l := a :: b :: l) (k := 1) (by simp)
theorem dIdx_tn {l : List D} {k : Nat} {d : D} (h : l[k]? = some d) : dIdx (.tup l) (.int (k : Int)) st = some d := by
  have := (List.getElem?_eq_some_iff.mp h).1
  rw [← h]; exact atI_nat this
theorem dIdx_ln {l : List D} {k : Nat} {d : D} (h : l[k]? = some d) : dIdx (.lst l) (.int (k : Int)) st = some d := by
  have := (List.getElem?_eq_some_iff.mp h).1
  rw [← h]; exact atI_nat this
theorem dIdx_cn {l : List D} {c k : Nat} {d : D} (hc : cellL st c = some l) (h : l[k]? = some d) : dIdx (.cell c) (.int (k : Int)) st = some d := by
  have := (List.getElem?_eq_some_iff.mp h).1
  simp only [dIdx, hc, Option.bind_some]
  rw [← h]; exact atI_nat this
@[simp] theorem dLen_tup (l : List D) : dLen [.tup l] st = some (.int l.length) := rfl
@[simp] theorem dLen_lst (l : List D) : dLen [.lst l] st = some (.int l.length) := rfl
@[simp] theorem dTuple_lst (l : List D) : dTuple [.lst l] st = some (.tup l) := rfl
end
end G
end

section
set_option Elab.async false
set_option linter.all false
set_option maxRecDepth 100000
set_option maxHeartbeats 1000000
namespace G
open PySem PySem.Spec PyProof.Rows L2
section
variable {env : Ev} {st : Store} {fa fb fc fe : Ev → M D}
@[simp] theorem eSplit_app : eSplit fa fb env st = (fa env st).bnd fun d st => (asS d st).bnd fun z st => (fb env st).bnd fun y st => lif (dSplit (.str z) y st) st := by
  show (fa env >>= _) st = _
  simp only [bind_app]
  congr 1
@[simp] theorem asS_str (z : Str) : asS (.str z) st = .ok z st := rfl
@[simp] theorem eGet2_app : eGet2 fa fb fc env st = (fa env st).bnd fun o st => (chkD o st).bnd fun _ st => (fb env st).bnd fun k st => (fc env st).bnd fun z st => lif (dGet2 o k z st) st := by
  show (fa env >>= _) st = _
  simp only [bind_app]
  congr 1
@[simp] theorem eDct0_app : eDct0 env st = .ok .dct0 st := rfl
@[simp] theorem iEnumL_app : iEnumL fa env st = (fa env st).bnd fun d st => (itemsL d st).bnd fun l st => .ok (pairsD l) st := rfl
@[simp] theorem itemsL_lst (l : List D) : itemsL (.lst l) st = .ok l st := rfl
theorem iChars_at {z : Str} {st' : Store} (h : fa env st = .ok (.str z) st') (hz : z.length ≤ sizeLine) : iChars fa env st = .ok (chars z) st' := by
  show (fa env >>= _) st = _
  rw [bind_app, h, bnd_ok, bind_app, asS_str, bnd_ok, if_pos hz]
  rfl
@[simp] theorem gtPairL_app {t1 t2 : D → Ev → M Ev} {a b : D} : gtPairL t1 t2 (.lst [a, b]) env st = (t1 a env st).bnd fun e1 => t2 b e1 := rfl
/-- a list of those that are not so -/
theorem compGo_not {i : Nat} {tt : Ev → M Bool} (I : Store → Prop) (f : D → Bool) : ∀ (l acc : List D) (st : Store), i < env.length → (∀ d ∈ l, ∀ st, I st → ∃ st', tt (env.set i (some d)) st = .ok (!f d) st' ∧ I st') → I st →
    ∃ st', compGo (tgName i) tt (eVar i) env l acc st = .ok (acc ++ l.filter fun d => !f d) st' ∧ I st'
  | [], acc, st, _, _, hi => ⟨st, by simp [compGo], hi⟩
  | d :: l, acc, st, hl, h, hi => by
    obtain ⟨st1, e1, i1⟩ := h d (by simp) st hi
    have ev : ∀ st, eVar i (env.set i (some d)) st = .ok d st := fun st => eVar_at i (by simp [hl])
    by_cases q : f d = true
    · obtain ⟨st2, e2, i2⟩ := compGo_not I f l acc st1 hl (fun d hd => h d (by simp [hd])) i1
      refine ⟨st2, ?_, i2⟩
      unfold compGo
      simp only [tgName, bind_app, noErr_app, e1, noe_ok, bnd_ok, q]
      simp [q, e2]
    · obtain ⟨st2, e2, i2⟩ := compGo_not I f l (acc ++ [d]) st1 hl (fun d hd => h d (by simp [hd])) i1
      have q' : f d = false := by simpa using q
      refine ⟨st2, ?_, i2⟩
      unfold compGo
      simp only [tgName, bind_app, noErr_app, e1, noe_ok, bnd_ok, q']
      simp [q', ev, e2]
theorem filter_nil {l : List D} (f : D → Bool) : (l.filter fun d => !f d).isEmpty = l.all f := by
  induction l with
  | nil => rfl
  | cons d l ih =>
    by_cases q : f d = true
    · simp only [List.filter_cons, q, List.all_cons, Bool.true_and]; exact ih
    · have q' : f d = false := by simpa using q
      simp [q']
theorem dEq_nil {L k : Nat} {l : List D} (h : Sh L k (.lst l)) (hk : k ≤ 64) : dEq (.lst l) (.lst []) st = some (.bl l.isEmpty) := by
  obtain ⟨p, e, s⟩ := h.shaped hk
  have e2 : (D.lst []).data = some (.list []) := rfl
  have s2 : SeqAt.shaped (.list []) = true := rfl
  have ev : PyData.eqv p (.list []) = l.isEmpty := by
    cases l with
    | nil => cases e; rfl
    | cons d l =>
      simp only [D.data] at e
      cases q : D.datas (d :: l) with
      | none => rw [q] at e; cases e
      | some ps =>
        rw [q] at e
        cases e
        cases ps with
        | nil =>
          simp only [D.datas] at q
          split at q <;> cases q
        | cons p ps => rfl
  simp only [dEq, eqD, e, e2, s, s2, Bool.and_self, if_true, Option.map_some, ev]
theorem dEq_nilT {L k : Nat} {l : List D} (h : Sh L k (.tup l)) (hk : k ≤ 64) : dEq (.tup l) (.tup []) st = some (.bl l.isEmpty) := by
  obtain ⟨p, e, s⟩ := h.shaped hk
  have e2 : (D.tup []).data = some (.tuple []) := rfl
  have s2 : SeqAt.shaped (.tuple []) = true := rfl
  have ev : PyData.eqv p (.tuple []) = l.isEmpty := by
    cases l with
    | nil => cases e; rfl
    | cons d l =>
      simp only [D.data] at e
      cases q : D.datas (d :: l) with
      | none => rw [q] at e; cases e
      | some ps =>
        rw [q] at e
        cases e
        cases ps with
        | nil =>
          simp only [D.datas] at q
          split at q <;> cases q
        | cons p ps => rfl
  simp only [dEq, eqD, e, e2, s, s2, Bool.and_self, if_true, Option.map_some, ev]
theorem dNe_nilT {L k : Nat} {l : List D} (h : Sh L k (.tup l)) (hk : k ≤ 64) : dNe (.tup l) (.tup []) st = some (.bl (!l.isEmpty)) := by
  have e : dEq (.tup l) (.tup []) st = some (.bl l.isEmpty) := dEq_nilT h hk
  simp only [dEq] at e
  simp only [dNe]
  cases q : eqD (.tup l) (.tup []) with
  | none => rw [q] at e; cases e
  | some r => rw [q] at e; cases e; rfl
theorem sh_filter {L k : Nat} {l : List D} (f : D → Bool) (hl : l.length ≤ L) (h : ∀ x ∈ l, Sh L k x) : Sh L (k + 1) (.lst (l.filter f)) := by
  simp only [Sh]
  exact ⟨Nat.le_trans (List.length_filter_le _ _) hl, fun x hx => h x (List.mem_filter.mp hx).1⟩
end
end G
end

section
set_option Elab.async false
set_option linter.all false
set_option maxRecDepth 100000
namespace K82
open PySem G
inductive Fn where
  | is_whole
  | is_rule
  | is_change
  | is_test
  | is_look
  | is_between
  | is_word
  | are_numbers
  | is_leaf
  | is_joined
  | has_numbers
  | is_plan
  | l_pot
  | l_digit
  | l_whole
  | l_change
  | l_rule
  | l_look
  | l_test
  | l_leaf
  | l_upon
  | l_grove
  | l_planned
  | l_whole_one
  | l_reads_rule
  | l_reads_look
  | l_reads_test
  | l_reads_part
  | l_sorts
  | l_reads_plan
  | l_spoilt
  | l_judged
  | l_borders
  | l_right
  | law
def g_is_whole (F : Fn → List D → M D) : Ev → M Fl := (sRet (eAnd (eUn (dIsT "int") (eVar 0)) (eNot (eUn (dIsT "bool") (eVar 0)))))
def g_is_rule (F : Fn → List D → M D) : Ev → M Fl := (sRet (eAnd (eUn (dIsT "tuple") (eVar 0)) (eB dAll [(eComp [1] (iSeq (eVar 0)) (tgName 1) (fun _ => pure true) (eCall (F .is_change) [(eVar 1)]))])))
def g_is_change (F : Fn → List D → M D) : Ev → M Fl := (sSeq (sIf (tOr' (tNot' (tVal (eUn (dIsT "tuple") (eVar 0)))) (tVal (eOp dEq (eB dLen [(eVar 0)]) (eC (.int 0))))) (sRet (eC (.bl false))) sNop) (sSeq (sIf (tVal (eOp dEq (eB dLen [(eVar 0)]) (eC (.int 1)))) (sRet (eOp dIn (eOp dIdx (eVar 0) (eC (.int 0))) (eTup [(eC (.str "one")), (eC (.str "sum"))]))) sNop) (sSeq (sIf (tOr' (tVal (eOp dGt (eB dLen [(eVar 0)]) (eC (.int 2)))) (tNot' (tVal (eCall (F .is_whole) [(eOp dIdx (eVar 0) (eC (.int 1)))])))) (sRet (eC (.bl false))) sNop) (sRet (eOr (eOp dIn (eOp dIdx (eVar 0) (eC (.int 0))) (eTup [(eC (.str "add")), (eC (.str "times"))])) (eAnd (eOp dEq (eOp dIdx (eVar 0) (eC (.int 0))) (eC (.str "rest"))) (eOp dGt (eOp dIdx (eVar 0) (eC (.int 1))) (eC (.int 0)))))))))
def g_is_test (F : Fn → List D → M D) : Ev → M Fl := (sRet (eAnd (eUn (dIsT "tuple") (eVar 0)) (eB dAll [(eComp [1] (iSeq (eVar 0)) (tgName 1) (fun _ => pure true) (eCall (F .is_look) [(eVar 1)]))])))
def g_is_look (F : Fn → List D → M D) : Ev → M Fl := (sSeq (sIf (tOr' (tNot' (tVal (eUn (dIsT "tuple") (eVar 0)))) (tNot' (tVal (eChain dLe dLe (eC (.int 2)) (eB dLen [(eVar 0)]) (eC (.int 3)))))) (sRet (eC (.bl false))) sNop) (sSeq (sIf (tVal (eOp dEq (eB dLen [(eVar 0)]) (eC (.int 2)))) (sRet (eAnd (eOp dEq (eOp dIdx (eVar 0) (eC (.int 0))) (eC (.str "below"))) (eCall (F .is_whole) [(eOp dIdx (eVar 0) (eC (.int 1)))]))) sNop) (sSeq (sIf (tVal (eOp dEq (eOp dIdx (eVar 0) (eC (.int 0))) (eC (.str "after")))) (sRet (eAnd (eCall (F .is_rule) [(eOp dIdx (eVar 0) (eC (.int 1)))]) (eCall (F .is_test) [(eOp dIdx (eVar 0) (eC (.int 2)))]))) sNop) (sRet (eAnd (eOp dEq (eOp dIdx (eVar 0) (eC (.int 0))) (eC (.str "rest"))) (eAnd (eCall (F .is_whole) [(eOp dIdx (eVar 0) (eC (.int 1)))]) (eAnd (eCall (F .is_whole) [(eOp dIdx (eVar 0) (eC (.int 2)))]) (eChain dLe dLt (eC (.int 0)) (eOp dIdx (eVar 0) (eC (.int 2))) (eOp dIdx (eVar 0) (eC (.int 1)))))))))))
def g_is_between (F : Fn → List D → M D) : Ev → M Fl := (sRet (eAnd (eCall (F .is_whole) [(eVar 0)]) (eChain dLe dLe (eVar 1) (eVar 0) (eVar 2))))
def g_is_word (F : Fn → List D → M D) : Ev → M Fl := (sRet (eAnd (eUn (dIsT "str") (eVar 0)) (eAnd (eChain dLe dLe (eC (.int 1)) (eB dLen [(eVar 0)]) (eC (.int 8))) (eB dAll [(eComp [1] (iChars (eVar 0)) (tgName 1) (fun _ => pure true) (eOp dInS (eVar 1) (eC (.str "abcdefghijklmnopqrstuvwxyz"))))]))))
def g_are_numbers (F : Fn → List D → M D) : Ev → M Fl := (sRet (eAnd (eUn (dIsT "tuple") (eVar 0)) (eB dAll [(eComp [1] (iSeq (eVar 0)) (tgName 1) (fun _ => pure true) (eCall (F .is_whole) [(eVar 1)]))])))
def g_is_leaf (F : Fn → List D → M D) : Ev → M Fl := (sSeq (sIf (tVal (eOp dEq (eOp dIdx (eVar 0) (eC (.int 0))) (eC (.str "list")))) (sRet (eAnd (eOp dEq (eB dLen [(eVar 0)]) (eC (.int 2))) (eCall (F .are_numbers) [(eOp dIdx (eVar 0) (eC (.int 1)))]))) sNop) (sSeq (sIf (tVal (eOp dEq (eOp dIdx (eVar 0) (eC (.int 0))) (eC (.str "broken")))) (sRet (eAnd (eOp dEq (eB dLen [(eVar 0)]) (eC (.int 3))) (eAnd (eCall (F .are_numbers) [(eOp dIdx (eVar 0) (eC (.int 1)))]) (eCall (F .is_word) [(eOp dIdx (eVar 0) (eC (.int 2)))])))) sNop) (sSeq (sIf (tVal (eOp dEq (eOp dIdx (eVar 0) (eC (.int 0))) (eC (.str "row")))) (sRet (eAnd (eOp dEq (eB dLen [(eVar 0)]) (eC (.int 2))) (eCall (F .is_between) [(eOp dIdx (eVar 0) (eC (.int 1))), (eC (.int 0)), (eOp dSub (eC (.int 60)) (eC (.int 1)))]))) sNop) (sRet (eAnd (eOp dEq (eB dLen [(eVar 0)]) (eC (.int 4))) (eAnd (eCall (F .is_whole) [(eOp dIdx (eVar 0) (eC (.int 1)))]) (eAnd (eCall (F .is_whole) [(eOp dIdx (eVar 0) (eC (.int 2)))]) (eCall (F .is_between) [(eOp dIdx (eVar 0) (eC (.int 3))), (eC (.int 0)), (eC (.int 200))]))))))))
def g_is_joined (F : Fn → List D → M D) : Ev → M Fl := (sSeq (sIf (tOr' (tVal (eOp dNe (eB dLen [(eVar 0)]) (eC (.int 2)))) (tOr' (tNot' (tVal (eUn (dIsT "tuple") (eOp dIdx (eVar 0) (eC (.int 1)))))) (tVal (eOp dGt (eB dLen [(eOp dIdx (eVar 0) (eC (.int 1)))]) (eC (.int 6)))))) (sRet (eC (.bl false))) sNop) (sRet (eAnd (eOr (eOp dEq (eOp dIdx (eVar 0) (eC (.int 0))) (eC (.str "chain"))) (eOp dNe (eOp dIdx (eVar 0) (eC (.int 1))) (eTup []))) (eB dAll [(eComp [1] (iSeq (eOp dIdx (eVar 0) (eC (.int 1)))) (tgName 1) (fun _ => pure true) (eCall (F .is_plan) [(eVar 1)]))]))))
def g_has_numbers (F : Fn → List D → M D) : Ev → M Fl := (sSeq (sPar 1 2 (eOp dIdx (eVar 0) (eC (.int 0))) (eSl (eVar 0) (pAt (eC (.int 1))) (pAt (eUn dNeg (eC (.int 1)))))) (sSeq (sIf (tVal (eOp dEq (eVar 1) (eC (.str "ahead")))) (sRet (eOp dEq (eVar 2) (eTup []))) sNop) (sSeq (sIf (tVal (eOp dEq (eVar 1) (eC (.str "windows")))) (sRet (eAnd (eOp dEq (eB dLen [(eVar 2)]) (eC (.int 2))) (eAnd (eCall (F .is_between) [(eOp dIdx (eVar 2) (eC (.int 0))), (eC (.int 1)), (eC (.int 20))]) (eCall (F .is_between) [(eOp dIdx (eVar 2) (eC (.int 1))), (eC (.int 1)), (eC (.int 20))])))) sNop) (sSeq (sIf (tVal (eOp dEq (eVar 1) (eC (.str "wanted")))) (sRet (eAnd (eOp dEq (eB dLen [(eVar 2)]) (eC (.int 2))) (eAnd (eCall (F .is_between) [(eOp dIdx (eVar 2) (eC (.int 0))), (eC (.int 0)), (eC (.int 200))]) (eCall (F .is_word) [(eOp dIdx (eVar 2) (eC (.int 1)))])))) sNop) (sSeq (sIf (tVal (eOp dNe (eB dLen [(eVar 2)]) (eC (.int 1)))) (sRet (eC (.bl false))) sNop) (sSeq (sIf (tVal (eOp dEq (eVar 1) (eC (.str "turn")))) (sRet (eCall (F .is_rule) [(eOp dIdx (eVar 2) (eC (.int 0)))])) sNop) (sSeq (sIf (tVal (eOp dIn (eVar 1) (eTup [(eC (.str "sieve")), (eC (.str "upto"))]))) (sRet (eCall (F .is_test) [(eOp dIdx (eVar 2) (eC (.int 0)))])) sNop) (sSeq (sIf (tVal (eOp dIn (eVar 1) (eTup [(eC (.str "cut")), (eC (.str "left"))]))) (sRet (eCall (F .is_between) [(eOp dIdx (eVar 2) (eC (.int 0))), (eC (.int 0)), (eC (.int 200))])) sNop) (sSeq (sIf (tVal (eOp dEq (eVar 1) (eC (.str "marks")))) (sRet (eAnd (eCall (F .is_whole) [(eOp dIdx (eVar 2) (eC (.int 0)))]) (eOp dGt (eOp dIdx (eVar 2) (eC (.int 0))) (eC (.int 0))))) sNop) (sRet (eAnd (eOp dEq (eVar 1) (eC (.str "spare"))) (eCall (F .is_plan) [(eOp dIdx (eVar 2) (eC (.int 0)))]))))))))))))
def g_is_plan (F : Fn → List D → M D) : Ev → M Fl := (sSeq (sIf (tOr' (tNot' (tVal (eUn (dIsT "tuple") (eVar 0)))) (tOr' (tVal (eOp dLt (eB dLen [(eVar 0)]) (eC (.int 2)))) (tNot' (tVal (eUn (dIsT "str") (eOp dIdx (eVar 0) (eC (.int 0)))))))) (sRet (eC (.bl false))) sNop) (sSeq (sIf (tVal (eOp dIn (eOp dIdx (eVar 0) (eC (.int 0))) (eC (.tup [.str "list", .str "broken", .str "count", .str "row"])))) (sRet (eCall (F .is_leaf) [(eVar 0)])) sNop) (sSeq (sIf (tVal (eOp dIn (eOp dIdx (eVar 0) (eC (.int 0))) (eTup [(eC (.str "chain")), (eC (.str "beside"))]))) (sRet (eCall (F .is_joined) [(eVar 0)])) sNop) (sRet (eAnd (eCall (F .has_numbers) [(eVar 0)]) (eCall (F .is_plan) [(eOp dIdx (eVar 0) (eUn dNeg (eC (.int 1))))]))))))
def g_l_pot (F : Fn → List D → M D) : Ev → M Fl := (sSeq (sAsg 2 (eIf (tVal (eOp dLt (eVar 1) (eB dLen [(eVar 0)]))) (eOp dIdx (eVar 0) (eVar 1)) (eC (.int 0)))) (sSeq (sIf (tVal (eOp dGe (eVar 2) (eOp dPow (eC (.int 10)) (eC (.int 18))))) (sRet (eNewL [(eOp dSub (eVar 2) (eOp dPow (eC (.int 10)) (eC (.int 18)))), (eOp dAdd (eOp dAdd (eOp dMod (eVar 2) (eC (.int 2147483629))) (eOp dMul (eC (.int 977)) (eVar 1))) (eC (.int 1)))])) sNop) (sRet (eNewL [(eC (.int 0)), (eOp dAdd (eOp dAdd (eOp dMod (eVar 2) (eC (.int 2147483629))) (eOp dMul (eC (.int 977)) (eVar 1))) (eC (.int 1)))]))))
def g_l_digit (F : Fn → List D → M D) : Ev → M Fl := (sSeq (sIf (tVal (eOp dGt (eOp dIdx (eVar 0) (eC (.int 0))) (eC (.int 0)))) (sSeq (sAsgT (eB dDivmod [(eOp dIdx (eVar 0) (eC (.int 0))), (eVar 1)]) (fun d env => noErr (gtPair (gtSub (eVar 0) (eC (.int 0))) (gtName 2) d env))) (sRet (eVar 2))) sNop) (sSeq (sAsgT (eOp dMod (eOp dAdd (eOp dMul (eOp dIdx (eVar 0) (eC (.int 1))) (eC (.int 48271))) (eC (.int 12345))) (eC (.int 2147483647))) (gtSub (eVar 0) (eC (.int 1)))) (sRet (eOp dMod (eOp dDiv (eOp dMod (eOp dMul (eOp dIdx (eVar 0) (eC (.int 1))) (eOp dIdx (eVar 0) (eC (.int 1)))) (eC (.int 2147483629))) (eC (.int 7))) (eVar 1)))))
def g_l_whole (F : Fn → List D → M D) : Ev → M Fl := (sSeq (sIf (tOr' (tVal (eOp dLt (eCall (F .l_digit) [(eVar 0), (eC (.int 8))]) (eC (.int 7)))) (tVal (eOp dEq (eOp dGet (eVar 1) (eC (.str "great"))) (eC (.int 0))))) (sRet (eOp dSub (eCall (F .l_digit) [(eVar 0), (eC (.int 23))]) (eC (.int 11)))) sNop) (sSeq (sPutK (eVar 1) (eC (.str "great")) (eOp dSub (eOp dGet (eVar 1) (eC (.str "great"))) (eC (.int 1)))) (sSeq (sAsg 2 (eC (.int 0))) (sSeq (sFor (iRange (eC (.int 3))) (tgName 3) (sAsg 2 (eOp dAdd (eOp dMul (eVar 2) (eOp dPow (eC (.int 10)) (eC (.int 10)))) (eCall (F .l_digit) [(eVar 0), (eOp dPow (eC (.int 10)) (eC (.int 10)))])))) (sRet (eOp dIdx (eLst [(eVar 2), (eUn dNeg (eVar 2))]) (eCall (F .l_digit) [(eVar 0), (eC (.int 2))])))))))
def g_l_change (F : Fn → List D → M D) : Ev → M Fl := (sSeq (sAsg 2 (eCall (F .l_digit) [(eVar 0), (eC (.int 5))])) (sSeq (sIf (tVal (eOp dLt (eVar 2) (eC (.int 2)))) (sRet (eTup [(eOp dIdx (eLst [(eC (.str "add")), (eC (.str "times"))]) (eVar 2)), (eCall (F .l_whole) [(eVar 0), (eVar 1)])])) sNop) (sSeq (sIf (tVal (eOp dEq (eVar 2) (eC (.int 2)))) (sRet (eTup [(eC (.str "rest")), (eOp dAdd (eC (.int 1)) (eCall (F .l_digit) [(eVar 0), (eOp dIdx (eLst [(eC (.int 12)), (eOp dPow (eC (.int 10)) (eC (.int 29)))]) (eCall (F .l_digit) [(eVar 0), (eC (.int 2))]))]))])) sNop) (sRet (eOp dIdx (eLst [(eTup [(eC (.str "one"))]), (eTup [(eC (.str "sum"))])]) (eOp dSub (eVar 2) (eC (.int 3))))))))
def g_l_rule (F : Fn → List D → M D) : Ev → M Fl := (sRet (eB dTuple [(eComp [2] (iRange (eCall (F .l_digit) [(eVar 0), (eC (.int 4))])) (tgName 2) (fun _ => pure true) (eCall (F .l_change) [(eVar 0), (eVar 1)]))]))
def g_l_look (F : Fn → List D → M D) : Ev → M Fl := (sSeq (sAsg 3 (eCall (F .l_digit) [(eVar 0), (eC (.int 4))])) (sSeq (sIf (tVal (eOp dLt (eVar 3) (eC (.int 2)))) (sSeq (sAsg 4 (eOp dAdd (eC (.int 1)) (eCall (F .l_digit) [(eVar 0), (eC (.int 4))]))) (sRet (eTup [(eC (.str "rest")), (eVar 4), (eCall (F .l_digit) [(eVar 0), (eVar 4)])]))) sNop) (sSeq (sIf (tOr' (tVal (eOp dEq (eVar 3) (eC (.int 2)))) (tVal (eOp dEq (eVar 2) (eC (.int 0))))) (sRet (eTup [(eC (.str "below")), (eCall (F .l_whole) [(eVar 0), (eVar 1)])])) sNop) (sRet (eTup [(eC (.str "after")), (eCall (F .l_rule) [(eVar 0), (eVar 1)]), (eCall (F .l_test) [(eVar 0), (eVar 1), (eOp dSub (eVar 2) (eC (.int 1)))])])))))
def g_l_test (F : Fn → List D → M D) : Ev → M Fl := (sRet (eB dTuple [(eComp [3] (iRange (eCall (F .l_digit) [(eVar 0), (eC (.int 3))])) (tgName 3) (fun _ => pure true) (eCall (F .l_look) [(eVar 0), (eVar 1), (eVar 2)]))]))
def g_l_leaf (F : Fn → List D → M D) : Ev → M Fl := (sSeq (sAsg 2 (eCall (F .l_digit) [(eVar 0), (eC (.int 6))])) (sSeq (sAsg 3 (eB dTuple [(eComp [4] (iRange (eCall (F .l_digit) [(eVar 0), (eC (.int 7))])) (tgName 4) (fun _ => pure true) (eCall (F .l_whole) [(eVar 0), (eVar 1)]))])) (sSeq (sIf (tVal (eOp dEq (eVar 2) (eC (.int 4)))) (sRet (eTup [(eC (.str "broken")), (eVar 3), (eOp dIdx (eLst [(eC (.str "torn")), (eC (.str "a")), (eC (.str "brokenup"))]) (eCall (F .l_digit) [(eVar 0), (eC (.int 3))]))])) sNop) (sSeq (sIf (tVal (eOp dEq (eVar 2) (eC (.int 3)))) (sRet (eTup [(eC (.str "count")), (eCall (F .l_whole) [(eVar 0), (eVar 1)]), (eCall (F .l_whole) [(eVar 0), (eVar 1)]), (eCall (F .l_digit) [(eVar 0), (eC (.int 9))])])) sNop) (sSeq (sIf (tAnd' (tVal (eOp dGt (eVar 2) (eC (.int 4)))) (tVal (eOp dLt (eOp dGet (eVar 1) (eC (.str "rows"))) (eC (.int 8))))) (sSeq (sPutK (eVar 1) (eC (.str "rows")) (eOp dAdd (eOp dGet (eVar 1) (eC (.str "rows"))) (eC (.int 1)))) (sRet (eTup [(eC (.str "row")), (eOp dSub (eOp dGet (eVar 1) (eC (.str "rows"))) (eC (.int 1)))]))) sNop) (sRet (eTup [(eC (.str "list")), (eVar 3)])))))))
def g_l_upon (F : Fn → List D → M D) : Ev → M Fl := (sSeq (sAsgT (eVar 3) (fun d env => noErr (gtPair (gtName 4) (gtName 5) d env))) (sSeq (sIf (tVal (eOp dEq (eVar 2) (eC (.str "turn")))) (sRet (eTup [(eTup [(eVar 2), (eCall (F .l_rule) [(eVar 0), (eVar 1)]), (eVar 4)]), (eVar 5)])) sNop) (sSeq (sIf (tVal (eOp dIn (eVar 2) (eTup [(eC (.str "sieve")), (eC (.str "upto"))]))) (sRet (eTup [(eTup [(eVar 2), (eCall (F .l_test) [(eVar 0), (eVar 1), (eC (.int 2))]), (eVar 4)]), (eVar 5)])) sNop) (sSeq (sIf (tVal (eOp dIn (eVar 2) (eTup [(eC (.str "cut")), (eC (.str "left"))]))) (sRet (eTup [(eTup [(eVar 2), (eCall (F .l_digit) [(eVar 0), (eOp dIdx (eLst [(eC (.int 5)), (eC (.int 5)), (eC (.int 201))]) (eCall (F .l_digit) [(eVar 0), (eC (.int 3))]))]), (eVar 4)]), (eVar 5)])) sNop) (sSeq (sIf (tVal (eOp dEq (eVar 2) (eC (.str "marks")))) (sRet (eTup [(eTup [(eVar 2), (eOp dAdd (eC (.int 1)) (eCall (F .l_digit) [(eVar 0), (eOp dIdx (eLst [(eC (.int 3)), (eOp dPow (eC (.int 10)) (eC (.int 29)))]) (eCall (F .l_digit) [(eVar 0), (eC (.int 2))]))])), (eVar 4)]), (eC (.int 1))])) sNop) (sSeq (sIf (tVal (eOp dEq (eVar 2) (eC (.str "wanted")))) (sRet (eTup [(eTup [(eVar 2), (eCall (F .l_digit) [(eVar 0), (eOp dIdx (eLst [(eC (.int 6)), (eC (.int 201))]) (eCall (F .l_digit) [(eVar 0), (eC (.int 2))]))]), (eOp dIdx (eLst [(eC (.str "few")), (eC (.str "toofew"))]) (eCall (F .l_digit) [(eVar 0), (eC (.int 2))])), (eVar 4)]), (eVar 5)])) sNop) (sSeq (sIf (tVal (eOp dEq (eVar 2) (eC (.str "windows")))) (sSeq (sAsgT (eComp [8] (iRange (eC (.int 2))) (tgName 8) (fun _ => pure true) (eOp dAdd (eC (.int 1)) (eCall (F .l_digit) [(eVar 0), (eOp dIdx (eLst [(eC (.int 1)), (eC (.int 3)), (eC (.int 20))]) (eCall (F .l_digit) [(eVar 0), (eC (.int 3))]))]))) (fun d env => noErr (gtPairL (gtName 6) (gtName 7) d env))) (sSeq (sAsg 6 (eIf (tVal (eOp dLe (eOp dMul (eVar 6) (eVar 5)) (eC (.int 60)))) (eVar 6) (eC (.int 1)))) (sRet (eTup [(eTup [(eVar 2), (eVar 6), (eVar 7), (eVar 4)]), (eOp dMul (eVar 6) (eVar 5))])))) sNop) (sRet (eTup [(eTup [(eC (.str "ahead")), (eVar 4)]), (eVar 5)])))))))))
def g_l_grove (F : Fn → List D → M D) : Ev → M Fl := (sSeq (sAsg 3 (eLst [(eC (.str "turn")), (eC (.str "turn")), (eC (.str "turn")), (eC (.str "sieve")), (eC (.str "sieve")), (eC (.str "upto")), (eC (.str "upto")), (eC (.str "cut")), (eC (.str "cut")), (eC (.str "left")), (eC (.str "left")), (eC (.str "ahead")), (eC (.str "windows"))])) (sSeq (sAsg 3 (eOp dAdd (eVar 3) (eLst [(eC (.str "marks")), (eC (.str "wanted")), (eC (.str "chain")), (eC (.str "chain")), (eC (.str "chain")), (eC (.str "beside")), (eC (.str "beside")), (eC (.str "spare")), (eC (.str "leaf"))]))) (sSeq (sAsg 4 (eOp dIdx (eVar 3) (eCall (F .l_digit) [(eVar 0), (eC (.int 22))]))) (sSeq (sIf (tOr' (tVal (eOp dEq (eVar 2) (eC (.int 0)))) (tOr' (tVal (eOp dLt (eOp dGet (eVar 1) (eC (.str "parts"))) (eC (.int 1)))) (tVal (eOp dEq (eVar 4) (eC (.str "leaf")))))) (sRet (eTup [(eCall (F .l_leaf) [(eVar 0), (eVar 1)]), (eC (.int 1))])) sNop) (sSeq (sPutK (eVar 1) (eC (.str "parts")) (eOp dSub (eOp dGet (eVar 1) (eC (.str "parts"))) (eC (.int 1)))) (sSeq (sIf (tVal (eOp dEq (eVar 4) (eC (.str "spare")))) (sSeq (sAsgT (eComp [10] (iRange (eC (.int 2))) (tgName 10) (fun _ => pure true) (eCall (F .l_grove) [(eVar 0), (eVar 1), (eOp dSub (eVar 2) (eC (.int 1)))])) (fun d env => noErr (gtPairL (gtName 5) (gtName 6) d env))) (sRet (eTup [(eTup [(eVar 4), (eOp dIdx (eVar 5) (eC (.int 0))), (eOp dIdx (eVar 6) (eC (.int 0)))]), (eB dMax2 [(eOp dIdx (eVar 5) (eC (.int 1))), (eOp dIdx (eVar 6) (eC (.int 1)))])]))) sNop) (sSeq (sIf (tVal (eOp dIn (eVar 4) (eTup [(eC (.str "chain")), (eC (.str "beside"))]))) (sSeq (sAsg 7 (eIf (tVal (eOp dEq (eVar 4) (eC (.str "chain")))) (eCall (F .l_digit) [(eVar 0), (eC (.int 5))]) (eOp dAdd (eC (.int 1)) (eCall (F .l_digit) [(eVar 0), (eC (.int 3))])))) (sSeq (sAsg 8 (eComp [10] (iRange (eVar 7)) (tgName 10) (fun _ => pure true) (eCall (F .l_grove) [(eVar 0), (eVar 1), (eOp dSub (eVar 2) (eC (.int 1)))]))) (sSeq (sAsg 9 (eIf (tVal (eOp dEq (eVar 4) (eC (.str "chain")))) (eB dMaxL [(eOp dAdd (eLst [(eC (.int 1))]) (eComp [5] (iSeq (eVar 8)) (tgName 5) (fun _ => pure true) (eOp dIdx (eVar 5) (eC (.int 1)))))]) (eB dSum [(eComp [5] (iSeq (eVar 8)) (tgName 5) (fun _ => pure true) (eOp dIdx (eVar 5) (eC (.int 1))))]))) (sSeq (sIf (tVal (eOp dGt (eVar 9) (eC (.int 60)))) (sRet (eOp dIdx (eVar 8) (eC (.int 0)))) sNop) (sRet (eTup [(eTup [(eVar 4), (eB dTuple [(eComp [5] (iSeq (eVar 8)) (tgName 5) (fun _ => pure true) (eOp dIdx (eVar 5) (eC (.int 0))))])]), (eVar 9)])))))) sNop) (sRet (eCall (F .l_upon) [(eVar 0), (eVar 1), (eVar 4), (eCall (F .l_grove) [(eVar 0), (eVar 1), (eOp dSub (eVar 2) (eC (.int 1)))])])))))))))
def g_l_planned (F : Fn → List D → M D) : Ev → M Fl := (sSeq (sAsg 1 (eNewD [.inr "parts", .inr "great", .inr "rows"] [(eOp dAdd (eC (.int 1)) (eCall (F .l_digit) [(eVar 0), (eC (.int 11))])), (eC (.int 3)), (eC (.int 0))])) (sRet (eOp dIdx (eCall (F .l_grove) [(eVar 0), (eVar 1), (eC (.int 5))]) (eC (.int 0)))))
def g_l_whole_one (F : Fn → List D → M D) : Ev → M Fl := (sRet (eAnd (eUn (dIsT "int") (eVar 0)) (eNot (eUn (dIsT "bool") (eVar 0)))))
def g_l_reads_rule (F : Fn → List D → M D) : Ev → M Fl := (sSeq (sIf (tNot' (tVal (eUn (dIsT "tuple") (eVar 0)))) (sRet (eC (.bl false))) sNop) (sSeq (sFor (iSeq (eVar 0)) (tgName 1) (sSeq (sIf (tOr' (tNot' (tVal (eUn (dIsT "tuple") (eVar 1)))) (tOr' (tNot' (tVal (eChain dLe dLe (eC (.int 1)) (eB dLen [(eVar 1)]) (eC (.int 2))))) (tNot' (tVal (eUn (dIsT "str") (eOp dIdx (eVar 1) (eC (.int 0)))))))) (sRet (eC (.bl false))) sNop) (sSeq (sIf (tVal (eOp dNotIn (eOp dIdx (eVar 1) (eC (.int 0))) (eIf (tVal (eOp dEq (eB dLen [(eVar 1)]) (eC (.int 1)))) (eLst [(eC (.str "one")), (eC (.str "sum"))]) (eLst [(eC (.str "add")), (eC (.str "times")), (eC (.str "rest"))])))) (sRet (eC (.bl false))) sNop) (sIf (tAnd' (tVal (eOp dEq (eB dLen [(eVar 1)]) (eC (.int 2)))) (tOr' (tNot' (tVal (eCall (F .l_whole_one) [(eOp dIdx (eVar 1) (eC (.int 1)))]))) (tAnd' (tVal (eOp dEq (eOp dIdx (eVar 1) (eC (.int 0))) (eC (.str "rest")))) (tVal (eOp dLt (eOp dIdx (eVar 1) (eC (.int 1))) (eC (.int 1))))))) (sRet (eC (.bl false))) sNop)))) (sRet (eC (.bl true)))))
def g_l_reads_look (F : Fn → List D → M D) : Ev → M Fl := (sSeq (sIf (tOr' (tNot' (tVal (eUn (dIsT "tuple") (eVar 0)))) (tOr' (tVal (eOp dNotIn (eB dLen [(eVar 0)]) (eTup [(eC (.int 2)), (eC (.int 3))]))) (tNot' (tVal (eUn (dIsT "str") (eOp dIdx (eVar 0) (eC (.int 0)))))))) (sRet (eC (.bl false))) sNop) (sSeq (sIf (tVal (eOp dEq (eB dLen [(eVar 0)]) (eC (.int 2)))) (sRet (eAnd (eOp dEq (eOp dIdx (eVar 0) (eC (.int 0))) (eC (.str "below"))) (eCall (F .l_whole_one) [(eOp dIdx (eVar 0) (eC (.int 1)))]))) sNop) (sSeq (sIf (tVal (eOp dEq (eOp dIdx (eVar 0) (eC (.int 0))) (eC (.str "after")))) (sRet (eAnd (eCall (F .l_reads_rule) [(eOp dIdx (eVar 0) (eC (.int 1)))]) (eCall (F .l_reads_test) [(eOp dIdx (eVar 0) (eC (.int 2)))]))) sNop) (sSeq (sIf (tOr' (tVal (eOp dNe (eOp dIdx (eVar 0) (eC (.int 0))) (eC (.str "rest")))) (tOr' (tNot' (tVal (eCall (F .l_whole_one) [(eOp dIdx (eVar 0) (eC (.int 1)))]))) (tNot' (tVal (eCall (F .l_whole_one) [(eOp dIdx (eVar 0) (eC (.int 2)))]))))) (sRet (eC (.bl false))) sNop) (sRet (eChain dLe dLt (eC (.int 0)) (eOp dIdx (eVar 0) (eC (.int 2))) (eOp dIdx (eVar 0) (eC (.int 1)))))))))
def g_l_reads_test (F : Fn → List D → M D) : Ev → M Fl := (sRet (eAnd (eUn (dIsT "tuple") (eVar 0)) (eOp dEq (eComp [1] (iSeq (eVar 0)) (tgName 1) (tNot' (tVal (eCall (F .l_reads_look) [(eVar 1)]))) (eVar 1)) (eLst []))))
def g_l_reads_part (F : Fn → List D → M D) : Ev → M Fl := (sSeq (sIf (tVal (eOp dEq (eVar 0) (eC (.str "plan")))) (sRet (eCall (F .l_reads_plan) [(eVar 1)])) sNop) (sSeq (sIf (tVal (eOp dEq (eVar 0) (eC (.str "rule")))) (sRet (eCall (F .l_reads_rule) [(eVar 1)])) sNop) (sSeq (sIf (tVal (eOp dEq (eVar 0) (eC (.str "test")))) (sRet (eCall (F .l_reads_test) [(eVar 1)])) sNop) (sSeq (sIf (tVal (eOp dEq (eVar 0) (eC (.str "word")))) (sSeq (sAsg 2 (eC (.str "abcdefghijklmnopqrstuvwxyz"))) (sRet (eAnd (eUn (dIsT "str") (eVar 1)) (eAnd (eChain dLe dLe (eC (.int 1)) (eB dLen [(eVar 1)]) (eC (.int 8))) (eOp dEq (eComp [5] (iChars (eVar 1)) (tgName 5) (tVal (eOp dNotInS (eVar 5) (eVar 2))) (eVar 5)) (eLst [])))))) sNop) (sSeq (sIf (tVal (eOp dIn (eVar 0) (eTup [(eC (.str "numbers")), (eC (.str "some")), (eC (.str "more"))]))) (sSeq (sIf (tNot' (tVal (eUn (dIsT "tuple") (eVar 1)))) (sRet (eC (.bl false))) sNop) (sSeq (sIf (tVal (eOp dEq (eVar 0) (eC (.str "numbers")))) (sRet (eOp dEq (eComp [6] (iSeq (eVar 1)) (tgName 6) (tNot' (tVal (eCall (F .l_whole_one) [(eVar 6)]))) (eVar 6)) (eLst []))) sNop) (sSeq (sIf (tOr' (tVal (eOp dGt (eB dLen [(eVar 1)]) (eC (.int 6)))) (tAnd' (tVal (eOp dEq (eVar 0) (eC (.str "more")))) (tVal (eOp dEq (eVar 1) (eTup []))))) (sRet (eC (.bl false))) sNop) (sRet (eOp dEq (eComp [6] (iSeq (eVar 1)) (tgName 6) (tNot' (tVal (eCall (F .l_reads_plan) [(eVar 6)]))) (eVar 6)) (eLst [])))))) sNop) (sSeq (sIf (tNot' (tVal (eCall (F .l_whole_one) [(eVar 1)]))) (sRet (eC (.bl false))) sNop) (sSeq (sIf (tVal (eOp dEq (eVar 0) (eC (.str "any")))) (sRet (eC (.bl true))) sNop) (sSeq (sIf (tVal (eOp dEq (eVar 0) (eC (.str "by")))) (sRet (eOp dGt (eVar 1) (eC (.int 0)))) sNop) (sSeq (sAsgT (eDispGet [.inr "far", .inr "row", .inr "size"] [(eTup [(eC (.int 0)), (eC (.int 200))]), (eTup [(eC (.int 0)), (eC (.int 59))]), (eTup [(eC (.int 1)), (eC (.int 20))])] (eVar 0)) (fun d env => noErr (gtPair (gtName 3) (gtName 4) d env))) (sRet (eChain dLe dLe (eVar 3) (eVar 1) (eVar 4))))))))))))
def g_l_sorts (F : Fn → List D → M D) : Ev → M Fl := (sSeq (sAsg 1 (eNewD [.inr "list", .inr "broken", .inr "count", .inr "row", .inr "turn"] [(eC (.str "numbers")), (eC (.str "numbers word")), (eC (.str "any any far")), (eC (.str "row")), (eC (.str "rule plan"))])) (sSeq (sIf (tVal (eOp dIn (eVar 0) (eTup [(eC (.str "sieve")), (eC (.str "upto"))]))) (sRet (eLst [(eC (.str "test")), (eC (.str "plan"))])) sNop) (sSeq (sIf (tVal (eOp dIn (eVar 0) (eTup [(eC (.str "cut")), (eC (.str "left"))]))) (sRet (eLst [(eC (.str "far")), (eC (.str "plan"))])) sNop) (sSeq (sIf (tVal (eOp dIn (eVar 0) (eTup [(eC (.str "chain")), (eC (.str "beside"))]))) (sRet (eLst [(eOp dIdx (eLst [(eC (.str "some")), (eC (.str "more"))]) (eB dIntB [(eOp dEq (eVar 0) (eC (.str "beside")))]))])) sNop) (sSeq (sAsg 2 (eNewD [.inr "ahead", .inr "windows", .inr "marks", .inr "spare"] [(eC (.str "plan")), (eC (.str "size size plan")), (eC (.str "by plan")), (eC (.str "plan plan"))])) (sSeq (sIf (tVal (eOp dEq (eVar 0) (eC (.str "wanted")))) (sRet (eLst [(eC (.str "far")), (eC (.str "word")), (eC (.str "plan"))])) sNop) (sRet (eSplit (eGet2 (eVar 1) (eVar 0) (eGet2 (eVar 2) (eVar 0) (eC (.str "none")))) (eC (.str " "))))))))))
def g_l_reads_plan (F : Fn → List D → M D) : Ev → M Fl := (sSeq (sIf (tOr' (tNot' (tVal (eUn (dIsT "tuple") (eVar 0)))) (tOr' (tVal (eOp dLt (eB dLen [(eVar 0)]) (eC (.int 2)))) (tNot' (tVal (eUn (dIsT "str") (eOp dIdx (eVar 0) (eC (.int 0)))))))) (sRet (eC (.bl false))) sNop) (sSeq (sAsg 1 (eCall (F .l_sorts) [(eOp dIdx (eVar 0) (eC (.int 0)))])) (sSeq (sIf (tOr' (tVal (eOp dEq (eVar 1) (eLst [(eC (.str "none"))]))) (tVal (eOp dNe (eB dLen [(eVar 1)]) (eOp dSub (eB dLen [(eVar 0)]) (eC (.int 1)))))) (sRet (eC (.bl false))) sNop) (sRet (eOp dEq (eComp [2, 3] (iEnumL (eVar 1)) (tgPair 2 3) (tNot' (tVal (eCall (F .l_reads_part) [(eVar 3), (eOp dIdx (eVar 0) (eOp dAdd (eVar 2) (eC (.int 1))))]))) (eVar 2)) (eLst []))))))
def g_l_spoilt (F : Fn → List D → M D) : Ev → M Fl := (sSeq (sAsg 2 (eLst [(eC .non), (eC (.bl true)), (eC (.bl false)), (eC (.int 0)), (eUn dNeg (eC (.int 1))), (eC (.int 1)), (eC (.int 7)), (eC (.int 21)), (eC (.int 60)), (eC (.int 201)), (eOp dPow (eC (.int 10)) (eC (.int 29))), (eC (.str "")), (eC (.str "a")), (eC (.str "list")), (eC (.str "broken")), (eC (.str "count")), (eC (.str "row")), (eC (.str "turn"))])) (sSeq (sAsg 2 (eOp dAdd (eVar 2) (eLst [(eC (.str "sieve")), (eC (.str "cut")), (eC (.str "left")), (eC (.str "chain")), (eC (.str "beside")), (eC (.str "ahead")), (eC (.str "windows")), (eC (.str "marks")), (eC (.str "spare")), (eC (.str "wanted")), (eC (.str "add")), (eC (.str "A"))]))) (sSeq (sAsg 2 (eOp dAdd (eVar 2) (eLst [(eC (.str "below")), (eC (.str "a b")), (eC (.str "abcdefghi")), (eTup []), (eLst []), (eTup [(eC (.str "one"))]), (eTup [(eC (.str "list")), (eTup [(eC (.int 1))])]), (eTup [(eC (.str "row")), (eC (.int 0))]), (eTup [(eTup [(eC (.str "add")), (eC (.int 1))])])]))) (sSeq (sAsg 2 (eOp dAdd (eVar 2) (eLst [(eTup [(eC (.str "chain")), (eTup [])]), (eC (.str "a1"))]))) (sSeq (sAsg 3 (eOp dIdx (eVar 2) (eCall (F .l_digit) [(eVar 0), (eB dLen [(eVar 2)])]))) (sSeq (sAsg 4 (eCall (F .l_digit) [(eVar 0), (eC (.int 6))])) (sSeq (sIf (tOr' (tNot' (tVal (eUn (dIsT "tuple") (eVar 1)))) (tAnd' (tVal (eOp dEq (eVar 4) (eC (.int 5)))) (tVal (eOp dEq (eCall (F .l_digit) [(eVar 0), (eC (.int 3))]) (eC (.int 0)))))) (sRet (eVar 3)) sNop) (sSeq (sAsg 5 (eCall (F .l_digit) [(eVar 0), (eOp dAdd (eB dLen [(eVar 1)]) (eC (.int 1)))])) (sSeq (sIf (tAnd' (tVal (eOp dEq (eVar 4) (eC (.int 0)))) (tVal (eOp dLt (eVar 5) (eB dLen [(eVar 1)])))) (sRet (eOp dAdd (eSl (eVar 1) pNo (pAt (eVar 5))) (eSl (eVar 1) (pAt (eOp dAdd (eVar 5) (eC (.int 1)))) pNo))) sNop) (sSeq (sIf (tOr' (tVal (eOp dEq (eVar 4) (eC (.int 1)))) (tVal (eOp dEq (eVar 5) (eB dLen [(eVar 1)])))) (sRet (eOp dAdd (eOp dAdd (eSl (eVar 1) pNo (pAt (eVar 5))) (eTup [(eVar 3)])) (eSl (eVar 1) (pAt (eVar 5)) pNo))) sNop) (sRet (eOp dAdd (eOp dAdd (eSl (eVar 1) pNo (pAt (eVar 5))) (eTup [(eCall (F .l_spoilt) [(eVar 0), (eOp dIdx (eVar 1) (eVar 5))])])) (eSl (eVar 1) (pAt (eOp dAdd (eVar 5) (eC (.int 1)))) pNo)))))))))))))
def g_l_judged (F : Fn → List D → M D) : Ev → M Fl := (sSeq (sAsg 1 (eB dReprA [(eVar 0)])) (sSeq (sAsg 2 (eCall (F .is_plan) [(eVar 0)])) (sRet (eAnd (eUn (dIsT "bool") (eVar 2)) (eAnd (eOp dEq (eVar 2) (eCall (F .l_reads_plan) [(eVar 0)])) (eOp dEqS (eB dReprA [(eVar 0)]) (eVar 1)))))))
def g_l_borders (F : Fn → List D → M D) : Ev → M Fl := (sSeq (sAsg 1 (eLst [])) (sSeq (sFor (iSeq (eTup [(eC (.int 0)), (eC (.int 1)), (eC (.int 6)), (eC (.int 7))])) (tgName 2) (sAsg 1 (eOp dAdd (eVar 1) (eLst [(eTup [(eC (.str "chain")), (eOp dMulT (eTup [(eVar 0)]) (eVar 2))]), (eTup [(eC (.str "beside")), (eOp dMulT (eTup [(eVar 0)]) (eVar 2))])])))) (sSeq (sFor (iSeq (eTup [(eC (.int 0)), (eC (.int 1)), (eC (.int 200)), (eC (.int 201)), (eUn dNeg (eC (.int 1)))])) (tgName 3) (sAsg 1 (eOp dAdd (eVar 1) (eLst [(eTup [(eC (.str "cut")), (eVar 3), (eVar 0)]), (eTup [(eC (.str "left")), (eVar 3), (eVar 0)]), (eTup [(eC (.str "wanted")), (eVar 3), (eC (.str "abcdefgh")), (eVar 0)]), (eTup [(eC (.str "count")), (eVar 3), (eVar 3), (eVar 3)])])))) (sSeq (sFor (iSeq (eTup [(eC (.int 0)), (eC (.int 1)), (eC (.int 20)), (eC (.int 21))])) (tgName 3) (sAsg 1 (eOp dAdd (eVar 1) (eLst [(eTup [(eC (.str "windows")), (eVar 3), (eC (.int 20)), (eVar 0)]), (eTup [(eC (.str "windows")), (eC (.int 20)), (eVar 3), (eVar 0)]), (eTup [(eC (.str "marks")), (eVar 3), (eVar 0)])])))) (sSeq (sAsg 1 (eOp dAdd (eVar 1) (eLst [(eTup [(eC (.str "row")), (eC (.int 59))]), (eTup [(eC (.str "row")), (eC (.int 60))]), (eTup [(eC (.str "row")), (eC (.int 0))]), (eTup [(eC (.str "row")), (eUn dNeg (eC (.int 1)))]), (eTup [(eC (.str "wanted")), (eC (.int 1)), (eC (.str "abcdefghi")), (eVar 0)])]))) (sRet (eOp dAdd (eVar 1) (eLst [(eTup [(eC (.str "wanted")), (eC (.int 1)), (eC (.str "")), (eVar 0)]), (eTup [(eC (.str "broken")), (eTup []), (eC (.str "z"))]), (eTup [(eC (.str "broken")), (eTup []), (eC (.str "Z"))]), (eTup [(eC (.str "list")), (eTup [])])]))))))))
def g_l_right (F : Fn → List D → M D) : Ev → M Fl := (sSeq (sAsg 1 (eCall (F .l_planned) [(eVar 0)])) (sSeq (sIf (tOr' (tNot' (tVal (eCall (F .l_judged) [(eVar 1)]))) (tNot' (tVal (eCall (F .l_reads_plan) [(eVar 1)])))) (sRet (eC (.bl false))) sNop) (sSeq (sFor (iRange (eC (.int 12))) (tgName 2) (sIf (tNot' (tVal (eCall (F .l_judged) [(eCall (F .l_spoilt) [(eVar 0), (eVar 1)])]))) (sRet (eC (.bl false))) sNop)) (sSeq (sIf (tNot' (tVal (eB dAll [(eComp [3] (iSeq (eCall (F .l_borders) [(eTup [(eC (.str "list")), (eTup [(eC (.int 1))])])])) (tgName 3) (fun _ => pure true) (eCall (F .l_judged) [(eVar 3)]))]))) (sRet (eC (.bl false))) sNop) (sRet (eB dAll [(eComp [3] (iSeq (eLst [(eB dList [(eVar 1)]), (eLst [(eVar 1)]), (eOp dIdx (eVar 1) (eC (.int 0))), (eC .non), (eC (.int 7)), eDct0, (eTup []), (eTup [(eC (.str "list"))]), (eVar 1)])) (tgName 3) (fun _ => pure true) (eCall (F .l_judged) [(eVar 3)]))]))))))
def g_law (F : Fn → List D → M D) : Ev → M Fl := (sSeq (sFor (iRange (eB dMax2 [(eC (.int 1)), (eB dMin2 [(eC (.int 3)), (eB dLen [(eVar 0)])])])) (tgName 1) (sIf (tNot' (tVal (eCall (F .l_right) [(eCall (F .l_pot) [(eVar 0), (eVar 1)])]))) (sRet (eC (.bl false))) sNop)) (sRet (eC (.bl true))))
def fns : Nat → Fn → List D → M D
  | 0, _ => fun _ => M.stuck
  | n + 1, .is_whole => runF 1 (g_is_whole (fns n))
  | n + 1, .is_rule => runF 2 (g_is_rule (fns n))
  | n + 1, .is_change => runF 1 (g_is_change (fns n))
  | n + 1, .is_test => runF 2 (g_is_test (fns n))
  | n + 1, .is_look => runF 1 (g_is_look (fns n))
  | n + 1, .is_between => runF 3 (g_is_between (fns n))
  | n + 1, .is_word => runF 2 (g_is_word (fns n))
  | n + 1, .are_numbers => runF 2 (g_are_numbers (fns n))
  | n + 1, .is_leaf => runF 1 (g_is_leaf (fns n))
  | n + 1, .is_joined => runF 2 (g_is_joined (fns n))
  | n + 1, .has_numbers => runF 3 (g_has_numbers (fns n))
  | n + 1, .is_plan => runF 1 (g_is_plan (fns n))
  | n + 1, .l_pot => runF 3 (g_l_pot (fns n))
  | n + 1, .l_digit => runF 3 (g_l_digit (fns n))
  | n + 1, .l_whole => runF 4 (g_l_whole (fns n))
  | n + 1, .l_change => runF 3 (g_l_change (fns n))
  | n + 1, .l_rule => runF 3 (g_l_rule (fns n))
  | n + 1, .l_look => runF 5 (g_l_look (fns n))
  | n + 1, .l_test => runF 4 (g_l_test (fns n))
  | n + 1, .l_leaf => runF 5 (g_l_leaf (fns n))
  | n + 1, .l_upon => runF 9 (g_l_upon (fns n))
  | n + 1, .l_grove => runF 11 (g_l_grove (fns n))
  | n + 1, .l_planned => runF 2 (g_l_planned (fns n))
  | n + 1, .l_whole_one => runF 1 (g_l_whole_one (fns n))
  | n + 1, .l_reads_rule => runF 2 (g_l_reads_rule (fns n))
  | n + 1, .l_reads_look => runF 1 (g_l_reads_look (fns n))
  | n + 1, .l_reads_test => runF 2 (g_l_reads_test (fns n))
  | n + 1, .l_reads_part => runF 7 (g_l_reads_part (fns n))
  | n + 1, .l_sorts => runF 3 (g_l_sorts (fns n))
  | n + 1, .l_reads_plan => runF 4 (g_l_reads_plan (fns n))
  | n + 1, .l_spoilt => runF 6 (g_l_spoilt (fns n))
  | n + 1, .l_judged => runF 3 (g_l_judged (fns n))
  | n + 1, .l_borders => runF 4 (g_l_borders (fns n))
  | n + 1, .l_right => runF 4 (g_l_right (fns n))
  | n + 1, .law => runF 2 (g_law (fns n))
end K82
end

section
set_option Elab.async false
set_option linter.all false
set_option maxRecDepth 100000
set_option maxHeartbeats 1000000
namespace K82
open PySem G
theorem sok (x : Str) (h : PyData.strOk x = true := by decide +kernel) : PyData.strOk x = true := h
theorem runF_ret {n : Nat} {g : Ev → M Fl} {ds : List D} {st st' : Store} {d : D} (h : g (ds.map some ++ List.replicate (n - ds.length) none) st = .ok (.ret d) st') : runF n g ds st = .ok d st' := by
  show (noErr _ >>= _) st = _
  rw [bind_app, noErr_app, h]
  rfl
theorem whole_is {L k n : Nat} {d : D} {st : Store} (h : Sh L k d) : fns (n + 1) .is_whole [d] st = .ok (.bl (qInt d)) st := by
  refine runF_ret ?_
  simp only [g_is_whole, sRet_app, eAnd_app, eNot_app, eUn_app, List.map_cons, List.map_nil, List.length_cons, List.length_nil]
  rw [eVar_at 0 (d := d) (by simp)]
  simp only [bnd_ok, dIsT_int h, lif_some, asB_bl]
  cases d <;> first | (simp [Sh] at h; done) | simp [qInt, qBl, dIsT, tyName, isTy]
theorem whole_one {L k n : Nat} {d : D} {st : Store} (h : Sh L k d) : fns (n + 1) .l_whole_one [d] st = .ok (.bl (qInt d)) st := whole_is (n := n) h
/-- a change that is read as one -/
def posD : D → Bool
  | .int i => decide (0 < i)
  | _ => false
def chg : D → Bool
  | .tup [x] => isW x "one" || isW x "sum"
  | .tup [x, y] => qInt y && ((isW x "add" || isW x "times") || (isW x "rest" && posD y))
  | _ => false
theorem change_is {L k n : Nat} {d : D} {st : Store} (h : Sh L k d) (hk : k ≤ 64) : fns (n + 2) .is_change [d] st = .ok (.bl (chg d)) st := by
  refine runF_ret ?_
  simp only [List.map_cons, List.map_nil, List.length_cons, List.length_nil]
  cases d with
  | tup l =>
    cases k with
    | zero => simp [Sh] at h
    | succ k =>
      have h' := h
      simp only [Sh] at h'
      cases l with
      | nil => simp [g_is_change, dIsT, tyName, isTy, chg]
      | cons x l =>
        have hx := h'.2 x (by simp)
        cases l with
        | nil => simp [g_is_change, dIsT, tyName, isTy, chg, dIn_2 (x := "one") (y := "sum") hx (by omega) (by decide +kernel)]
        | cons y l =>
          have hy := h'.2 y (by simp)
          cases l with
          | nil =>
            have f1 := fun st => dIn_2 (st := st) (x := "add") (y := "times") hx (by omega) (by decide +kernel)
            have f2 := fun st => dEq_w (st := st) (x := "rest") hx (by omega) (by decide +kernel)
            generalize e1 : isW x "add" = b1 at f1
            generalize e2 : isW x "times" = b2 at f1
            generalize e3 : isW x "rest" = b3 at f2
            cases b1 <;> cases b2 <;> cases b3 <;> cases y <;> simp [g_is_change, dIsT, tyName, isTy, chg, whole_is hy, qInt, posD, f1, f2, e1, e2, e3]
          | cons z l =>
            have a1 : ¬ ((l.length : Int) + 1 + 1 + 1 = 0) := by omega
            have a2 : ¬ ((l.length : Int) + 1 + 1 + 1 = 1) := by omega
            have a3 : (2 : Int) < (l.length : Int) + 1 + 1 + 1 := by omega
            simp [g_is_change, dIsT, tyName, isTy, chg, a1, a2, a3]
  | _ => first | (simp [Sh] at h; done) | simp [g_is_change, dIsT, tyName, isTy, chg]

theorem isW_two {d : D} {x y : Str} (h : (x == y) = false) : ¬ (isW d x = true ∧ isW d y = true) := by
  intro ⟨h1, h2⟩
  cases d with
  | str z =>
    simp only [isW, beq_iff_eq] at h1 h2
    subst h1; subst h2
    simp at h
  | _ => simp [isW] at h1
theorem reads_rule_step {L k n : Nat} {d t : D} {st : Store} (h : Sh L k d) (hk : k ≤ 64) : ∃ env', (∃ o, env' = [some t, o]) ∧
    (sSeq (sIf (tOr' (tNot' (tVal (eUn (dIsT "tuple") (eVar 1)))) (tOr' (tNot' (tVal (eChain dLe dLe (eC (.int 1)) (eB dLen [(eVar 1)]) (eC (.int 2))))) (tNot' (tVal (eUn (dIsT "str") (eOp dIdx (eVar 1) (eC (.int 0)))))))) (sRet (eC (.bl false))) sNop) (sSeq (sIf (tVal (eOp dNotIn (eOp dIdx (eVar 1) (eC (.int 0))) (eIf (tVal (eOp dEq (eB dLen [(eVar 1)]) (eC (.int 1)))) (eLst [(eC (.str "one")), (eC (.str "sum"))]) (eLst [(eC (.str "add")), (eC (.str "times")), (eC (.str "rest"))])))) (sRet (eC (.bl false))) sNop) (sIf (tAnd' (tVal (eOp dEq (eB dLen [(eVar 1)]) (eC (.int 2)))) (tOr' (tNot' (tVal (eCall (fns (n + 1) .l_whole_one) [(eOp dIdx (eVar 1) (eC (.int 1)))]))) (tAnd' (tVal (eOp dEq (eOp dIdx (eVar 1) (eC (.int 0))) (eC (.str "rest")))) (tVal (eOp dLt (eOp dIdx (eVar 1) (eC (.int 1))) (eC (.int 1))))))) (sRet (eC (.bl false))) sNop))) [some t, some d] st = .ok (if chg d = true then .nx env' else .ret (.bl false)) st := by
  refine ⟨[some t, some d], ⟨_, rfl⟩, ?_⟩
  cases d with
  | tup l =>
    cases k with
    | zero => simp [Sh] at h
    | succ k =>
      have h' := h
      simp only [Sh] at h'
      cases l with
      | nil => simp [dIsT, tyName, isTy, chg]
      | cons x l =>
        have hx := h'.2 x (by simp)
        have s1 := fun st => dIsT_str (st := st) hx
        cases l with
        | nil =>
          have f1 := fun st => dNotIn_2L (st := st) (x := "one") (y := "sum") hx (by omega) (by decide +kernel)
          generalize e1 : isW x "one" = b1 at f1
          generalize e2 : isW x "sum" = b2 at f1
          cases b1 <;> cases b2 <;> cases x <;> first | (simp [isW] at e1; done) | (simp [isW] at e2; done) | (simp [dIsT_tuple h, qTup, chg, s1, qStr, f1, e1, e2]; done) | skip
        | cons y l =>
          have hy := h'.2 y (by simp)
          cases l with
          | nil =>
            have f1 := fun st => dNotIn_3L (st := st) (x := "add") (y := "times") (z := "rest") hx (by omega) (by decide +kernel)
            have f2 := fun st => dEq_w (st := st) (x := "rest") hx (by omega) (by decide +kernel)
            have c1 : ¬ (isW x "add" = true ∧ isW x "rest" = true) := isW_two (by decide +kernel)
            have c2 : ¬ (isW x "times" = true ∧ isW x "rest" = true) := isW_two (by decide +kernel)
            generalize e1 : isW x "add" = b1 at f1 c1
            generalize e2 : isW x "times" = b2 at f1 c2
            generalize e3 : isW x "rest" = b3 at f1 f2 c1 c2
            have w1 := fun st => whole_one (n := n) (st := st) hy
            by_cases hi : ∃ i, y = .int i
            · obtain ⟨i, rfl⟩ := hi
              by_cases hp : 0 < i
              · have hq : ¬ i < 1 := by omega
                cases b1 <;> cases b2 <;> cases b3 <;> cases x <;> first | exact absurd ⟨rfl, rfl⟩ c1 | exact absurd ⟨rfl, rfl⟩ c2 | (simp [isW] at e1; done) | (simp [isW] at e2; done) | (simp [isW] at e3; done) | (simp [dIsT_tuple h, qTup, chg, s1, qStr, qInt, posD, f1, f2, e1, e2, e3, w1, hp, hq]; done) | skip
              · have hq : i < 1 := by omega
                cases b1 <;> cases b2 <;> cases b3 <;> cases x <;> first | exact absurd ⟨rfl, rfl⟩ c1 | exact absurd ⟨rfl, rfl⟩ c2 | (simp [isW] at e1; done) | (simp [isW] at e2; done) | (simp [isW] at e3; done) | (simp [dIsT_tuple h, qTup, chg, s1, qStr, qInt, posD, f1, f2, e1, e2, e3, w1, hp, hq]; done) | skip
            · have hz : qInt y = false := by cases y <;> first | rfl | exact absurd ⟨_, rfl⟩ hi
              cases b1 <;> cases b2 <;> cases b3 <;> cases x <;> first | exact absurd ⟨rfl, rfl⟩ c1 | exact absurd ⟨rfl, rfl⟩ c2 | (simp [isW] at e1; done) | (simp [isW] at e2; done) | (simp [isW] at e3; done) | (simp [dIsT_tuple h, qTup, chg, s1, qStr, hz, f1, f2, e1, e2, e3, w1]; done) | skip
          | cons z l =>
            have a3 : ¬ ((l.length : Int) + 1 + 1 + 1 ≤ 2) := by omega
            have a4 : (1 : Int) ≤ (l.length : Int) + 1 + 1 + 1 := by omega
            simp [dIsT_tuple h, qTup, chg, a3, a4]
  | _ => first | (simp [Sh] at h; done) | simp [dIsT, tyName, isTy, chg]

theorem forGo_allF {g : Ev → M Fl} {st : Store} {r : D} {t : D} {o : Option D} {l : List D} (f : D → Bool) (h : ∀ d ∈ l, ∃ env', (∃ o, env' = [some t, o]) ∧ g [some t, some d] st = .ok (if f d = true then .nx env' else .ret r) st) :
    ∃ env', forGo (tgName 1) g l [some t, o] st = .ok (if l.all f = true then .nx env' else .ret r) st := by
  obtain ⟨e, _, h⟩ := forGo_all (i := 1) (g := g) (st := st) (r := r) (fun env => ∃ o, env = [some t, o]) f l [some t, o] ⟨_, rfl⟩ (fun d hd env ⟨o, he⟩ => by subst he; exact h d hd)
  exact ⟨e, h⟩
theorem notTup {L k : Nat} {d : D} (h : Sh L k d) (ht : ∀ l, d ≠ .tup l) : qTup d = false := by cases d <;> first | rfl | exact absurd rfl (ht _)
theorem rule_reads {L k : Nat} {d : D} (h : Sh L k d) (hk : k ≤ 64) : ∃ b, (∀ st n, fns (n + 3) .is_rule [d] st = .ok (.bl b) st) ∧ ∀ st n, fns (n + 2) .l_reads_rule [d] st = .ok (.bl b) st := by
  by_cases ht : ∃ l, d = .tup l
  · obtain ⟨l, rfl⟩ := ht
    have h' := h
    cases k with
    | zero => simp [Sh] at h
    | succ k =>
      simp only [Sh] at h'
      refine ⟨l.all chg, fun st n => runF_ret ?_, fun st n => runF_ret ?_⟩
      · have e : eComp [1] (iSeq (eVar 0)) (tgName 1) (fun _ => pure true) (eCall (fns (n + 2) .is_change) [(eVar 1)]) [some (.tup l), none] st = .ok (.lst (l.map fun d => .bl (chg d))) st := by
          refine eComp_of (l := l) (st1 := st) (by simp) ?_
          rw [compGo_map fun d => .bl (chg d)]
          · simp
          · intro d hd
            simp [evWipe, change_is (h'.2 d hd) (by omega : k ≤ 64)]
        simp [g_is_rule, dIsT_tuple h, qTup, e, dAll, bools_map]
      · obtain ⟨env', e⟩ := forGo_allF (t := .tup l) (o := none) (l := l) (r := .bl false) (st := st) chg fun d hd => reads_rule_step (n := n) (t := .tup l) (h'.2 d hd) (by omega : k ≤ 64)
        cases q : l.all chg <;> rw [q] at e <;> simp [g_l_reads_rule, dIsT_tuple h, qTup, e]
  · have z : qTup d = false := notTup h fun l e => ht ⟨l, e⟩
    exact ⟨false, fun st n => runF_ret (by simp [g_is_rule, dIsT_tuple h, z]), fun st n => runF_ret (by simp [g_l_reads_rule, dIsT_tuple h, z])⟩

end K82
end

section
set_option Elab.async false
set_option linter.all false
set_option maxRecDepth 100000
set_option maxHeartbeats 1000000
namespace K82
open PySem L2 G
theorem look_step {L k N : Nat} {d : D} (h : Sh L k d) (hk : k ≤ 64)
    (ih : ∀ e, Sh L (k - 1) e → ∃ b, (∀ st n, N ≤ n → fns (n + 3) .is_test [e] st = .ok (.bl b) st) ∧ ∀ st n, N ≤ n → fns (n + 2) .l_reads_test [e] st = .ok (.bl b) st) :
    ∃ b, (∀ st n, N ≤ n → fns (n + 4) .is_look [d] st = .ok (.bl b) st) ∧ ∀ st n, N ≤ n → fns (n + 3) .l_reads_look [d] st = .ok (.bl b) st := by
  by_cases ht : ∃ l, d = .tup l
  · obtain ⟨l, rfl⟩ := ht
    cases k with
    | zero => simp [Sh] at h
    | succ k =>
      have h' := h
      simp only [Sh] at h'
      have tt := fun st => dIsT_tuple (st := st) h
      match l, h', h, tt, ih with
      | [], h', h, tt, ih => exact ⟨false, fun st n hn => runF_ret (by simp [g_is_look, tt, qTup]), fun st n hn => runF_ret (by simp [g_l_reads_look, tt, qTup, dNotIn_ints])⟩
      | [a], h', h, tt, ih => exact ⟨false, fun st n hn => runF_ret (by simp [g_is_look, tt, qTup]), fun st n hn => runF_ret (by simp [g_l_reads_look, tt, qTup, dNotIn_ints])⟩
      | [a, b], h', h, tt, ih =>
        have ha := h'.2 a (by simp)
        have hb := h'.2 b (by simp)
        have s1 := fun st => dIsT_str (st := st) ha
        have f1 := fun st => dEq_w (st := st) (x := "below") ha (by omega) (by decide +kernel)
        have w1 := fun n st => whole_is (n := n) (st := st) hb
        have w2 := fun n st => whole_one (n := n) (st := st) hb
        generalize e1 : isW a "below" = b1 at f1
        generalize qInt b = b2 at w1 w2
        refine ⟨b1 && b2, fun st n hn => runF_ret ?_, fun st n hn => runF_ret ?_⟩
        · cases b1 <;> cases b2 <;> simp [g_is_look, tt, qTup, f1, w1]
        · cases b1 <;> cases b2 <;> cases a <;> first | (simp [isW] at e1; done) | (simp [g_l_reads_look, tt, qTup, dNotIn_ints, s1, qStr, f1, w2]; done) | skip
      | [a, b, c], h', h, tt, ih =>
        have ha := h'.2 a (by simp)
        have hb := h'.2 b (by simp)
        have hc := h'.2 c (by simp)
        have s1 := fun st => dIsT_str (st := st) ha
        have f1 := fun st => dEq_w (st := st) (x := "after") ha (by omega) (by decide +kernel)
        have f2 := fun st => dEq_w (st := st) (x := "rest") ha (by omega) (by decide +kernel)
        have f3 := fun st => dNe_w (st := st) (x := "rest") ha (by omega) (by decide +kernel)
        have c1 : ¬ (isW a "after" = true ∧ isW a "rest" = true) := isW_two (by decide +kernel)
        obtain ⟨r, r1, r2⟩ := rule_reads hb (by omega)
        obtain ⟨q, q1, q2⟩ := ih c hc
        have w1 := fun n st => whole_is (n := n) (st := st) hb
        have w2 := fun n st => whole_one (n := n) (st := st) hb
        have w3 := fun n st => whole_is (n := n) (st := st) hc
        have w4 := fun n st => whole_one (n := n) (st := st) hc
        generalize e1 : isW a "after" = b1 at f1 c1
        generalize e2 : isW a "rest" = b2 at f2 f3 c1
        cases b1 with
        | true =>
          refine ⟨r && q, fun st n hn => runF_ret ?_, fun st n hn => runF_ret ?_⟩
          · cases r <;> simp [g_is_look, tt, qTup, f1, r1, q1 st n hn]
          · cases r <;> cases q <;> cases a <;> first | (simp [isW] at e1; done) | (simp [g_l_reads_look, tt, qTup, dNotIn_ints, s1, qStr, f1, r2, q2 st n hn]; done) | skip
        | false =>
          cases b2 with
          | false =>
            refine ⟨false, fun st n hn => runF_ret (by simp [g_is_look, tt, qTup, f1, f2]), fun st n hn => runF_ret ?_⟩
            cases a <;> (simp [g_l_reads_look, tt, qTup, dNotIn_ints, s1, qStr, f1, f3]; done)
          | true =>
            by_cases hbi : ∃ i, b = .int i
            · obtain ⟨i, rfl⟩ := hbi
              by_cases hci : ∃ j, c = .int j
              · obtain ⟨j, rfl⟩ := hci
                by_cases o1 : 0 ≤ j
                · refine ⟨decide (j < i), fun st n hn => runF_ret (by simp [g_is_look, tt, qTup, f1, f2, w1, w3, qInt, o1]), fun st n hn => runF_ret ?_⟩
                  cases a <;> first | (simp [isW] at e2; done) | (simp [g_l_reads_look, tt, qTup, dNotIn_ints, s1, qStr, f1, f3, w2, w4, qInt, o1]; done) | skip
                · refine ⟨false, fun st n hn => runF_ret (by simp [g_is_look, tt, qTup, f1, f2, w1, w3, qInt, o1]), fun st n hn => runF_ret ?_⟩
                  cases a <;> first | (simp [isW] at e2; done) | (simp [g_l_reads_look, tt, qTup, dNotIn_ints, s1, qStr, f1, f3, w2, w4, qInt, o1]; done) | skip
              · have hz : qInt c = false := by cases c <;> first | rfl | exact absurd ⟨_, rfl⟩ hci
                simp only [hz] at w3 w4
                refine ⟨false, fun st n hn => runF_ret (by simp [g_is_look, tt, qTup, f1, f2, w1, w3, qInt]), fun st n hn => runF_ret ?_⟩
                cases a <;> first | (simp [isW] at e2; done) | (simp [g_l_reads_look, tt, qTup, dNotIn_ints, s1, qStr, f1, f3, w2, w4, qInt]; done) | skip
            · have hz : qInt b = false := by cases b <;> first | rfl | exact absurd ⟨_, rfl⟩ hbi
              simp only [hz] at w1 w2
              refine ⟨false, fun st n hn => runF_ret (by simp [g_is_look, tt, qTup, f1, f2, w1]), fun st n hn => runF_ret ?_⟩
              cases a <;> first | (simp [isW] at e2; done) | (simp [g_l_reads_look, tt, qTup, dNotIn_ints, s1, qStr, f1, f3, w2]; done) | skip
      | a :: b :: c :: e :: l, h', h, tt, ih =>
        have a1 : ¬ ((2 : Int) = (l.length : Int) + 1 + 1 + 1 + 1) := by omega
        have a2 : ¬ ((3 : Int) = (l.length : Int) + 1 + 1 + 1 + 1) := by omega
        have a3 : ((2 : Int) ≤ (l.length : Int) + 1 + 1 + 1 + 1) := by omega
        have a4 : ¬ ((l.length : Int) + 1 + 1 + 1 + 1 ≤ (3 : Int)) := by omega
        exact ⟨false, fun st n hn => runF_ret (by simp [g_is_look, tt, qTup, a3, a4]), fun st n hn => runF_ret (by simp [g_l_reads_look, tt, qTup, dNotIn_ints, a1, a2])⟩
  · have z : qTup d = false := notTup h fun l e => ht ⟨l, e⟩
    exact ⟨false, fun st n hn => runF_ret (by simp [g_is_look, dIsT_tuple h, z]), fun st n hn => runF_ret (by simp [g_l_reads_look, dIsT_tuple h, z])⟩
theorem test_reads {L : Nat} : ∀ (k : Nat) (d : D), Sh L k d → k ≤ 64 → ∃ b, (∀ st n, 2 * k ≤ n → fns (n + 3) .is_test [d] st = .ok (.bl b) st) ∧ ∀ st n, 2 * k ≤ n → fns (n + 2) .l_reads_test [d] st = .ok (.bl b) st := by
  intro k
  induction k using Nat.strongRecOn with
  | _ k IH =>
  intro d h hk
  by_cases ht : ∃ l, d = .tup l
  · obtain ⟨l, rfl⟩ := ht
    cases k with
    | zero => simp [Sh] at h
    | succ k =>
      have h' := h
      simp only [Sh] at h'
      have key : ∀ d ∈ l, ∃ b, (∀ st n, 2 * (k - 1) ≤ n → fns (n + 4) .is_look [d] st = .ok (.bl b) st) ∧ ∀ st n, 2 * (k - 1) ≤ n → fns (n + 3) .l_reads_look [d] st = .ok (.bl b) st :=
        fun d hd => look_step (h'.2 d hd) (by omega) fun e he => IH (k - 1) (by omega) e he (by omega)
      obtain ⟨f, hf⟩ := pickD key
      refine ⟨l.all f, fun st n hn => runF_ret ?_, fun st n hn => runF_ret ?_⟩
      · obtain ⟨m, rfl⟩ : ∃ m, n = m + 2 := ⟨n - 2, by omega⟩
        have e : eComp [1] (iSeq (eVar 0)) (tgName 1) (fun _ => pure true) (eCall (fns (m + 4) .is_look) [(eVar 1)]) [some (.tup l), none] st = .ok (.lst (l.map fun d => .bl (f d))) st := by
          refine eComp_of (l := l) (st1 := st) (by simp) ?_
          rw [compGo_map fun d => .bl (f d)]
          · simp
          · intro d hd
            simp [evWipe, (hf d hd).1 st m (by omega)]
        simp [g_is_test, dIsT_tuple h, qTup, e, dAll, bools_map]
      · obtain ⟨m, rfl⟩ : ∃ m, n = m + 2 := ⟨n - 2, by omega⟩
        obtain ⟨st', e, rfl⟩ := compGo_not (env := [some (.tup l), none]) (i := 1) (tt := tNot' (tVal (eCall (fns (m + 3) .l_reads_look) [(eVar 1)]))) (fun s => s = st) f l [] st (by simp) (fun d hd s hs => ⟨s, by simp [(hf d hd).2 s m (by omega)], hs⟩) rfl
        have e3 := eComp_of (vs := [1]) (st := st') (env := [some (.tup l), none]) (fi := iSeq (eVar 0)) (tg := tgName 1) (l := l) (st1 := st') (by simp) e
        have sf : Sh L (k + 1) (.lst ([] ++ l.filter fun d => !f d)) := sh_filter _ h'.1 h'.2
        simp only [List.nil_append] at e3 sf
        simp [g_l_reads_test, dIsT_tuple h, qTup, e3, dEq_nil sf hk]
        rw [← filter_nil]
  · have z : qTup d = false := notTup h fun l e => ht ⟨l, e⟩
    exact ⟨false, fun st n _ => runF_ret (by simp [g_is_test, dIsT_tuple h, z]), fun st n _ => runF_ret (by simp [g_l_reads_test, dIsT_tuple h, z])⟩
end K82
end

section
set_option Elab.async false
set_option linter.all false
set_option maxRecDepth 100000
set_option maxHeartbeats 1000000
namespace K82
open PySem L2 G
/-! ## words, numbers -/
abbrev abc : Str := "abcdefghijklmnopqrstuvwxyz"
def chB (d : D) : Bool := match sign? d with
  | some c => decide (c ∈ abc.cps.toList)
  | none => false
theorem sign_of (c : Nat) : sign? (.str ⟨#[c]⟩) = some c := rfl
def wordB : D → Bool
  | .str z => decide (1 ≤ z.length) && (decide (z.length ≤ 8) && (chars z).all chB)
  | _ => false
theorem word_is {L k n : Nat} {d : D} {st : Store} (h : Sh L k d) : fns (n + 1) .is_word [d] st = .ok (.bl (wordB d)) st := by
  refine runF_ret ?_
  by_cases hs : ∃ z, d = .str z
  · obtain ⟨z, rfl⟩ := hs
    simp only [Sh] at h
    have ln : ∀ st, dLen [.str z] st = some (.int z.length) := fun st => by
      simp only [dLen]
      rw [if_pos (Nat.le_trans h.2 (by decide))]
    have e : eComp [1] (iChars (eVar 0)) (tgName 1) (fun _ => pure true) (eOp dInS (eVar 1) (eC (.str abc))) [some (.str z), none] st = .ok (.lst ((chars z).map fun d => .bl (chB d))) st := by
      refine eComp_of (l := chars z) (st1 := st) (iChars_at (by simp) (Nat.le_trans h.2 (by decide))) ?_
      rw [compGo_map fun d => .bl (chB d)]
      · simp
      · intro d hd
        obtain ⟨c, hc, rfl⟩ := List.mem_map.mp hd
        simp [evWipe, dInS, sign_of, chB]
    have ts : ∀ st, dIsT "str" (.str z) st = some (.bl true) := fun st => rfl
    by_cases c1 : 1 ≤ z.length
    · by_cases c2 : z.length ≤ 8
      · have c1' : (1 : Int) ≤ z.length := by omega
        have c2' : (z.length : Int) ≤ 8 := by omega
        simp [g_is_word, ts, ln, c1', c2', e, dAll, bools_map, wordB, c1, c2]
      · have c1' : (1 : Int) ≤ z.length := by omega
        have c2' : ¬ (z.length : Int) ≤ 8 := by omega
        simp [g_is_word, ts, ln, c1', c2', wordB, c2]
    · have c1' : ¬ (1 : Int) ≤ z.length := by omega
      simp [g_is_word, ts, ln, c1', wordB, c1]
  · have z : qStr d = false := by cases d <;> first | rfl | exact absurd ⟨_, rfl⟩ hs
    have z2 : wordB d = false := by cases d <;> first | rfl | exact absurd ⟨_, rfl⟩ hs
    simp [g_is_word, dIsT_str h, z, z2]
def numsB : D → Bool
  | .tup l => l.all qInt
  | _ => false
theorem numbers_is {L k n : Nat} {d : D} {st : Store} (h : Sh L k d) : fns (n + 2) .are_numbers [d] st = .ok (.bl (numsB d)) st := by
  refine runF_ret ?_
  by_cases ht : ∃ l, d = .tup l
  · obtain ⟨l, rfl⟩ := ht
    cases k with
    | zero => simp [Sh] at h
    | succ k =>
      have h' := h
      simp only [Sh] at h'
      have e : eComp [1] (iSeq (eVar 0)) (tgName 1) (fun _ => pure true) (eCall (fns (n + 1) .is_whole) [(eVar 1)]) [some (.tup l), none] st = .ok (.lst (l.map fun d => .bl (qInt d))) st := by
        refine eComp_of (l := l) (st1 := st) (by simp) ?_
        rw [compGo_map fun d => .bl (qInt d)]
        · simp
        · intro d hd
          simp [evWipe, whole_is (h'.2 d hd)]
      simp [g_are_numbers, dIsT_tuple h, qTup, e, dAll, bools_map, numsB]
  · have z : qTup d = false := notTup h fun l e => ht ⟨l, e⟩
    have z2 : numsB d = false := by cases d <;> first | rfl | exact absurd ⟨_, rfl⟩ ht
    simp [g_are_numbers, dIsT_tuple h, z, z2]
def betB (d : D) (lo hi : Int) : Bool := match d with
  | .int i => decide (lo ≤ i) && decide (i ≤ hi)
  | _ => false
theorem between_is {L k n : Nat} {d : D} {lo hi : Int} {st : Store} (h : Sh L k d) : fns (n + 2) .is_between [d, .int lo, .int hi] st = .ok (.bl (betB d lo hi)) st := by
  refine runF_ret ?_
  have w := fun st => whole_is (n := n) (st := st) h
  by_cases hi' : ∃ i, d = .int i
  · obtain ⟨i, rfl⟩ := hi'
    by_cases c1 : lo ≤ i <;> simp [g_is_between, w, qInt, betB, c1]
  · have z : qInt d = false := by cases d <;> first | rfl | exact absurd ⟨_, rfl⟩ hi'
    have z2 : betB d lo hi = false := by cases d <;> first | rfl | exact absurd ⟨_, rfl⟩ hi'
    simp [g_is_between, w, z, z2]
/-! ## the sorts of a word -/
def sortsOf (w : Str) : List Str :=
  if w = "sieve" ∨ w = "upto" then ["test", "plan"] else if w = "cut" ∨ w = "left" then ["far", "plan"] else if w = "chain" then ["some"] else if w = "beside" then ["more"] else if w = "wanted" then ["far", "word", "plan"] else
  if w = "list" then ["numbers"] else if w = "broken" then ["numbers", "word"] else if w = "count" then ["any", "any", "far"] else if w = "row" then ["row"] else if w = "turn" then ["rule", "plan"] else
  if w = "ahead" then ["plan"] else if w = "windows" then ["size", "size", "plan"] else if w = "marks" then ["by", "plan"] else if w = "spare" then ["plan", "plan"] else ["none"]
end K82
end

section
set_option Elab.async false
set_option linter.all false
set_option maxRecDepth 100000
set_option maxHeartbeats 1000000
namespace K82
open PySem L2 G
theorem sp_of {z : Str} {ys : List Str} (h : Txt.split z " " = ys) (h1 : z.length + 2 ≤ sizeLine) (h2 : ys.length ≤ sizeLine) (st : Store) : dSplit (.str z) (.str " ") st = some (.lst (ys.map D.str)) := by
  simp only [dSplit]
  rw [if_pos ⟨by decide +kernel, h1, by rw [h]; exact h2⟩, h]
theorem sp1 : ∀ st, dSplit (.str "numbers") (.str " ") st = some (.lst [.str "numbers"]) := sp_of (ys := ["numbers"]) (by decide +kernel) (by decide +kernel) (by decide)
theorem sp2 : ∀ st, dSplit (.str "numbers word") (.str " ") st = some (.lst [.str "numbers", .str "word"]) := sp_of (ys := ["numbers", "word"]) (by decide +kernel) (by decide +kernel) (by decide)
theorem sp3 : ∀ st, dSplit (.str "any any far") (.str " ") st = some (.lst [.str "any", .str "any", .str "far"]) := sp_of (ys := ["any", "any", "far"]) (by decide +kernel) (by decide +kernel) (by decide)
theorem sp4 : ∀ st, dSplit (.str "row") (.str " ") st = some (.lst [.str "row"]) := sp_of (ys := ["row"]) (by decide +kernel) (by decide +kernel) (by decide)
theorem sp5 : ∀ st, dSplit (.str "rule plan") (.str " ") st = some (.lst [.str "rule", .str "plan"]) := sp_of (ys := ["rule", "plan"]) (by decide +kernel) (by decide +kernel) (by decide)
theorem sp6 : ∀ st, dSplit (.str "plan") (.str " ") st = some (.lst [.str "plan"]) := sp_of (ys := ["plan"]) (by decide +kernel) (by decide +kernel) (by decide)
theorem sp7 : ∀ st, dSplit (.str "size size plan") (.str " ") st = some (.lst [.str "size", .str "size", .str "plan"]) := sp_of (ys := ["size", "size", "plan"]) (by decide +kernel) (by decide +kernel) (by decide)
theorem sp8 : ∀ st, dSplit (.str "by plan") (.str " ") st = some (.lst [.str "by", .str "plan"]) := sp_of (ys := ["by", "plan"]) (by decide +kernel) (by decide +kernel) (by decide)
theorem sp9 : ∀ st, dSplit (.str "plan plan") (.str " ") st = some (.lst [.str "plan", .str "plan"]) := sp_of (ys := ["plan", "plan"]) (by decide +kernel) (by decide +kernel) (by decide)
theorem sp0 : ∀ st, dSplit (.str "none") (.str " ") st = some (.lst [.str "none"]) := sp_of (ys := ["none"]) (by decide +kernel) (by decide +kernel) (by decide)
theorem valD_cons (k' k : Key) (d : D) (l : List (Key × D)) : valD ((k', d) :: l) k = if k' = k then some d else valD l k := by
  unfold valD
  by_cases h : k' = k <;> simp [h]
theorem valD_nil (k : Key) : valD [] k = none := rfl
theorem isW_dec (w x : Str) : isW (.str w) x = decide (w = x) := by
  simp only [isW]
  by_cases h : w = x
  · subst h; simp
  · simp [h]
theorem sorts_are {n L k : Nat} {w : Str} {st : Store} (h : Sh L k (.str w)) : ∃ ext, fns (n + 1) .l_sorts [.str w] st = .ok (.lst ((sortsOf w).map D.str)) (st ++ ext) := by
  have h0 : Sh L 0 (.str w) := by simpa only [Sh] using h
  have f1 : ∀ st, dIn (.str w) (.tup [.str "sieve", .str "upto"]) st = some (.bl (decide (w = "sieve" ∨ w = "upto"))) := fun st => by
    rw [dIn_2 h0 (by decide) (by decide +kernel), isW_dec, isW_dec, Bool.decide_or]
  have f2 : ∀ st, dIn (.str w) (.tup [.str "cut", .str "left"]) st = some (.bl (decide (w = "cut" ∨ w = "left"))) := fun st => by
    rw [dIn_2 h0 (by decide) (by decide +kernel), isW_dec, isW_dec, Bool.decide_or]
  have f3 : ∀ st, dIn (.str w) (.tup [.str "chain", .str "beside"]) st = some (.bl (decide (w = "chain" ∨ w = "beside"))) := fun st => by
    rw [dIn_2 h0 (by decide) (by decide +kernel), isW_dec, isW_dec, Bool.decide_or]
  have f4 : ∀ st, dEq (.str w) (.str "beside") st = some (.bl (decide (w = "beside"))) := fun st => by
    rw [dEq_w h0 (by decide) (by decide +kernel), isW_dec]
  have f5 : ∀ st, dEq (.str w) (.str "wanted") st = some (.bl (decide (w = "wanted"))) := fun st => by
    rw [dEq_w h0 (by decide) (by decide +kernel), isW_dec]
  let T1 : List (Key × D) := [(.inr "list", .str "numbers"), (.inr "broken", .str "numbers word"), (.inr "count", .str "any any far"), (.inr "row", .str "row"), (.inr "turn", .str "rule plan")]
  let T2 : List (Key × D) := [(.inr "ahead", .str "plan"), (.inr "windows", .str "size size plan"), (.inr "marks", .str "by plan"), (.inr "spare", .str "plan plan")]
  by_cases h1 : w = "sieve" ∨ w = "upto"
  · exact ⟨[.dct T1], runF_ret (by simp [g_l_sorts, f1, h1, sortsOf, T1])⟩
  by_cases h2 : w = "cut" ∨ w = "left"
  · exact ⟨[.dct T1], runF_ret (by simp [g_l_sorts, f1, h1, f2, h2, sortsOf, T1])⟩
  by_cases h3 : w = "chain"
  · have h3' : ¬ w = "beside" := by subst h3; decide +kernel
    have h3'' : w = "chain" ∨ w = "beside" := .inl h3
    have so : sortsOf w = (["some"] : List Str) := by unfold sortsOf; rw [if_neg h1, if_neg h2, if_pos h3]
    have f3c := fun st => (f3 st).trans (by rw [decide_eq_true h3''])
    have f4c := fun st => (f4 st).trans (by rw [decide_eq_false h3'])
    exact ⟨[.dct T1], runF_ret (by rw [so]; simp [g_l_sorts, f1, h1, f2, h2, f3c, f4c, dIntB, T1])⟩
  by_cases h4 : w = "beside"
  · have h3'' : w = "chain" ∨ w = "beside" := .inr h4
    have so : sortsOf w = (["more"] : List Str) := by unfold sortsOf; rw [if_neg h1, if_neg h2, if_neg h3, if_pos h4]
    have f3c := fun st => (f3 st).trans (by rw [decide_eq_true h3''])
    have f4c := fun st => (f4 st).trans (by rw [decide_eq_true h4])
    exact ⟨[.dct T1], runF_ret (by rw [so]; simp [g_l_sorts, f1, h1, f2, h2, f3c, f4c, dIntB, T1])⟩
  have h34 : ¬ (w = "chain" ∨ w = "beside") := fun z => z.elim h3 h4
  have f1c := fun st => (f1 st).trans (by rw [decide_eq_false h1])
  have f2c := fun st => (f2 st).trans (by rw [decide_eq_false h2])
  have f3c := fun st => (f3 st).trans (by rw [decide_eq_false h34])
  by_cases h5 : w = "wanted"
  · have so : sortsOf w = (["far", "word", "plan"] : List Str) := by unfold sortsOf; rw [if_neg h1, if_neg h2, if_neg h3, if_neg h4, if_pos h5]
    have f5c := fun st => (f5 st).trans (by rw [decide_eq_true h5])
    exact ⟨[.dct T1, .dct T2], runF_ret (by rw [so]; simp [g_l_sorts, f1c, f2c, f3c, f5c, T1, T2])⟩
  have f5c := fun st => (f5 st).trans (by rw [decide_eq_false h5])
  have c1 : chkD (.cell st.length) (st ++ [.dct T1, .dct T2]) = .ok () (st ++ [.dct T1, .dct T2]) := by simp [chkD, isDct]
  have c2 : chkD (.cell (st.length + 1)) (st ++ [.dct T1, .dct T2]) = .ok () (st ++ [.dct T1, .dct T2]) := by simp [chkD, isDct]
  have g1 : ∀ z, dGet2 (.cell st.length) (.str w) z (st ++ [.dct T1, .dct T2]) = some ((valD T1 (.inr w)).getD z) := fun z => by simp [dGet2, keyOf]
  have g2 : ∀ z, dGet2 (.cell (st.length + 1)) (.str w) z (st ++ [.dct T1, .dct T2]) = some ((valD T2 (.inr w)).getD z) := fun z => by simp [dGet2, keyOf]
  have fin : ∀ (y : Str) (l : List Str), (valD T1 (.inr w)).getD ((valD T2 (.inr w)).getD (.str "none")) = .str y → (∀ st, dSplit (.str y) (.str " ") st = some (.lst (l.map D.str))) → sortsOf w = l → ∃ ext, fns (n + 1) .l_sorts [.str w] st = .ok (.lst ((sortsOf w).map D.str)) (st ++ ext) := by
    intro y l hy hsp so
    refine ⟨[.dct T1, .dct T2], runF_ret ?_⟩
    rw [so]
    simp only [T1, T2] at c1 c2 g1 g2 hy
    simp [g_l_sorts, f1c, f2c, f3c, f5c, T1, T2, c1, c2, g1, g2, hy, hsp]
  by_cases q1 : w = "list"
  · subst q1; exact fin "numbers" ["numbers"] rfl sp1 (by decide +kernel)
  by_cases q2 : w = "broken"
  · subst q2; exact fin "numbers word" ["numbers", "word"] rfl sp2 (by decide +kernel)
  by_cases q3 : w = "count"
  · subst q3; exact fin "any any far" ["any", "any", "far"] rfl sp3 (by decide +kernel)
  by_cases q4 : w = "row"
  · subst q4; exact fin "row" ["row"] rfl sp4 (by decide +kernel)
  by_cases q5 : w = "turn"
  · subst q5; exact fin "rule plan" ["rule", "plan"] rfl sp5 (by decide +kernel)
  by_cases q6 : w = "ahead"
  · subst q6; exact fin "plan" ["plan"] rfl sp6 (by decide +kernel)
  by_cases q7 : w = "windows"
  · subst q7; exact fin "size size plan" ["size", "size", "plan"] rfl sp7 (by decide +kernel)
  by_cases q8 : w = "marks"
  · subst q8; exact fin "by plan" ["by", "plan"] rfl sp8 (by decide +kernel)
  by_cases q9 : w = "spare"
  · subst q9; exact fin "plan plan" ["plan", "plan"] rfl sp9 (by decide +kernel)
  refine fin "none" ["none"] ?_ sp0 ?_
  · have e1 : valD T1 (.inr w) = none := by
      simp only [T1, valD_cons, valD_nil, Sum.inr.injEq]
      rw [if_neg (Ne.symm q1), if_neg (Ne.symm q2), if_neg (Ne.symm q3), if_neg (Ne.symm q4), if_neg (Ne.symm q5)]
    have e2 : valD T2 (.inr w) = none := by
      simp only [T2, valD_cons, valD_nil, Sum.inr.injEq]
      rw [if_neg (Ne.symm q6), if_neg (Ne.symm q7), if_neg (Ne.symm q8), if_neg (Ne.symm q9)]
    rw [e1, e2]
    rfl
  · unfold sortsOf
    rw [if_neg h1, if_neg h2, if_neg h3, if_neg h4, if_neg h5, if_neg q1, if_neg q2, if_neg q3, if_neg q4, if_neg q5, if_neg q6, if_neg q7, if_neg q8, if_neg q9]
end K82
end

section
set_option Elab.async false
set_option linter.all false
set_option maxRecDepth 100000
set_option maxHeartbeats 1000000
namespace K82
open PySem L2 G
theorem we (x y : Str) (b : Bool) (h : (x == y) = b) (hx : PyData.strOk x = true ∧ x.length ≤ 100) (hy : PyData.strOk y = true) (st : Store) : dEq (.str x) (.str y) st = some (.bl b) := by
  have s : Sh 0 0 (.str x) := by simpa only [Sh] using hx
  rw [dEq_w s (by decide) hy]
  simp only [isW, h]
theorem wi (x : Str) (ys : List Str) (b : Bool) (h : (ys.any fun y => isW (.str x) y) = b) (hx : PyData.strOk x = true ∧ x.length ≤ 100) (hy : ys.all PyData.strOk = true) (st : Store) : dIn (.str x) (.tup (ys.map D.str)) st = some (.bl b) := by
  have s : Sh 0 0 (.str x) := by simpa only [Sh] using hx
  have e := inD_strs s (by decide) hy
  rw [h] at e
  simp only [dIn, e, Option.map_some]
@[simp] theorem q_plan_plan (st : Store) : dEq (.str "plan") (.str "plan") st = some (.bl true) := we _ _ _ (by decide +kernel) (by decide +kernel) (by decide +kernel) st
@[simp] theorem q_plan_rule (st : Store) : dEq (.str "plan") (.str "rule") st = some (.bl false) := we _ _ _ (by decide +kernel) (by decide +kernel) (by decide +kernel) st
@[simp] theorem q_plan_test (st : Store) : dEq (.str "plan") (.str "test") st = some (.bl false) := we _ _ _ (by decide +kernel) (by decide +kernel) (by decide +kernel) st
@[simp] theorem q_plan_word (st : Store) : dEq (.str "plan") (.str "word") st = some (.bl false) := we _ _ _ (by decide +kernel) (by decide +kernel) (by decide +kernel) st
@[simp] theorem q_plan_numbers (st : Store) : dEq (.str "plan") (.str "numbers") st = some (.bl false) := we _ _ _ (by decide +kernel) (by decide +kernel) (by decide +kernel) st
@[simp] theorem q_plan_more (st : Store) : dEq (.str "plan") (.str "more") st = some (.bl false) := we _ _ _ (by decide +kernel) (by decide +kernel) (by decide +kernel) st
@[simp] theorem q_plan_any (st : Store) : dEq (.str "plan") (.str "any") st = some (.bl false) := we _ _ _ (by decide +kernel) (by decide +kernel) (by decide +kernel) st
@[simp] theorem q_plan_by (st : Store) : dEq (.str "plan") (.str "by") st = some (.bl false) := we _ _ _ (by decide +kernel) (by decide +kernel) (by decide +kernel) st
@[simp] theorem i_plan_nsm (st : Store) : dIn (.str "plan") (.tup [.str "numbers", .str "some", .str "more"]) st = some (.bl false) := wi "plan" ["numbers", "some", "more"] _ (by decide +kernel) (by decide +kernel) (by decide +kernel) st
@[simp] theorem q_rule_plan (st : Store) : dEq (.str "rule") (.str "plan") st = some (.bl false) := we _ _ _ (by decide +kernel) (by decide +kernel) (by decide +kernel) st
@[simp] theorem q_rule_rule (st : Store) : dEq (.str "rule") (.str "rule") st = some (.bl true) := we _ _ _ (by decide +kernel) (by decide +kernel) (by decide +kernel) st
@[simp] theorem q_rule_test (st : Store) : dEq (.str "rule") (.str "test") st = some (.bl false) := we _ _ _ (by decide +kernel) (by decide +kernel) (by decide +kernel) st
@[simp] theorem q_rule_word (st : Store) : dEq (.str "rule") (.str "word") st = some (.bl false) := we _ _ _ (by decide +kernel) (by decide +kernel) (by decide +kernel) st
@[simp] theorem q_rule_numbers (st : Store) : dEq (.str "rule") (.str "numbers") st = some (.bl false) := we _ _ _ (by decide +kernel) (by decide +kernel) (by decide +kernel) st
@[simp] theorem q_rule_more (st : Store) : dEq (.str "rule") (.str "more") st = some (.bl false) := we _ _ _ (by decide +kernel) (by decide +kernel) (by decide +kernel) st
@[simp] theorem q_rule_any (st : Store) : dEq (.str "rule") (.str "any") st = some (.bl false) := we _ _ _ (by decide +kernel) (by decide +kernel) (by decide +kernel) st
@[simp] theorem q_rule_by (st : Store) : dEq (.str "rule") (.str "by") st = some (.bl false) := we _ _ _ (by decide +kernel) (by decide +kernel) (by decide +kernel) st
@[simp] theorem i_rule_nsm (st : Store) : dIn (.str "rule") (.tup [.str "numbers", .str "some", .str "more"]) st = some (.bl false) := wi "rule" ["numbers", "some", "more"] _ (by decide +kernel) (by decide +kernel) (by decide +kernel) st
@[simp] theorem q_test_plan (st : Store) : dEq (.str "test") (.str "plan") st = some (.bl false) := we _ _ _ (by decide +kernel) (by decide +kernel) (by decide +kernel) st
@[simp] theorem q_test_rule (st : Store) : dEq (.str "test") (.str "rule") st = some (.bl false) := we _ _ _ (by decide +kernel) (by decide +kernel) (by decide +kernel) st
@[simp] theorem q_test_test (st : Store) : dEq (.str "test") (.str "test") st = some (.bl true) := we _ _ _ (by decide +kernel) (by decide +kernel) (by decide +kernel) st
@[simp] theorem q_test_word (st : Store) : dEq (.str "test") (.str "word") st = some (.bl false) := we _ _ _ (by decide +kernel) (by decide +kernel) (by decide +kernel) st
@[simp] theorem q_test_numbers (st : Store) : dEq (.str "test") (.str "numbers") st = some (.bl false) := we _ _ _ (by decide +kernel) (by decide +kernel) (by decide +kernel) st
@[simp] theorem q_test_more (st : Store) : dEq (.str "test") (.str "more") st = some (.bl false) := we _ _ _ (by decide +kernel) (by decide +kernel) (by decide +kernel) st
@[simp] theorem q_test_any (st : Store) : dEq (.str "test") (.str "any") st = some (.bl false) := we _ _ _ (by decide +kernel) (by decide +kernel) (by decide +kernel) st
@[simp] theorem q_test_by (st : Store) : dEq (.str "test") (.str "by") st = some (.bl false) := we _ _ _ (by decide +kernel) (by decide +kernel) (by decide +kernel) st
@[simp] theorem i_test_nsm (st : Store) : dIn (.str "test") (.tup [.str "numbers", .str "some", .str "more"]) st = some (.bl false) := wi "test" ["numbers", "some", "more"] _ (by decide +kernel) (by decide +kernel) (by decide +kernel) st
@[simp] theorem q_word_plan (st : Store) : dEq (.str "word") (.str "plan") st = some (.bl false) := we _ _ _ (by decide +kernel) (by decide +kernel) (by decide +kernel) st
@[simp] theorem q_word_rule (st : Store) : dEq (.str "word") (.str "rule") st = some (.bl false) := we _ _ _ (by decide +kernel) (by decide +kernel) (by decide +kernel) st
@[simp] theorem q_word_test (st : Store) : dEq (.str "word") (.str "test") st = some (.bl false) := we _ _ _ (by decide +kernel) (by decide +kernel) (by decide +kernel) st
@[simp] theorem q_word_word (st : Store) : dEq (.str "word") (.str "word") st = some (.bl true) := we _ _ _ (by decide +kernel) (by decide +kernel) (by decide +kernel) st
@[simp] theorem q_word_numbers (st : Store) : dEq (.str "word") (.str "numbers") st = some (.bl false) := we _ _ _ (by decide +kernel) (by decide +kernel) (by decide +kernel) st
@[simp] theorem q_word_more (st : Store) : dEq (.str "word") (.str "more") st = some (.bl false) := we _ _ _ (by decide +kernel) (by decide +kernel) (by decide +kernel) st
@[simp] theorem q_word_any (st : Store) : dEq (.str "word") (.str "any") st = some (.bl false) := we _ _ _ (by decide +kernel) (by decide +kernel) (by decide +kernel) st
@[simp] theorem q_word_by (st : Store) : dEq (.str "word") (.str "by") st = some (.bl false) := we _ _ _ (by decide +kernel) (by decide +kernel) (by decide +kernel) st
@[simp] theorem i_word_nsm (st : Store) : dIn (.str "word") (.tup [.str "numbers", .str "some", .str "more"]) st = some (.bl false) := wi "word" ["numbers", "some", "more"] _ (by decide +kernel) (by decide +kernel) (by decide +kernel) st
@[simp] theorem q_numbers_plan (st : Store) : dEq (.str "numbers") (.str "plan") st = some (.bl false) := we _ _ _ (by decide +kernel) (by decide +kernel) (by decide +kernel) st
@[simp] theorem q_numbers_rule (st : Store) : dEq (.str "numbers") (.str "rule") st = some (.bl false) := we _ _ _ (by decide +kernel) (by decide +kernel) (by decide +kernel) st
@[simp] theorem q_numbers_test (st : Store) : dEq (.str "numbers") (.str "test") st = some (.bl false) := we _ _ _ (by decide +kernel) (by decide +kernel) (by decide +kernel) st
@[simp] theorem q_numbers_word (st : Store) : dEq (.str "numbers") (.str "word") st = some (.bl false) := we _ _ _ (by decide +kernel) (by decide +kernel) (by decide +kernel) st
@[simp] theorem q_numbers_numbers (st : Store) : dEq (.str "numbers") (.str "numbers") st = some (.bl true) := we _ _ _ (by decide +kernel) (by decide +kernel) (by decide +kernel) st
@[simp] theorem q_numbers_more (st : Store) : dEq (.str "numbers") (.str "more") st = some (.bl false) := we _ _ _ (by decide +kernel) (by decide +kernel) (by decide +kernel) st
@[simp] theorem q_numbers_any (st : Store) : dEq (.str "numbers") (.str "any") st = some (.bl false) := we _ _ _ (by decide +kernel) (by decide +kernel) (by decide +kernel) st
@[simp] theorem q_numbers_by (st : Store) : dEq (.str "numbers") (.str "by") st = some (.bl false) := we _ _ _ (by decide +kernel) (by decide +kernel) (by decide +kernel) st
@[simp] theorem i_numbers_nsm (st : Store) : dIn (.str "numbers") (.tup [.str "numbers", .str "some", .str "more"]) st = some (.bl true) := wi "numbers" ["numbers", "some", "more"] _ (by decide +kernel) (by decide +kernel) (by decide +kernel) st
@[simp] theorem q_some_plan (st : Store) : dEq (.str "some") (.str "plan") st = some (.bl false) := we _ _ _ (by decide +kernel) (by decide +kernel) (by decide +kernel) st
@[simp] theorem q_some_rule (st : Store) : dEq (.str "some") (.str "rule") st = some (.bl false) := we _ _ _ (by decide +kernel) (by decide +kernel) (by decide +kernel) st
@[simp] theorem q_some_test (st : Store) : dEq (.str "some") (.str "test") st = some (.bl false) := we _ _ _ (by decide +kernel) (by decide +kernel) (by decide +kernel) st
@[simp] theorem q_some_word (st : Store) : dEq (.str "some") (.str "word") st = some (.bl false) := we _ _ _ (by decide +kernel) (by decide +kernel) (by decide +kernel) st
@[simp] theorem q_some_numbers (st : Store) : dEq (.str "some") (.str "numbers") st = some (.bl false) := we _ _ _ (by decide +kernel) (by decide +kernel) (by decide +kernel) st
@[simp] theorem q_some_more (st : Store) : dEq (.str "some") (.str "more") st = some (.bl false) := we _ _ _ (by decide +kernel) (by decide +kernel) (by decide +kernel) st
@[simp] theorem q_some_any (st : Store) : dEq (.str "some") (.str "any") st = some (.bl false) := we _ _ _ (by decide +kernel) (by decide +kernel) (by decide +kernel) st
@[simp] theorem q_some_by (st : Store) : dEq (.str "some") (.str "by") st = some (.bl false) := we _ _ _ (by decide +kernel) (by decide +kernel) (by decide +kernel) st
@[simp] theorem i_some_nsm (st : Store) : dIn (.str "some") (.tup [.str "numbers", .str "some", .str "more"]) st = some (.bl true) := wi "some" ["numbers", "some", "more"] _ (by decide +kernel) (by decide +kernel) (by decide +kernel) st
@[simp] theorem q_more_plan (st : Store) : dEq (.str "more") (.str "plan") st = some (.bl false) := we _ _ _ (by decide +kernel) (by decide +kernel) (by decide +kernel) st
@[simp] theorem q_more_rule (st : Store) : dEq (.str "more") (.str "rule") st = some (.bl false) := we _ _ _ (by decide +kernel) (by decide +kernel) (by decide +kernel) st
@[simp] theorem q_more_test (st : Store) : dEq (.str "more") (.str "test") st = some (.bl false) := we _ _ _ (by decide +kernel) (by decide +kernel) (by decide +kernel) st
@[simp] theorem q_more_word (st : Store) : dEq (.str "more") (.str "word") st = some (.bl false) := we _ _ _ (by decide +kernel) (by decide +kernel) (by decide +kernel) st
@[simp] theorem q_more_numbers (st : Store) : dEq (.str "more") (.str "numbers") st = some (.bl false) := we _ _ _ (by decide +kernel) (by decide +kernel) (by decide +kernel) st
@[simp] theorem q_more_more (st : Store) : dEq (.str "more") (.str "more") st = some (.bl true) := we _ _ _ (by decide +kernel) (by decide +kernel) (by decide +kernel) st
@[simp] theorem q_more_any (st : Store) : dEq (.str "more") (.str "any") st = some (.bl false) := we _ _ _ (by decide +kernel) (by decide +kernel) (by decide +kernel) st
@[simp] theorem q_more_by (st : Store) : dEq (.str "more") (.str "by") st = some (.bl false) := we _ _ _ (by decide +kernel) (by decide +kernel) (by decide +kernel) st
@[simp] theorem i_more_nsm (st : Store) : dIn (.str "more") (.tup [.str "numbers", .str "some", .str "more"]) st = some (.bl true) := wi "more" ["numbers", "some", "more"] _ (by decide +kernel) (by decide +kernel) (by decide +kernel) st
@[simp] theorem q_any_plan (st : Store) : dEq (.str "any") (.str "plan") st = some (.bl false) := we _ _ _ (by decide +kernel) (by decide +kernel) (by decide +kernel) st
@[simp] theorem q_any_rule (st : Store) : dEq (.str "any") (.str "rule") st = some (.bl false) := we _ _ _ (by decide +kernel) (by decide +kernel) (by decide +kernel) st
@[simp] theorem q_any_test (st : Store) : dEq (.str "any") (.str "test") st = some (.bl false) := we _ _ _ (by decide +kernel) (by decide +kernel) (by decide +kernel) st
@[simp] theorem q_any_word (st : Store) : dEq (.str "any") (.str "word") st = some (.bl false) := we _ _ _ (by decide +kernel) (by decide +kernel) (by decide +kernel) st
@[simp] theorem q_any_numbers (st : Store) : dEq (.str "any") (.str "numbers") st = some (.bl false) := we _ _ _ (by decide +kernel) (by decide +kernel) (by decide +kernel) st
@[simp] theorem q_any_more (st : Store) : dEq (.str "any") (.str "more") st = some (.bl false) := we _ _ _ (by decide +kernel) (by decide +kernel) (by decide +kernel) st
@[simp] theorem q_any_any (st : Store) : dEq (.str "any") (.str "any") st = some (.bl true) := we _ _ _ (by decide +kernel) (by decide +kernel) (by decide +kernel) st
@[simp] theorem q_any_by (st : Store) : dEq (.str "any") (.str "by") st = some (.bl false) := we _ _ _ (by decide +kernel) (by decide +kernel) (by decide +kernel) st
@[simp] theorem i_any_nsm (st : Store) : dIn (.str "any") (.tup [.str "numbers", .str "some", .str "more"]) st = some (.bl false) := wi "any" ["numbers", "some", "more"] _ (by decide +kernel) (by decide +kernel) (by decide +kernel) st
@[simp] theorem q_by_plan (st : Store) : dEq (.str "by") (.str "plan") st = some (.bl false) := we _ _ _ (by decide +kernel) (by decide +kernel) (by decide +kernel) st
@[simp] theorem q_by_rule (st : Store) : dEq (.str "by") (.str "rule") st = some (.bl false) := we _ _ _ (by decide +kernel) (by decide +kernel) (by decide +kernel) st
@[simp] theorem q_by_test (st : Store) : dEq (.str "by") (.str "test") st = some (.bl false) := we _ _ _ (by decide +kernel) (by decide +kernel) (by decide +kernel) st
@[simp] theorem q_by_word (st : Store) : dEq (.str "by") (.str "word") st = some (.bl false) := we _ _ _ (by decide +kernel) (by decide +kernel) (by decide +kernel) st
@[simp] theorem q_by_numbers (st : Store) : dEq (.str "by") (.str "numbers") st = some (.bl false) := we _ _ _ (by decide +kernel) (by decide +kernel) (by decide +kernel) st
@[simp] theorem q_by_more (st : Store) : dEq (.str "by") (.str "more") st = some (.bl false) := we _ _ _ (by decide +kernel) (by decide +kernel) (by decide +kernel) st
@[simp] theorem q_by_any (st : Store) : dEq (.str "by") (.str "any") st = some (.bl false) := we _ _ _ (by decide +kernel) (by decide +kernel) (by decide +kernel) st
@[simp] theorem q_by_by (st : Store) : dEq (.str "by") (.str "by") st = some (.bl true) := we _ _ _ (by decide +kernel) (by decide +kernel) (by decide +kernel) st
@[simp] theorem i_by_nsm (st : Store) : dIn (.str "by") (.tup [.str "numbers", .str "some", .str "more"]) st = some (.bl false) := wi "by" ["numbers", "some", "more"] _ (by decide +kernel) (by decide +kernel) (by decide +kernel) st
@[simp] theorem q_far_plan (st : Store) : dEq (.str "far") (.str "plan") st = some (.bl false) := we _ _ _ (by decide +kernel) (by decide +kernel) (by decide +kernel) st
@[simp] theorem q_far_rule (st : Store) : dEq (.str "far") (.str "rule") st = some (.bl false) := we _ _ _ (by decide +kernel) (by decide +kernel) (by decide +kernel) st
@[simp] theorem q_far_test (st : Store) : dEq (.str "far") (.str "test") st = some (.bl false) := we _ _ _ (by decide +kernel) (by decide +kernel) (by decide +kernel) st
@[simp] theorem q_far_word (st : Store) : dEq (.str "far") (.str "word") st = some (.bl false) := we _ _ _ (by decide +kernel) (by decide +kernel) (by decide +kernel) st
@[simp] theorem q_far_numbers (st : Store) : dEq (.str "far") (.str "numbers") st = some (.bl false) := we _ _ _ (by decide +kernel) (by decide +kernel) (by decide +kernel) st
@[simp] theorem q_far_more (st : Store) : dEq (.str "far") (.str "more") st = some (.bl false) := we _ _ _ (by decide +kernel) (by decide +kernel) (by decide +kernel) st
@[simp] theorem q_far_any (st : Store) : dEq (.str "far") (.str "any") st = some (.bl false) := we _ _ _ (by decide +kernel) (by decide +kernel) (by decide +kernel) st
@[simp] theorem q_far_by (st : Store) : dEq (.str "far") (.str "by") st = some (.bl false) := we _ _ _ (by decide +kernel) (by decide +kernel) (by decide +kernel) st
@[simp] theorem i_far_nsm (st : Store) : dIn (.str "far") (.tup [.str "numbers", .str "some", .str "more"]) st = some (.bl false) := wi "far" ["numbers", "some", "more"] _ (by decide +kernel) (by decide +kernel) (by decide +kernel) st
@[simp] theorem q_row_plan (st : Store) : dEq (.str "row") (.str "plan") st = some (.bl false) := we _ _ _ (by decide +kernel) (by decide +kernel) (by decide +kernel) st
@[simp] theorem q_row_rule (st : Store) : dEq (.str "row") (.str "rule") st = some (.bl false) := we _ _ _ (by decide +kernel) (by decide +kernel) (by decide +kernel) st
@[simp] theorem q_row_test (st : Store) : dEq (.str "row") (.str "test") st = some (.bl false) := we _ _ _ (by decide +kernel) (by decide +kernel) (by decide +kernel) st
@[simp] theorem q_row_word (st : Store) : dEq (.str "row") (.str "word") st = some (.bl false) := we _ _ _ (by decide +kernel) (by decide +kernel) (by decide +kernel) st
@[simp] theorem q_row_numbers (st : Store) : dEq (.str "row") (.str "numbers") st = some (.bl false) := we _ _ _ (by decide +kernel) (by decide +kernel) (by decide +kernel) st
@[simp] theorem q_row_more (st : Store) : dEq (.str "row") (.str "more") st = some (.bl false) := we _ _ _ (by decide +kernel) (by decide +kernel) (by decide +kernel) st
@[simp] theorem q_row_any (st : Store) : dEq (.str "row") (.str "any") st = some (.bl false) := we _ _ _ (by decide +kernel) (by decide +kernel) (by decide +kernel) st
@[simp] theorem q_row_by (st : Store) : dEq (.str "row") (.str "by") st = some (.bl false) := we _ _ _ (by decide +kernel) (by decide +kernel) (by decide +kernel) st
@[simp] theorem i_row_nsm (st : Store) : dIn (.str "row") (.tup [.str "numbers", .str "some", .str "more"]) st = some (.bl false) := wi "row" ["numbers", "some", "more"] _ (by decide +kernel) (by decide +kernel) (by decide +kernel) st
@[simp] theorem q_size_plan (st : Store) : dEq (.str "size") (.str "plan") st = some (.bl false) := we _ _ _ (by decide +kernel) (by decide +kernel) (by decide +kernel) st
@[simp] theorem q_size_rule (st : Store) : dEq (.str "size") (.str "rule") st = some (.bl false) := we _ _ _ (by decide +kernel) (by decide +kernel) (by decide +kernel) st
@[simp] theorem q_size_test (st : Store) : dEq (.str "size") (.str "test") st = some (.bl false) := we _ _ _ (by decide +kernel) (by decide +kernel) (by decide +kernel) st
@[simp] theorem q_size_word (st : Store) : dEq (.str "size") (.str "word") st = some (.bl false) := we _ _ _ (by decide +kernel) (by decide +kernel) (by decide +kernel) st
@[simp] theorem q_size_numbers (st : Store) : dEq (.str "size") (.str "numbers") st = some (.bl false) := we _ _ _ (by decide +kernel) (by decide +kernel) (by decide +kernel) st
@[simp] theorem q_size_more (st : Store) : dEq (.str "size") (.str "more") st = some (.bl false) := we _ _ _ (by decide +kernel) (by decide +kernel) (by decide +kernel) st
@[simp] theorem q_size_any (st : Store) : dEq (.str "size") (.str "any") st = some (.bl false) := we _ _ _ (by decide +kernel) (by decide +kernel) (by decide +kernel) st
@[simp] theorem q_size_by (st : Store) : dEq (.str "size") (.str "by") st = some (.bl false) := we _ _ _ (by decide +kernel) (by decide +kernel) (by decide +kernel) st
@[simp] theorem i_size_nsm (st : Store) : dIn (.str "size") (.tup [.str "numbers", .str "some", .str "more"]) st = some (.bl false) := wi "size" ["numbers", "some", "more"] _ (by decide +kernel) (by decide +kernel) (by decide +kernel) st
@[simp] theorem q_list_list (st : Store) : dEq (.str "list") (.str "list") st = some (.bl true) := we _ _ _ (by decide +kernel) (by decide +kernel) (by decide +kernel) st
@[simp] theorem q_list_broken (st : Store) : dEq (.str "list") (.str "broken") st = some (.bl false) := we _ _ _ (by decide +kernel) (by decide +kernel) (by decide +kernel) st
@[simp] theorem q_list_row (st : Store) : dEq (.str "list") (.str "row") st = some (.bl false) := we _ _ _ (by decide +kernel) (by decide +kernel) (by decide +kernel) st
@[simp] theorem q_list_ahead (st : Store) : dEq (.str "list") (.str "ahead") st = some (.bl false) := we _ _ _ (by decide +kernel) (by decide +kernel) (by decide +kernel) st
@[simp] theorem q_list_windows (st : Store) : dEq (.str "list") (.str "windows") st = some (.bl false) := we _ _ _ (by decide +kernel) (by decide +kernel) (by decide +kernel) st
@[simp] theorem q_list_wanted (st : Store) : dEq (.str "list") (.str "wanted") st = some (.bl false) := we _ _ _ (by decide +kernel) (by decide +kernel) (by decide +kernel) st
@[simp] theorem q_list_turn (st : Store) : dEq (.str "list") (.str "turn") st = some (.bl false) := we _ _ _ (by decide +kernel) (by decide +kernel) (by decide +kernel) st
@[simp] theorem q_list_marks (st : Store) : dEq (.str "list") (.str "marks") st = some (.bl false) := we _ _ _ (by decide +kernel) (by decide +kernel) (by decide +kernel) st
@[simp] theorem q_list_spare (st : Store) : dEq (.str "list") (.str "spare") st = some (.bl false) := we _ _ _ (by decide +kernel) (by decide +kernel) (by decide +kernel) st
@[simp] theorem q_list_chain (st : Store) : dEq (.str "list") (.str "chain") st = some (.bl false) := we _ _ _ (by decide +kernel) (by decide +kernel) (by decide +kernel) st
@[simp] theorem i_list_leaf (st : Store) : dIn (.str "list") (.tup [.str "list", .str "broken", .str "count", .str "row"]) st = some (.bl true) := wi "list" ["list", "broken", "count", "row"] _ (by decide +kernel) (by decide +kernel) (by decide +kernel) st
@[simp] theorem i_list_join (st : Store) : dIn (.str "list") (.tup [.str "chain", .str "beside"]) st = some (.bl false) := wi "list" ["chain", "beside"] _ (by decide +kernel) (by decide +kernel) (by decide +kernel) st
@[simp] theorem i_list_su (st : Store) : dIn (.str "list") (.tup [.str "sieve", .str "upto"]) st = some (.bl false) := wi "list" ["sieve", "upto"] _ (by decide +kernel) (by decide +kernel) (by decide +kernel) st
@[simp] theorem i_list_cl (st : Store) : dIn (.str "list") (.tup [.str "cut", .str "left"]) st = some (.bl false) := wi "list" ["cut", "left"] _ (by decide +kernel) (by decide +kernel) (by decide +kernel) st
@[simp] theorem q_broken_list (st : Store) : dEq (.str "broken") (.str "list") st = some (.bl false) := we _ _ _ (by decide +kernel) (by decide +kernel) (by decide +kernel) st
@[simp] theorem q_broken_broken (st : Store) : dEq (.str "broken") (.str "broken") st = some (.bl true) := we _ _ _ (by decide +kernel) (by decide +kernel) (by decide +kernel) st
@[simp] theorem q_broken_row (st : Store) : dEq (.str "broken") (.str "row") st = some (.bl false) := we _ _ _ (by decide +kernel) (by decide +kernel) (by decide +kernel) st
@[simp] theorem q_broken_ahead (st : Store) : dEq (.str "broken") (.str "ahead") st = some (.bl false) := we _ _ _ (by decide +kernel) (by decide +kernel) (by decide +kernel) st
@[simp] theorem q_broken_windows (st : Store) : dEq (.str "broken") (.str "windows") st = some (.bl false) := we _ _ _ (by decide +kernel) (by decide +kernel) (by decide +kernel) st
@[simp] theorem q_broken_wanted (st : Store) : dEq (.str "broken") (.str "wanted") st = some (.bl false) := we _ _ _ (by decide +kernel) (by decide +kernel) (by decide +kernel) st
@[simp] theorem q_broken_turn (st : Store) : dEq (.str "broken") (.str "turn") st = some (.bl false) := we _ _ _ (by decide +kernel) (by decide +kernel) (by decide +kernel) st
@[simp] theorem q_broken_marks (st : Store) : dEq (.str "broken") (.str "marks") st = some (.bl false) := we _ _ _ (by decide +kernel) (by decide +kernel) (by decide +kernel) st
@[simp] theorem q_broken_spare (st : Store) : dEq (.str "broken") (.str "spare") st = some (.bl false) := we _ _ _ (by decide +kernel) (by decide +kernel) (by decide +kernel) st
@[simp] theorem q_broken_chain (st : Store) : dEq (.str "broken") (.str "chain") st = some (.bl false) := we _ _ _ (by decide +kernel) (by decide +kernel) (by decide +kernel) st
@[simp] theorem i_broken_leaf (st : Store) : dIn (.str "broken") (.tup [.str "list", .str "broken", .str "count", .str "row"]) st = some (.bl true) := wi "broken" ["list", "broken", "count", "row"] _ (by decide +kernel) (by decide +kernel) (by decide +kernel) st
@[simp] theorem i_broken_join (st : Store) : dIn (.str "broken") (.tup [.str "chain", .str "beside"]) st = some (.bl false) := wi "broken" ["chain", "beside"] _ (by decide +kernel) (by decide +kernel) (by decide +kernel) st
@[simp] theorem i_broken_su (st : Store) : dIn (.str "broken") (.tup [.str "sieve", .str "upto"]) st = some (.bl false) := wi "broken" ["sieve", "upto"] _ (by decide +kernel) (by decide +kernel) (by decide +kernel) st
@[simp] theorem i_broken_cl (st : Store) : dIn (.str "broken") (.tup [.str "cut", .str "left"]) st = some (.bl false) := wi "broken" ["cut", "left"] _ (by decide +kernel) (by decide +kernel) (by decide +kernel) st
@[simp] theorem q_count_list (st : Store) : dEq (.str "count") (.str "list") st = some (.bl false) := we _ _ _ (by decide +kernel) (by decide +kernel) (by decide +kernel) st
@[simp] theorem q_count_broken (st : Store) : dEq (.str "count") (.str "broken") st = some (.bl false) := we _ _ _ (by decide +kernel) (by decide +kernel) (by decide +kernel) st
@[simp] theorem q_count_row (st : Store) : dEq (.str "count") (.str "row") st = some (.bl false) := we _ _ _ (by decide +kernel) (by decide +kernel) (by decide +kernel) st
@[simp] theorem q_count_ahead (st : Store) : dEq (.str "count") (.str "ahead") st = some (.bl false) := we _ _ _ (by decide +kernel) (by decide +kernel) (by decide +kernel) st
@[simp] theorem q_count_windows (st : Store) : dEq (.str "count") (.str "windows") st = some (.bl false) := we _ _ _ (by decide +kernel) (by decide +kernel) (by decide +kernel) st
@[simp] theorem q_count_wanted (st : Store) : dEq (.str "count") (.str "wanted") st = some (.bl false) := we _ _ _ (by decide +kernel) (by decide +kernel) (by decide +kernel) st
@[simp] theorem q_count_turn (st : Store) : dEq (.str "count") (.str "turn") st = some (.bl false) := we _ _ _ (by decide +kernel) (by decide +kernel) (by decide +kernel) st
@[simp] theorem q_count_marks (st : Store) : dEq (.str "count") (.str "marks") st = some (.bl false) := we _ _ _ (by decide +kernel) (by decide +kernel) (by decide +kernel) st
@[simp] theorem q_count_spare (st : Store) : dEq (.str "count") (.str "spare") st = some (.bl false) := we _ _ _ (by decide +kernel) (by decide +kernel) (by decide +kernel) st
@[simp] theorem q_count_chain (st : Store) : dEq (.str "count") (.str "chain") st = some (.bl false) := we _ _ _ (by decide +kernel) (by decide +kernel) (by decide +kernel) st
@[simp] theorem i_count_leaf (st : Store) : dIn (.str "count") (.tup [.str "list", .str "broken", .str "count", .str "row"]) st = some (.bl true) := wi "count" ["list", "broken", "count", "row"] _ (by decide +kernel) (by decide +kernel) (by decide +kernel) st
@[simp] theorem i_count_join (st : Store) : dIn (.str "count") (.tup [.str "chain", .str "beside"]) st = some (.bl false) := wi "count" ["chain", "beside"] _ (by decide +kernel) (by decide +kernel) (by decide +kernel) st
@[simp] theorem i_count_su (st : Store) : dIn (.str "count") (.tup [.str "sieve", .str "upto"]) st = some (.bl false) := wi "count" ["sieve", "upto"] _ (by decide +kernel) (by decide +kernel) (by decide +kernel) st
@[simp] theorem i_count_cl (st : Store) : dIn (.str "count") (.tup [.str "cut", .str "left"]) st = some (.bl false) := wi "count" ["cut", "left"] _ (by decide +kernel) (by decide +kernel) (by decide +kernel) st
@[simp] theorem q_row_list (st : Store) : dEq (.str "row") (.str "list") st = some (.bl false) := we _ _ _ (by decide +kernel) (by decide +kernel) (by decide +kernel) st
@[simp] theorem q_row_broken (st : Store) : dEq (.str "row") (.str "broken") st = some (.bl false) := we _ _ _ (by decide +kernel) (by decide +kernel) (by decide +kernel) st
@[simp] theorem q_row_row (st : Store) : dEq (.str "row") (.str "row") st = some (.bl true) := we _ _ _ (by decide +kernel) (by decide +kernel) (by decide +kernel) st
@[simp] theorem q_row_ahead (st : Store) : dEq (.str "row") (.str "ahead") st = some (.bl false) := we _ _ _ (by decide +kernel) (by decide +kernel) (by decide +kernel) st
@[simp] theorem q_row_windows (st : Store) : dEq (.str "row") (.str "windows") st = some (.bl false) := we _ _ _ (by decide +kernel) (by decide +kernel) (by decide +kernel) st
@[simp] theorem q_row_wanted (st : Store) : dEq (.str "row") (.str "wanted") st = some (.bl false) := we _ _ _ (by decide +kernel) (by decide +kernel) (by decide +kernel) st
@[simp] theorem q_row_turn (st : Store) : dEq (.str "row") (.str "turn") st = some (.bl false) := we _ _ _ (by decide +kernel) (by decide +kernel) (by decide +kernel) st
@[simp] theorem q_row_marks (st : Store) : dEq (.str "row") (.str "marks") st = some (.bl false) := we _ _ _ (by decide +kernel) (by decide +kernel) (by decide +kernel) st
@[simp] theorem q_row_spare (st : Store) : dEq (.str "row") (.str "spare") st = some (.bl false) := we _ _ _ (by decide +kernel) (by decide +kernel) (by decide +kernel) st
@[simp] theorem q_row_chain (st : Store) : dEq (.str "row") (.str "chain") st = some (.bl false) := we _ _ _ (by decide +kernel) (by decide +kernel) (by decide +kernel) st
@[simp] theorem i_row_leaf (st : Store) : dIn (.str "row") (.tup [.str "list", .str "broken", .str "count", .str "row"]) st = some (.bl true) := wi "row" ["list", "broken", "count", "row"] _ (by decide +kernel) (by decide +kernel) (by decide +kernel) st
@[simp] theorem i_row_join (st : Store) : dIn (.str "row") (.tup [.str "chain", .str "beside"]) st = some (.bl false) := wi "row" ["chain", "beside"] _ (by decide +kernel) (by decide +kernel) (by decide +kernel) st
@[simp] theorem i_row_su (st : Store) : dIn (.str "row") (.tup [.str "sieve", .str "upto"]) st = some (.bl false) := wi "row" ["sieve", "upto"] _ (by decide +kernel) (by decide +kernel) (by decide +kernel) st
@[simp] theorem i_row_cl (st : Store) : dIn (.str "row") (.tup [.str "cut", .str "left"]) st = some (.bl false) := wi "row" ["cut", "left"] _ (by decide +kernel) (by decide +kernel) (by decide +kernel) st
@[simp] theorem q_turn_list (st : Store) : dEq (.str "turn") (.str "list") st = some (.bl false) := we _ _ _ (by decide +kernel) (by decide +kernel) (by decide +kernel) st
@[simp] theorem q_turn_broken (st : Store) : dEq (.str "turn") (.str "broken") st = some (.bl false) := we _ _ _ (by decide +kernel) (by decide +kernel) (by decide +kernel) st
@[simp] theorem q_turn_row (st : Store) : dEq (.str "turn") (.str "row") st = some (.bl false) := we _ _ _ (by decide +kernel) (by decide +kernel) (by decide +kernel) st
@[simp] theorem q_turn_ahead (st : Store) : dEq (.str "turn") (.str "ahead") st = some (.bl false) := we _ _ _ (by decide +kernel) (by decide +kernel) (by decide +kernel) st
@[simp] theorem q_turn_windows (st : Store) : dEq (.str "turn") (.str "windows") st = some (.bl false) := we _ _ _ (by decide +kernel) (by decide +kernel) (by decide +kernel) st
@[simp] theorem q_turn_wanted (st : Store) : dEq (.str "turn") (.str "wanted") st = some (.bl false) := we _ _ _ (by decide +kernel) (by decide +kernel) (by decide +kernel) st
@[simp] theorem q_turn_turn (st : Store) : dEq (.str "turn") (.str "turn") st = some (.bl true) := we _ _ _ (by decide +kernel) (by decide +kernel) (by decide +kernel) st
@[simp] theorem q_turn_marks (st : Store) : dEq (.str "turn") (.str "marks") st = some (.bl false) := we _ _ _ (by decide +kernel) (by decide +kernel) (by decide +kernel) st
@[simp] theorem q_turn_spare (st : Store) : dEq (.str "turn") (.str "spare") st = some (.bl false) := we _ _ _ (by decide +kernel) (by decide +kernel) (by decide +kernel) st
@[simp] theorem q_turn_chain (st : Store) : dEq (.str "turn") (.str "chain") st = some (.bl false) := we _ _ _ (by decide +kernel) (by decide +kernel) (by decide +kernel) st
@[simp] theorem i_turn_leaf (st : Store) : dIn (.str "turn") (.tup [.str "list", .str "broken", .str "count", .str "row"]) st = some (.bl false) := wi "turn" ["list", "broken", "count", "row"] _ (by decide +kernel) (by decide +kernel) (by decide +kernel) st
@[simp] theorem i_turn_join (st : Store) : dIn (.str "turn") (.tup [.str "chain", .str "beside"]) st = some (.bl false) := wi "turn" ["chain", "beside"] _ (by decide +kernel) (by decide +kernel) (by decide +kernel) st
@[simp] theorem i_turn_su (st : Store) : dIn (.str "turn") (.tup [.str "sieve", .str "upto"]) st = some (.bl false) := wi "turn" ["sieve", "upto"] _ (by decide +kernel) (by decide +kernel) (by decide +kernel) st
@[simp] theorem i_turn_cl (st : Store) : dIn (.str "turn") (.tup [.str "cut", .str "left"]) st = some (.bl false) := wi "turn" ["cut", "left"] _ (by decide +kernel) (by decide +kernel) (by decide +kernel) st
@[simp] theorem q_sieve_list (st : Store) : dEq (.str "sieve") (.str "list") st = some (.bl false) := we _ _ _ (by decide +kernel) (by decide +kernel) (by decide +kernel) st
@[simp] theorem q_sieve_broken (st : Store) : dEq (.str "sieve") (.str "broken") st = some (.bl false) := we _ _ _ (by decide +kernel) (by decide +kernel) (by decide +kernel) st
@[simp] theorem q_sieve_row (st : Store) : dEq (.str "sieve") (.str "row") st = some (.bl false) := we _ _ _ (by decide +kernel) (by decide +kernel) (by decide +kernel) st
@[simp] theorem q_sieve_ahead (st : Store) : dEq (.str "sieve") (.str "ahead") st = some (.bl false) := we _ _ _ (by decide +kernel) (by decide +kernel) (by decide +kernel) st
@[simp] theorem q_sieve_windows (st : Store) : dEq (.str "sieve") (.str "windows") st = some (.bl false) := we _ _ _ (by decide +kernel) (by decide +kernel) (by decide +kernel) st
@[simp] theorem q_sieve_wanted (st : Store) : dEq (.str "sieve") (.str "wanted") st = some (.bl false) := we _ _ _ (by decide +kernel) (by decide +kernel) (by decide +kernel) st
@[simp] theorem q_sieve_turn (st : Store) : dEq (.str "sieve") (.str "turn") st = some (.bl false) := we _ _ _ (by decide +kernel) (by decide +kernel) (by decide +kernel) st
@[simp] theorem q_sieve_marks (st : Store) : dEq (.str "sieve") (.str "marks") st = some (.bl false) := we _ _ _ (by decide +kernel) (by decide +kernel) (by decide +kernel) st
@[simp] theorem q_sieve_spare (st : Store) : dEq (.str "sieve") (.str "spare") st = some (.bl false) := we _ _ _ (by decide +kernel) (by decide +kernel) (by decide +kernel) st
@[simp] theorem q_sieve_chain (st : Store) : dEq (.str "sieve") (.str "chain") st = some (.bl false) := we _ _ _ (by decide +kernel) (by decide +kernel) (by decide +kernel) st
@[simp] theorem i_sieve_leaf (st : Store) : dIn (.str "sieve") (.tup [.str "list", .str "broken", .str "count", .str "row"]) st = some (.bl false) := wi "sieve" ["list", "broken", "count", "row"] _ (by decide +kernel) (by decide +kernel) (by decide +kernel) st
@[simp] theorem i_sieve_join (st : Store) : dIn (.str "sieve") (.tup [.str "chain", .str "beside"]) st = some (.bl false) := wi "sieve" ["chain", "beside"] _ (by decide +kernel) (by decide +kernel) (by decide +kernel) st
@[simp] theorem i_sieve_su (st : Store) : dIn (.str "sieve") (.tup [.str "sieve", .str "upto"]) st = some (.bl true) := wi "sieve" ["sieve", "upto"] _ (by decide +kernel) (by decide +kernel) (by decide +kernel) st
@[simp] theorem i_sieve_cl (st : Store) : dIn (.str "sieve") (.tup [.str "cut", .str "left"]) st = some (.bl false) := wi "sieve" ["cut", "left"] _ (by decide +kernel) (by decide +kernel) (by decide +kernel) st
@[simp] theorem q_upto_list (st : Store) : dEq (.str "upto") (.str "list") st = some (.bl false) := we _ _ _ (by decide +kernel) (by decide +kernel) (by decide +kernel) st
@[simp] theorem q_upto_broken (st : Store) : dEq (.str "upto") (.str "broken") st = some (.bl false) := we _ _ _ (by decide +kernel) (by decide +kernel) (by decide +kernel) st
@[simp] theorem q_upto_row (st : Store) : dEq (.str "upto") (.str "row") st = some (.bl false) := we _ _ _ (by decide +kernel) (by decide +kernel) (by decide +kernel) st
@[simp] theorem q_upto_ahead (st : Store) : dEq (.str "upto") (.str "ahead") st = some (.bl false) := we _ _ _ (by decide +kernel) (by decide +kernel) (by decide +kernel) st
@[simp] theorem q_upto_windows (st : Store) : dEq (.str "upto") (.str "windows") st = some (.bl false) := we _ _ _ (by decide +kernel) (by decide +kernel) (by decide +kernel) st
@[simp] theorem q_upto_wanted (st : Store) : dEq (.str "upto") (.str "wanted") st = some (.bl false) := we _ _ _ (by decide +kernel) (by decide +kernel) (by decide +kernel) st
@[simp] theorem q_upto_turn (st : Store) : dEq (.str "upto") (.str "turn") st = some (.bl false) := we _ _ _ (by decide +kernel) (by decide +kernel) (by decide +kernel) st
@[simp] theorem q_upto_marks (st : Store) : dEq (.str "upto") (.str "marks") st = some (.bl false) := we _ _ _ (by decide +kernel) (by decide +kernel) (by decide +kernel) st
@[simp] theorem q_upto_spare (st : Store) : dEq (.str "upto") (.str "spare") st = some (.bl false) := we _ _ _ (by decide +kernel) (by decide +kernel) (by decide +kernel) st
@[simp] theorem q_upto_chain (st : Store) : dEq (.str "upto") (.str "chain") st = some (.bl false) := we _ _ _ (by decide +kernel) (by decide +kernel) (by decide +kernel) st
@[simp] theorem i_upto_leaf (st : Store) : dIn (.str "upto") (.tup [.str "list", .str "broken", .str "count", .str "row"]) st = some (.bl false) := wi "upto" ["list", "broken", "count", "row"] _ (by decide +kernel) (by decide +kernel) (by decide +kernel) st
@[simp] theorem i_upto_join (st : Store) : dIn (.str "upto") (.tup [.str "chain", .str "beside"]) st = some (.bl false) := wi "upto" ["chain", "beside"] _ (by decide +kernel) (by decide +kernel) (by decide +kernel) st
@[simp] theorem i_upto_su (st : Store) : dIn (.str "upto") (.tup [.str "sieve", .str "upto"]) st = some (.bl true) := wi "upto" ["sieve", "upto"] _ (by decide +kernel) (by decide +kernel) (by decide +kernel) st
@[simp] theorem i_upto_cl (st : Store) : dIn (.str "upto") (.tup [.str "cut", .str "left"]) st = some (.bl false) := wi "upto" ["cut", "left"] _ (by decide +kernel) (by decide +kernel) (by decide +kernel) st
@[simp] theorem q_cut_list (st : Store) : dEq (.str "cut") (.str "list") st = some (.bl false) := we _ _ _ (by decide +kernel) (by decide +kernel) (by decide +kernel) st
@[simp] theorem q_cut_broken (st : Store) : dEq (.str "cut") (.str "broken") st = some (.bl false) := we _ _ _ (by decide +kernel) (by decide +kernel) (by decide +kernel) st
@[simp] theorem q_cut_row (st : Store) : dEq (.str "cut") (.str "row") st = some (.bl false) := we _ _ _ (by decide +kernel) (by decide +kernel) (by decide +kernel) st
@[simp] theorem q_cut_ahead (st : Store) : dEq (.str "cut") (.str "ahead") st = some (.bl false) := we _ _ _ (by decide +kernel) (by decide +kernel) (by decide +kernel) st
@[simp] theorem q_cut_windows (st : Store) : dEq (.str "cut") (.str "windows") st = some (.bl false) := we _ _ _ (by decide +kernel) (by decide +kernel) (by decide +kernel) st
@[simp] theorem q_cut_wanted (st : Store) : dEq (.str "cut") (.str "wanted") st = some (.bl false) := we _ _ _ (by decide +kernel) (by decide +kernel) (by decide +kernel) st
@[simp] theorem q_cut_turn (st : Store) : dEq (.str "cut") (.str "turn") st = some (.bl false) := we _ _ _ (by decide +kernel) (by decide +kernel) (by decide +kernel) st
@[simp] theorem q_cut_marks (st : Store) : dEq (.str "cut") (.str "marks") st = some (.bl false) := we _ _ _ (by decide +kernel) (by decide +kernel) (by decide +kernel) st
@[simp] theorem q_cut_spare (st : Store) : dEq (.str "cut") (.str "spare") st = some (.bl false) := we _ _ _ (by decide +kernel) (by decide +kernel) (by decide +kernel) st
@[simp] theorem q_cut_chain (st : Store) : dEq (.str "cut") (.str "chain") st = some (.bl false) := we _ _ _ (by decide +kernel) (by decide +kernel) (by decide +kernel) st
@[simp] theorem i_cut_leaf (st : Store) : dIn (.str "cut") (.tup [.str "list", .str "broken", .str "count", .str "row"]) st = some (.bl false) := wi "cut" ["list", "broken", "count", "row"] _ (by decide +kernel) (by decide +kernel) (by decide +kernel) st
@[simp] theorem i_cut_join (st : Store) : dIn (.str "cut") (.tup [.str "chain", .str "beside"]) st = some (.bl false) := wi "cut" ["chain", "beside"] _ (by decide +kernel) (by decide +kernel) (by decide +kernel) st
@[simp] theorem i_cut_su (st : Store) : dIn (.str "cut") (.tup [.str "sieve", .str "upto"]) st = some (.bl false) := wi "cut" ["sieve", "upto"] _ (by decide +kernel) (by decide +kernel) (by decide +kernel) st
@[simp] theorem i_cut_cl (st : Store) : dIn (.str "cut") (.tup [.str "cut", .str "left"]) st = some (.bl true) := wi "cut" ["cut", "left"] _ (by decide +kernel) (by decide +kernel) (by decide +kernel) st
@[simp] theorem q_left_list (st : Store) : dEq (.str "left") (.str "list") st = some (.bl false) := we _ _ _ (by decide +kernel) (by decide +kernel) (by decide +kernel) st
@[simp] theorem q_left_broken (st : Store) : dEq (.str "left") (.str "broken") st = some (.bl false) := we _ _ _ (by decide +kernel) (by decide +kernel) (by decide +kernel) st
@[simp] theorem q_left_row (st : Store) : dEq (.str "left") (.str "row") st = some (.bl false) := we _ _ _ (by decide +kernel) (by decide +kernel) (by decide +kernel) st
@[simp] theorem q_left_ahead (st : Store) : dEq (.str "left") (.str "ahead") st = some (.bl false) := we _ _ _ (by decide +kernel) (by decide +kernel) (by decide +kernel) st
@[simp] theorem q_left_windows (st : Store) : dEq (.str "left") (.str "windows") st = some (.bl false) := we _ _ _ (by decide +kernel) (by decide +kernel) (by decide +kernel) st
@[simp] theorem q_left_wanted (st : Store) : dEq (.str "left") (.str "wanted") st = some (.bl false) := we _ _ _ (by decide +kernel) (by decide +kernel) (by decide +kernel) st
@[simp] theorem q_left_turn (st : Store) : dEq (.str "left") (.str "turn") st = some (.bl false) := we _ _ _ (by decide +kernel) (by decide +kernel) (by decide +kernel) st
@[simp] theorem q_left_marks (st : Store) : dEq (.str "left") (.str "marks") st = some (.bl false) := we _ _ _ (by decide +kernel) (by decide +kernel) (by decide +kernel) st
@[simp] theorem q_left_spare (st : Store) : dEq (.str "left") (.str "spare") st = some (.bl false) := we _ _ _ (by decide +kernel) (by decide +kernel) (by decide +kernel) st
@[simp] theorem q_left_chain (st : Store) : dEq (.str "left") (.str "chain") st = some (.bl false) := we _ _ _ (by decide +kernel) (by decide +kernel) (by decide +kernel) st
@[simp] theorem i_left_leaf (st : Store) : dIn (.str "left") (.tup [.str "list", .str "broken", .str "count", .str "row"]) st = some (.bl false) := wi "left" ["list", "broken", "count", "row"] _ (by decide +kernel) (by decide +kernel) (by decide +kernel) st
@[simp] theorem i_left_join (st : Store) : dIn (.str "left") (.tup [.str "chain", .str "beside"]) st = some (.bl false) := wi "left" ["chain", "beside"] _ (by decide +kernel) (by decide +kernel) (by decide +kernel) st
@[simp] theorem i_left_su (st : Store) : dIn (.str "left") (.tup [.str "sieve", .str "upto"]) st = some (.bl false) := wi "left" ["sieve", "upto"] _ (by decide +kernel) (by decide +kernel) (by decide +kernel) st
@[simp] theorem i_left_cl (st : Store) : dIn (.str "left") (.tup [.str "cut", .str "left"]) st = some (.bl true) := wi "left" ["cut", "left"] _ (by decide +kernel) (by decide +kernel) (by decide +kernel) st
@[simp] theorem q_chain_list (st : Store) : dEq (.str "chain") (.str "list") st = some (.bl false) := we _ _ _ (by decide +kernel) (by decide +kernel) (by decide +kernel) st
@[simp] theorem q_chain_broken (st : Store) : dEq (.str "chain") (.str "broken") st = some (.bl false) := we _ _ _ (by decide +kernel) (by decide +kernel) (by decide +kernel) st
@[simp] theorem q_chain_row (st : Store) : dEq (.str "chain") (.str "row") st = some (.bl false) := we _ _ _ (by decide +kernel) (by decide +kernel) (by decide +kernel) st
@[simp] theorem q_chain_ahead (st : Store) : dEq (.str "chain") (.str "ahead") st = some (.bl false) := we _ _ _ (by decide +kernel) (by decide +kernel) (by decide +kernel) st
@[simp] theorem q_chain_windows (st : Store) : dEq (.str "chain") (.str "windows") st = some (.bl false) := we _ _ _ (by decide +kernel) (by decide +kernel) (by decide +kernel) st
@[simp] theorem q_chain_wanted (st : Store) : dEq (.str "chain") (.str "wanted") st = some (.bl false) := we _ _ _ (by decide +kernel) (by decide +kernel) (by decide +kernel) st
@[simp] theorem q_chain_turn (st : Store) : dEq (.str "chain") (.str "turn") st = some (.bl false) := we _ _ _ (by decide +kernel) (by decide +kernel) (by decide +kernel) st
@[simp] theorem q_chain_marks (st : Store) : dEq (.str "chain") (.str "marks") st = some (.bl false) := we _ _ _ (by decide +kernel) (by decide +kernel) (by decide +kernel) st
@[simp] theorem q_chain_spare (st : Store) : dEq (.str "chain") (.str "spare") st = some (.bl false) := we _ _ _ (by decide +kernel) (by decide +kernel) (by decide +kernel) st
@[simp] theorem q_chain_chain (st : Store) : dEq (.str "chain") (.str "chain") st = some (.bl true) := we _ _ _ (by decide +kernel) (by decide +kernel) (by decide +kernel) st
@[simp] theorem i_chain_leaf (st : Store) : dIn (.str "chain") (.tup [.str "list", .str "broken", .str "count", .str "row"]) st = some (.bl false) := wi "chain" ["list", "broken", "count", "row"] _ (by decide +kernel) (by decide +kernel) (by decide +kernel) st
@[simp] theorem i_chain_join (st : Store) : dIn (.str "chain") (.tup [.str "chain", .str "beside"]) st = some (.bl true) := wi "chain" ["chain", "beside"] _ (by decide +kernel) (by decide +kernel) (by decide +kernel) st
@[simp] theorem i_chain_su (st : Store) : dIn (.str "chain") (.tup [.str "sieve", .str "upto"]) st = some (.bl false) := wi "chain" ["sieve", "upto"] _ (by decide +kernel) (by decide +kernel) (by decide +kernel) st
@[simp] theorem i_chain_cl (st : Store) : dIn (.str "chain") (.tup [.str "cut", .str "left"]) st = some (.bl false) := wi "chain" ["cut", "left"] _ (by decide +kernel) (by decide +kernel) (by decide +kernel) st
@[simp] theorem q_beside_list (st : Store) : dEq (.str "beside") (.str "list") st = some (.bl false) := we _ _ _ (by decide +kernel) (by decide +kernel) (by decide +kernel) st
@[simp] theorem q_beside_broken (st : Store) : dEq (.str "beside") (.str "broken") st = some (.bl false) := we _ _ _ (by decide +kernel) (by decide +kernel) (by decide +kernel) st
@[simp] theorem q_beside_row (st : Store) : dEq (.str "beside") (.str "row") st = some (.bl false) := we _ _ _ (by decide +kernel) (by decide +kernel) (by decide +kernel) st
@[simp] theorem q_beside_ahead (st : Store) : dEq (.str "beside") (.str "ahead") st = some (.bl false) := we _ _ _ (by decide +kernel) (by decide +kernel) (by decide +kernel) st
@[simp] theorem q_beside_windows (st : Store) : dEq (.str "beside") (.str "windows") st = some (.bl false) := we _ _ _ (by decide +kernel) (by decide +kernel) (by decide +kernel) st
@[simp] theorem q_beside_wanted (st : Store) : dEq (.str "beside") (.str "wanted") st = some (.bl false) := we _ _ _ (by decide +kernel) (by decide +kernel) (by decide +kernel) st
@[simp] theorem q_beside_turn (st : Store) : dEq (.str "beside") (.str "turn") st = some (.bl false) := we _ _ _ (by decide +kernel) (by decide +kernel) (by decide +kernel) st
@[simp] theorem q_beside_marks (st : Store) : dEq (.str "beside") (.str "marks") st = some (.bl false) := we _ _ _ (by decide +kernel) (by decide +kernel) (by decide +kernel) st
@[simp] theorem q_beside_spare (st : Store) : dEq (.str "beside") (.str "spare") st = some (.bl false) := we _ _ _ (by decide +kernel) (by decide +kernel) (by decide +kernel) st
@[simp] theorem q_beside_chain (st : Store) : dEq (.str "beside") (.str "chain") st = some (.bl false) := we _ _ _ (by decide +kernel) (by decide +kernel) (by decide +kernel) st
@[simp] theorem i_beside_leaf (st : Store) : dIn (.str "beside") (.tup [.str "list", .str "broken", .str "count", .str "row"]) st = some (.bl false) := wi "beside" ["list", "broken", "count", "row"] _ (by decide +kernel) (by decide +kernel) (by decide +kernel) st
@[simp] theorem i_beside_join (st : Store) : dIn (.str "beside") (.tup [.str "chain", .str "beside"]) st = some (.bl true) := wi "beside" ["chain", "beside"] _ (by decide +kernel) (by decide +kernel) (by decide +kernel) st
@[simp] theorem i_beside_su (st : Store) : dIn (.str "beside") (.tup [.str "sieve", .str "upto"]) st = some (.bl false) := wi "beside" ["sieve", "upto"] _ (by decide +kernel) (by decide +kernel) (by decide +kernel) st
@[simp] theorem i_beside_cl (st : Store) : dIn (.str "beside") (.tup [.str "cut", .str "left"]) st = some (.bl false) := wi "beside" ["cut", "left"] _ (by decide +kernel) (by decide +kernel) (by decide +kernel) st
@[simp] theorem q_ahead_list (st : Store) : dEq (.str "ahead") (.str "list") st = some (.bl false) := we _ _ _ (by decide +kernel) (by decide +kernel) (by decide +kernel) st
@[simp] theorem q_ahead_broken (st : Store) : dEq (.str "ahead") (.str "broken") st = some (.bl false) := we _ _ _ (by decide +kernel) (by decide +kernel) (by decide +kernel) st
@[simp] theorem q_ahead_row (st : Store) : dEq (.str "ahead") (.str "row") st = some (.bl false) := we _ _ _ (by decide +kernel) (by decide +kernel) (by decide +kernel) st
@[simp] theorem q_ahead_ahead (st : Store) : dEq (.str "ahead") (.str "ahead") st = some (.bl true) := we _ _ _ (by decide +kernel) (by decide +kernel) (by decide +kernel) st
@[simp] theorem q_ahead_windows (st : Store) : dEq (.str "ahead") (.str "windows") st = some (.bl false) := we _ _ _ (by decide +kernel) (by decide +kernel) (by decide +kernel) st
@[simp] theorem q_ahead_wanted (st : Store) : dEq (.str "ahead") (.str "wanted") st = some (.bl false) := we _ _ _ (by decide +kernel) (by decide +kernel) (by decide +kernel) st
@[simp] theorem q_ahead_turn (st : Store) : dEq (.str "ahead") (.str "turn") st = some (.bl false) := we _ _ _ (by decide +kernel) (by decide +kernel) (by decide +kernel) st
@[simp] theorem q_ahead_marks (st : Store) : dEq (.str "ahead") (.str "marks") st = some (.bl false) := we _ _ _ (by decide +kernel) (by decide +kernel) (by decide +kernel) st
@[simp] theorem q_ahead_spare (st : Store) : dEq (.str "ahead") (.str "spare") st = some (.bl false) := we _ _ _ (by decide +kernel) (by decide +kernel) (by decide +kernel) st
@[simp] theorem q_ahead_chain (st : Store) : dEq (.str "ahead") (.str "chain") st = some (.bl false) := we _ _ _ (by decide +kernel) (by decide +kernel) (by decide +kernel) st
@[simp] theorem i_ahead_leaf (st : Store) : dIn (.str "ahead") (.tup [.str "list", .str "broken", .str "count", .str "row"]) st = some (.bl false) := wi "ahead" ["list", "broken", "count", "row"] _ (by decide +kernel) (by decide +kernel) (by decide +kernel) st
@[simp] theorem i_ahead_join (st : Store) : dIn (.str "ahead") (.tup [.str "chain", .str "beside"]) st = some (.bl false) := wi "ahead" ["chain", "beside"] _ (by decide +kernel) (by decide +kernel) (by decide +kernel) st
@[simp] theorem i_ahead_su (st : Store) : dIn (.str "ahead") (.tup [.str "sieve", .str "upto"]) st = some (.bl false) := wi "ahead" ["sieve", "upto"] _ (by decide +kernel) (by decide +kernel) (by decide +kernel) st
@[simp] theorem i_ahead_cl (st : Store) : dIn (.str "ahead") (.tup [.str "cut", .str "left"]) st = some (.bl false) := wi "ahead" ["cut", "left"] _ (by decide +kernel) (by decide +kernel) (by decide +kernel) st
@[simp] theorem q_windows_list (st : Store) : dEq (.str "windows") (.str "list") st = some (.bl false) := we _ _ _ (by decide +kernel) (by decide +kernel) (by decide +kernel) st
@[simp] theorem q_windows_broken (st : Store) : dEq (.str "windows") (.str "broken") st = some (.bl false) := we _ _ _ (by decide +kernel) (by decide +kernel) (by decide +kernel) st
@[simp] theorem q_windows_row (st : Store) : dEq (.str "windows") (.str "row") st = some (.bl false) := we _ _ _ (by decide +kernel) (by decide +kernel) (by decide +kernel) st
@[simp] theorem q_windows_ahead (st : Store) : dEq (.str "windows") (.str "ahead") st = some (.bl false) := we _ _ _ (by decide +kernel) (by decide +kernel) (by decide +kernel) st
@[simp] theorem q_windows_windows (st : Store) : dEq (.str "windows") (.str "windows") st = some (.bl true) := we _ _ _ (by decide +kernel) (by decide +kernel) (by decide +kernel) st
@[simp] theorem q_windows_wanted (st : Store) : dEq (.str "windows") (.str "wanted") st = some (.bl false) := we _ _ _ (by decide +kernel) (by decide +kernel) (by decide +kernel) st
@[simp] theorem q_windows_turn (st : Store) : dEq (.str "windows") (.str "turn") st = some (.bl false) := we _ _ _ (by decide +kernel) (by decide +kernel) (by decide +kernel) st
@[simp] theorem q_windows_marks (st : Store) : dEq (.str "windows") (.str "marks") st = some (.bl false) := we _ _ _ (by decide +kernel) (by decide +kernel) (by decide +kernel) st
@[simp] theorem q_windows_spare (st : Store) : dEq (.str "windows") (.str "spare") st = some (.bl false) := we _ _ _ (by decide +kernel) (by decide +kernel) (by decide +kernel) st
@[simp] theorem q_windows_chain (st : Store) : dEq (.str "windows") (.str "chain") st = some (.bl false) := we _ _ _ (by decide +kernel) (by decide +kernel) (by decide +kernel) st
@[simp] theorem i_windows_leaf (st : Store) : dIn (.str "windows") (.tup [.str "list", .str "broken", .str "count", .str "row"]) st = some (.bl false) := wi "windows" ["list", "broken", "count", "row"] _ (by decide +kernel) (by decide +kernel) (by decide +kernel) st
@[simp] theorem i_windows_join (st : Store) : dIn (.str "windows") (.tup [.str "chain", .str "beside"]) st = some (.bl false) := wi "windows" ["chain", "beside"] _ (by decide +kernel) (by decide +kernel) (by decide +kernel) st
@[simp] theorem i_windows_su (st : Store) : dIn (.str "windows") (.tup [.str "sieve", .str "upto"]) st = some (.bl false) := wi "windows" ["sieve", "upto"] _ (by decide +kernel) (by decide +kernel) (by decide +kernel) st
@[simp] theorem i_windows_cl (st : Store) : dIn (.str "windows") (.tup [.str "cut", .str "left"]) st = some (.bl false) := wi "windows" ["cut", "left"] _ (by decide +kernel) (by decide +kernel) (by decide +kernel) st
@[simp] theorem q_marks_list (st : Store) : dEq (.str "marks") (.str "list") st = some (.bl false) := we _ _ _ (by decide +kernel) (by decide +kernel) (by decide +kernel) st
@[simp] theorem q_marks_broken (st : Store) : dEq (.str "marks") (.str "broken") st = some (.bl false) := we _ _ _ (by decide +kernel) (by decide +kernel) (by decide +kernel) st
@[simp] theorem q_marks_row (st : Store) : dEq (.str "marks") (.str "row") st = some (.bl false) := we _ _ _ (by decide +kernel) (by decide +kernel) (by decide +kernel) st
@[simp] theorem q_marks_ahead (st : Store) : dEq (.str "marks") (.str "ahead") st = some (.bl false) := we _ _ _ (by decide +kernel) (by decide +kernel) (by decide +kernel) st
@[simp] theorem q_marks_windows (st : Store) : dEq (.str "marks") (.str "windows") st = some (.bl false) := we _ _ _ (by decide +kernel) (by decide +kernel) (by decide +kernel) st
@[simp] theorem q_marks_wanted (st : Store) : dEq (.str "marks") (.str "wanted") st = some (.bl false) := we _ _ _ (by decide +kernel) (by decide +kernel) (by decide +kernel) st
@[simp] theorem q_marks_turn (st : Store) : dEq (.str "marks") (.str "turn") st = some (.bl false) := we _ _ _ (by decide +kernel) (by decide +kernel) (by decide +kernel) st
@[simp] theorem q_marks_marks (st : Store) : dEq (.str "marks") (.str "marks") st = some (.bl true) := we _ _ _ (by decide +kernel) (by decide +kernel) (by decide +kernel) st
@[simp] theorem q_marks_spare (st : Store) : dEq (.str "marks") (.str "spare") st = some (.bl false) := we _ _ _ (by decide +kernel) (by decide +kernel) (by decide +kernel) st
@[simp] theorem q_marks_chain (st : Store) : dEq (.str "marks") (.str "chain") st = some (.bl false) := we _ _ _ (by decide +kernel) (by decide +kernel) (by decide +kernel) st
@[simp] theorem i_marks_leaf (st : Store) : dIn (.str "marks") (.tup [.str "list", .str "broken", .str "count", .str "row"]) st = some (.bl false) := wi "marks" ["list", "broken", "count", "row"] _ (by decide +kernel) (by decide +kernel) (by decide +kernel) st
@[simp] theorem i_marks_join (st : Store) : dIn (.str "marks") (.tup [.str "chain", .str "beside"]) st = some (.bl false) := wi "marks" ["chain", "beside"] _ (by decide +kernel) (by decide +kernel) (by decide +kernel) st
@[simp] theorem i_marks_su (st : Store) : dIn (.str "marks") (.tup [.str "sieve", .str "upto"]) st = some (.bl false) := wi "marks" ["sieve", "upto"] _ (by decide +kernel) (by decide +kernel) (by decide +kernel) st
@[simp] theorem i_marks_cl (st : Store) : dIn (.str "marks") (.tup [.str "cut", .str "left"]) st = some (.bl false) := wi "marks" ["cut", "left"] _ (by decide +kernel) (by decide +kernel) (by decide +kernel) st
@[simp] theorem q_spare_list (st : Store) : dEq (.str "spare") (.str "list") st = some (.bl false) := we _ _ _ (by decide +kernel) (by decide +kernel) (by decide +kernel) st
@[simp] theorem q_spare_broken (st : Store) : dEq (.str "spare") (.str "broken") st = some (.bl false) := we _ _ _ (by decide +kernel) (by decide +kernel) (by decide +kernel) st
@[simp] theorem q_spare_row (st : Store) : dEq (.str "spare") (.str "row") st = some (.bl false) := we _ _ _ (by decide +kernel) (by decide +kernel) (by decide +kernel) st
@[simp] theorem q_spare_ahead (st : Store) : dEq (.str "spare") (.str "ahead") st = some (.bl false) := we _ _ _ (by decide +kernel) (by decide +kernel) (by decide +kernel) st
@[simp] theorem q_spare_windows (st : Store) : dEq (.str "spare") (.str "windows") st = some (.bl false) := we _ _ _ (by decide +kernel) (by decide +kernel) (by decide +kernel) st
@[simp] theorem q_spare_wanted (st : Store) : dEq (.str "spare") (.str "wanted") st = some (.bl false) := we _ _ _ (by decide +kernel) (by decide +kernel) (by decide +kernel) st
@[simp] theorem q_spare_turn (st : Store) : dEq (.str "spare") (.str "turn") st = some (.bl false) := we _ _ _ (by decide +kernel) (by decide +kernel) (by decide +kernel) st
@[simp] theorem q_spare_marks (st : Store) : dEq (.str "spare") (.str "marks") st = some (.bl false) := we _ _ _ (by decide +kernel) (by decide +kernel) (by decide +kernel) st
@[simp] theorem q_spare_spare (st : Store) : dEq (.str "spare") (.str "spare") st = some (.bl true) := we _ _ _ (by decide +kernel) (by decide +kernel) (by decide +kernel) st
@[simp] theorem q_spare_chain (st : Store) : dEq (.str "spare") (.str "chain") st = some (.bl false) := we _ _ _ (by decide +kernel) (by decide +kernel) (by decide +kernel) st
@[simp] theorem i_spare_leaf (st : Store) : dIn (.str "spare") (.tup [.str "list", .str "broken", .str "count", .str "row"]) st = some (.bl false) := wi "spare" ["list", "broken", "count", "row"] _ (by decide +kernel) (by decide +kernel) (by decide +kernel) st
@[simp] theorem i_spare_join (st : Store) : dIn (.str "spare") (.tup [.str "chain", .str "beside"]) st = some (.bl false) := wi "spare" ["chain", "beside"] _ (by decide +kernel) (by decide +kernel) (by decide +kernel) st
@[simp] theorem i_spare_su (st : Store) : dIn (.str "spare") (.tup [.str "sieve", .str "upto"]) st = some (.bl false) := wi "spare" ["sieve", "upto"] _ (by decide +kernel) (by decide +kernel) (by decide +kernel) st
@[simp] theorem i_spare_cl (st : Store) : dIn (.str "spare") (.tup [.str "cut", .str "left"]) st = some (.bl false) := wi "spare" ["cut", "left"] _ (by decide +kernel) (by decide +kernel) (by decide +kernel) st
@[simp] theorem q_wanted_list (st : Store) : dEq (.str "wanted") (.str "list") st = some (.bl false) := we _ _ _ (by decide +kernel) (by decide +kernel) (by decide +kernel) st
@[simp] theorem q_wanted_broken (st : Store) : dEq (.str "wanted") (.str "broken") st = some (.bl false) := we _ _ _ (by decide +kernel) (by decide +kernel) (by decide +kernel) st
@[simp] theorem q_wanted_row (st : Store) : dEq (.str "wanted") (.str "row") st = some (.bl false) := we _ _ _ (by decide +kernel) (by decide +kernel) (by decide +kernel) st
@[simp] theorem q_wanted_ahead (st : Store) : dEq (.str "wanted") (.str "ahead") st = some (.bl false) := we _ _ _ (by decide +kernel) (by decide +kernel) (by decide +kernel) st
@[simp] theorem q_wanted_windows (st : Store) : dEq (.str "wanted") (.str "windows") st = some (.bl false) := we _ _ _ (by decide +kernel) (by decide +kernel) (by decide +kernel) st
@[simp] theorem q_wanted_wanted (st : Store) : dEq (.str "wanted") (.str "wanted") st = some (.bl true) := we _ _ _ (by decide +kernel) (by decide +kernel) (by decide +kernel) st
@[simp] theorem q_wanted_turn (st : Store) : dEq (.str "wanted") (.str "turn") st = some (.bl false) := we _ _ _ (by decide +kernel) (by decide +kernel) (by decide +kernel) st
@[simp] theorem q_wanted_marks (st : Store) : dEq (.str "wanted") (.str "marks") st = some (.bl false) := we _ _ _ (by decide +kernel) (by decide +kernel) (by decide +kernel) st
@[simp] theorem q_wanted_spare (st : Store) : dEq (.str "wanted") (.str "spare") st = some (.bl false) := we _ _ _ (by decide +kernel) (by decide +kernel) (by decide +kernel) st
@[simp] theorem q_wanted_chain (st : Store) : dEq (.str "wanted") (.str "chain") st = some (.bl false) := we _ _ _ (by decide +kernel) (by decide +kernel) (by decide +kernel) st
@[simp] theorem i_wanted_leaf (st : Store) : dIn (.str "wanted") (.tup [.str "list", .str "broken", .str "count", .str "row"]) st = some (.bl false) := wi "wanted" ["list", "broken", "count", "row"] _ (by decide +kernel) (by decide +kernel) (by decide +kernel) st
@[simp] theorem i_wanted_join (st : Store) : dIn (.str "wanted") (.tup [.str "chain", .str "beside"]) st = some (.bl false) := wi "wanted" ["chain", "beside"] _ (by decide +kernel) (by decide +kernel) (by decide +kernel) st
@[simp] theorem i_wanted_su (st : Store) : dIn (.str "wanted") (.tup [.str "sieve", .str "upto"]) st = some (.bl false) := wi "wanted" ["sieve", "upto"] _ (by decide +kernel) (by decide +kernel) (by decide +kernel) st
@[simp] theorem i_wanted_cl (st : Store) : dIn (.str "wanted") (.tup [.str "cut", .str "left"]) st = some (.bl false) := wi "wanted" ["cut", "left"] _ (by decide +kernel) (by decide +kernel) (by decide +kernel) st
end K82
end

section
set_option Elab.async false
set_option linter.all false
set_option maxRecDepth 100000
set_option maxHeartbeats 1000000
namespace K82
open PySem L2 G
/-- f tells b of xs at fuel n; the store may grow -/
def Tells (n : Nat) (f : Fn) (xs : List D) (b : Bool) : Prop := ∀ st, ∃ e, fns n f xs st = .ok (.bl b) (st ++ e)
theorem Tells.of {n : Nat} {f : Fn} {xs : List D} {b : Bool} (h : ∀ st, fns n f xs st = .ok (.bl b) st) : Tells n f xs b := fun st => ⟨[], by rw [h]; simp⟩
section
variable {L k n : Nat} {x : D}
theorem part_plan {b : Bool} (h : Tells n .l_reads_plan [x] b) : Tells (n + 1) .l_reads_part [.str "plan", x] b := fun st => by
  obtain ⟨e, h⟩ := h st
  exact ⟨e, runF_ret (by simp [g_l_reads_part, h])⟩
theorem part_rule {b : Bool} (h : Tells n .l_reads_rule [x] b) : Tells (n + 1) .l_reads_part [.str "rule", x] b := fun st => by
  obtain ⟨e, h⟩ := h st
  exact ⟨e, runF_ret (by simp [g_l_reads_part, h])⟩
theorem part_test {b : Bool} (h : Tells n .l_reads_test [x] b) : Tells (n + 1) .l_reads_part [.str "test", x] b := fun st => by
  obtain ⟨e, h⟩ := h st
  exact ⟨e, runF_ret (by simp [g_l_reads_part, h])⟩
theorem sh_chars {z : Str} (h : PyData.strOk z = true) : ∀ x ∈ chars z, Sh 100 0 x := by
  intro x hx
  obtain ⟨c, hc, rfl⟩ := List.mem_map.mp hx
  simp only [Sh]
  refine ⟨?_, by show 1 ≤ 100; decide⟩
  have h0 : z.cps.all (· < 0x110000) = true := h
  have := (Array.all_eq_true_iff_forall_mem.mp h0) c (Array.mem_toList_iff.mp hc)
  show (#[c] : Array Nat).all (· < 0x110000) = true
  simpa using this
theorem part_word (h : Sh L k x) : Tells (n + 1) .l_reads_part [.str "word", x] (wordB x) := Tells.of fun st => by
  refine runF_ret ?_
  by_cases hs : ∃ z, x = .str z
  · obtain ⟨z, rfl⟩ := hs
    simp only [Sh] at h
    have ln : ∀ st, dLen [.str z] st = some (.int z.length) := fun st => by
      simp only [dLen]
      rw [if_pos (Nat.le_trans h.2 (by decide))]
    have ts : ∀ st, dIsT "str" (.str z) st = some (.bl true) := fun st => rfl
    obtain ⟨st', e, rfl⟩ := compGo_not (env := [some (.str "word"), some (.str z), some (.str abc), none, none, none, none]) (i := 5) (tt := tVal (eOp dNotInS (eVar 5) (eVar 2))) (fun s => s = st) chB (chars z) [] st (by simp) (fun d hd s hs => by
      obtain ⟨c, hc, rfl⟩ := List.mem_map.mp hd
      exact ⟨s, by simp [dNotInS, sign_of, chB], hs⟩) rfl
    have e3 := eComp_of (vs := [5]) (st := st') (env := [some (.str "word"), some (.str z), some (.str abc), none, none, none, none]) (fi := iChars (eVar 1)) (tg := tgName 5) (l := chars z) (st1 := st') (iChars_at (by simp) (Nat.le_trans h.2 (by decide))) e
    have sf : Sh 100 1 (.lst ([] ++ (chars z).filter fun d => !chB d)) := sh_filter _ (by unfold chars; rw [List.length_map]; exact h.2) (sh_chars h.1)
    simp only [List.nil_append] at e3 sf
    by_cases c1 : 1 ≤ z.length
    · by_cases c2 : z.length ≤ 8
      · have c1' : (1 : Int) ≤ z.length := by omega
        have c2' : (z.length : Int) ≤ 8 := by omega
        have en := dEq_nil (st := st') sf (by decide)
        rw [filter_nil] at en
        simp [g_l_reads_part, ts, ln, c1', c2', e3, en, wordB, c1, c2]
      · have c1' : (1 : Int) ≤ z.length := by omega
        have c2' : ¬ (z.length : Int) ≤ 8 := by omega
        simp [g_l_reads_part, ts, ln, c1', c2', wordB, c2]
    · have c1' : ¬ (1 : Int) ≤ z.length := by omega
      simp [g_l_reads_part, ts, ln, c1', wordB, c1]
  · have z : qStr x = false := by cases x <;> first | rfl | exact absurd ⟨_, rfl⟩ hs
    have z2 : wordB x = false := by cases x <;> first | rfl | exact absurd ⟨_, rfl⟩ hs
    simp [g_l_reads_part, dIsT_str h, z, z2]
theorem part_numbers (h : Sh L k x) (hk : k ≤ 64) : Tells (n + 2) .l_reads_part [.str "numbers", x] (numsB x) := Tells.of fun st => by
  refine runF_ret ?_
  by_cases ht : ∃ l, x = .tup l
  · obtain ⟨l, rfl⟩ := ht
    cases k with
    | zero => simp [Sh] at h
    | succ k =>
      have h' := h
      simp only [Sh] at h'
      obtain ⟨st', e, rfl⟩ := compGo_not (env := [some (.str "numbers"), some (.tup l), none, none, none, none, none]) (i := 6) (tt := tNot' (tVal (eCall (fns (n + 1) .l_whole_one) [(eVar 6)]))) (fun s => s = st) qInt l [] st (by simp) (fun d hd s hs => ⟨s, by simp [whole_one (h'.2 d hd)], hs⟩) rfl
      have e3 := eComp_of (vs := [6]) (st := st') (env := [some (.str "numbers"), some (.tup l), none, none, none, none, none]) (fi := iSeq (eVar 1)) (tg := tgName 6) (l := l) (st1 := st') (by simp) e
      have sf : Sh L (k + 1) (.lst ([] ++ l.filter fun d => !qInt d)) := sh_filter _ h'.1 h'.2
      simp only [List.nil_append] at e3 sf
      have en := dEq_nil (st := st') sf hk
      rw [filter_nil] at en
      simp [g_l_reads_part, dIsT_tuple h, qTup, e3, en, numsB]
  · have z : qTup x = false := notTup h fun l e => ht ⟨l, e⟩
    have z2 : numsB x = false := by cases x <;> first | rfl | exact absurd ⟨_, rfl⟩ ht
    simp [g_l_reads_part, dIsT_tuple h, z, z2]
theorem part_any (h : Sh L k x) : Tells (n + 2) .l_reads_part [.str "any", x] (qInt x) := Tells.of fun st => by
  have w := fun st => whole_one (n := n) (st := st) h
  refine runF_ret ?_
  cases q : qInt x <;> simp [g_l_reads_part, w, q]
def byB : D → Bool
  | .int i => decide (0 < i)
  | _ => false
theorem part_by (h : Sh L k x) : Tells (n + 2) .l_reads_part [.str "by", x] (byB x) := Tells.of fun st => by
  have w := fun st => whole_one (n := n) (st := st) h
  refine runF_ret ?_
  by_cases hi' : ∃ i, x = .int i
  · obtain ⟨i, rfl⟩ := hi'
    simp [g_l_reads_part, w, qInt, byB]
  · have z : qInt x = false := by cases x <;> first | rfl | exact absurd ⟨_, rfl⟩ hi'
    have z2 : byB x = false := by cases x <;> first | rfl | exact absurd ⟨_, rfl⟩ hi'
    simp [g_l_reads_part, w, z, z2]
theorem part_bet (s : Str) (lo hi : Int) (hs : (s = "far" ∧ lo = 0 ∧ hi = 200) ∨ (s = "row" ∧ lo = 0 ∧ hi = 59) ∨ (s = "size" ∧ lo = 1 ∧ hi = 20)) (h : Sh L k x) : Tells (n + 2) .l_reads_part [.str s, x] (betB x lo hi) := Tells.of fun st => by
  have w := fun st => whole_one (n := n) (st := st) h
  refine runF_ret ?_
  have v1 : ∀ a b c : D, valD [((.inr "far" : Key), a), ((.inr "row" : Key), b), ((.inr "size" : Key), c)] (.inr "far") = some a := fun a b c => rfl
  have v2 : ∀ a b c : D, valD [((.inr "far" : Key), a), ((.inr "row" : Key), b), ((.inr "size" : Key), c)] (.inr "row") = some b := fun a b c => rfl
  have v3 : ∀ a b c : D, valD [((.inr "far" : Key), a), ((.inr "row" : Key), b), ((.inr "size" : Key), c)] (.inr "size") = some c := fun a b c => rfl
  by_cases hi' : ∃ i, x = .int i
  · obtain ⟨i, rfl⟩ := hi'
    rcases hs with ⟨rfl, rfl, rfl⟩ | ⟨rfl, rfl, rfl⟩ | ⟨rfl, rfl, rfl⟩
    · by_cases c1 : 0 ≤ i <;> simp [g_l_reads_part, w, qInt, betB, keyOf, v1, c1]
    · by_cases c1 : 0 ≤ i <;> simp [g_l_reads_part, w, qInt, betB, keyOf, v2, c1]
    · by_cases c1 : 1 ≤ i <;> simp [g_l_reads_part, w, qInt, betB, keyOf, v3, c1]
  · have z : qInt x = false := by cases x <;> first | rfl | exact absurd ⟨_, rfl⟩ hi'
    have z2 : betB x lo hi = false := by cases x <;> first | rfl | exact absurd ⟨_, rfl⟩ hi'
    rcases hs with ⟨rfl, rfl, rfl⟩ | ⟨rfl, rfl, rfl⟩ | ⟨rfl, rfl, rfl⟩ <;> simp [g_l_reads_part, w, z, z2]
end
end K82
end

section
set_option Elab.async false
set_option linter.all false
set_option maxRecDepth 100000
set_option maxHeartbeats 1000000
namespace K82
open PySem L2 G
section
variable {L k m : Nat} {x : D}
theorem part_some {l : List D} {f : D → Bool} (h : Sh L (k + 1) (.tup l)) (hk : k + 1 ≤ 64) (hf : ∀ y ∈ l, Tells m .l_reads_plan [y] (f y)) (s : Str) (hs : s = "some" ∨ s = "more") :
    Tells (m + 1) .l_reads_part [.str s, .tup l] (decide (l.length ≤ 6) && ((decide (s = "some") || !l.isEmpty) && l.all f)) := fun st => by
  have h' := h
  simp only [Sh] at h'
  have tt := fun st => dIsT_tuple (st := st) h
  have n1 : ¬ (("more" : Str) = "some") := by decide +kernel
  by_cases c1 : l.length ≤ 6
  · have c1' : ¬ (6 : Int) < l.length := by omega
    have en0 := fun st => dEq_nilT (st := st) h hk
    obtain ⟨st', e, ⟨ex, rfl⟩⟩ := compGo_not (env := [some (.str s), some (.tup l), none, none, none, none, none]) (i := 6) (tt := tNot' (tVal (eCall (fns m .l_reads_plan) [(eVar 6)]))) (fun s' => ∃ ex, s' = st ++ ex) f l [] st (by simp) (fun d hd s' hs' => by
      obtain ⟨ex, rfl⟩ := hs'
      obtain ⟨e2, h2⟩ := hf d hd (st ++ ex)
      exact ⟨st ++ ex ++ e2, by simp [h2], ex ++ e2, by simp⟩) ⟨[], by simp⟩
    have e3 := eComp_of (vs := [6]) (st := st) (env := [some (.str s), some (.tup l), none, none, none, none, none]) (fi := iSeq (eVar 1)) (tg := tgName 6) (l := l) (st1 := st) (by simp) e
    have sf : Sh L (k + 1) (.lst ([] ++ l.filter fun d => !f d)) := sh_filter _ h'.1 h'.2
    simp only [List.nil_append] at e3 sf
    have en := dEq_nil (st := st ++ ex) sf hk
    rw [filter_nil] at en
    rcases hs with rfl | rfl
    · exact ⟨ex, runF_ret (by simp [g_l_reads_part, tt, qTup, c1', e3, en, c1])⟩
    · cases q : l.isEmpty
      · rw [q] at en0
        exact ⟨ex, runF_ret (by simp [g_l_reads_part, tt, qTup, c1', en0, e3, en, c1])⟩
      · rw [q] at en0
        exact ⟨[], runF_ret (by simp [g_l_reads_part, tt, qTup, c1', en0, c1, n1])⟩
  · have c1' : (6 : Int) < l.length := by omega
    refine ⟨[], runF_ret ?_⟩
    rcases hs with rfl | rfl <;> simp [g_l_reads_part, tt, qTup, c1', c1]
theorem part_none (h : Sh L k x) (ht : ∀ l, x ≠ .tup l) (s : Str) (hs : s = "some" ∨ s = "more") : Tells (m + 1) .l_reads_part [.str s, x] false := Tells.of fun st => by
  have z : qTup x = false := notTup h ht
  refine runF_ret ?_
  rcases hs with rfl | rfl <;> simp [g_l_reads_part, dIsT_tuple h, z]
/-! ## a plan by its sorts -/
theorem sh_ints {l : List D} (h : ∀ x ∈ l, ∃ i : Nat, x = .int i ∧ i ≤ 3) (hl : l.length ≤ 3) : Sh 3 1 (.lst l) := by
  simp only [Sh]
  refine ⟨hl, fun x hx => ?_⟩
  obtain ⟨i, rfl, hi⟩ := h x hx
  simp only [Sh]
  exact Nat.lt_of_le_of_lt (by simpa using hi) (by decide +kernel)
theorem eqv_strs : ∀ a b : List Str, PyData.eqvAll (a.map PyData.str) (b.map PyData.str) = decide (a = b)
  | [], [] => rfl
  | [], y :: b => by simp [PyData.eqvAll]
  | x :: a, [] => by simp [PyData.eqvAll]
  | x :: a, y :: b => by
    simp only [List.map_cons, PyData.eqvAll, PyData.eqv, eqv_strs a b]
    by_cases h : x = y
    · subst h; simp
    · simp [h]
theorem dEq_strs {a b : List Str} (ha : a.all PyData.strOk = true) (hb : b.all PyData.strOk = true) (st : Store) : dEq (.lst (a.map D.str)) (.lst (b.map D.str)) st = some (.bl (decide (a = b))) := by
  have s2 : ∀ xs : List Str, xs.all PyData.strOk = true → SeqAt.shaped (.list (xs.map PyData.str)) = true := fun xs hx => by
    simp only [SeqAt.shaped, PyData.canLay0, canLay_strs xs hx, PyData.depth, depth_strs]; rfl
  simp only [dEq, eqD, D.data, datas_strs, Option.map_some, s2 a ha, s2 b hb, Bool.and_self, if_true, PyData.eqv, eqv_strs]
abbrev noneL : List Str := ["none"]
/-- what stands ahead of the parts -/
theorem plan_head {n : Nat} {w : Str} {rest : List D} {st : Store} (h : Sh L (k + 1) (.tup (.str w :: rest))) (h1 : rest ≠ []) (hn : sortsOf w = noneL ∨ (sortsOf w).length ≠ rest.length) (ho : (sortsOf w).all PyData.strOk = true) : ∃ e, fns (n + 2) .l_reads_plan [.tup (.str w :: rest)] st = .ok (.bl false) (st ++ e) := by
  have h' := h
  simp only [Sh] at h'
  have hw := h'.2 (.str w) (by simp)
  obtain ⟨ex, es⟩ := sorts_are (n := n) (st := st) hw
  have tt := fun st => dIsT_tuple (st := st) h
  have ts := fun st => dIsT_str (st := st) hw
  have hl : ¬ ((rest.length : Int) + 1 < 2) := by
    have : rest.length ≠ 0 := fun z => h1 (List.eq_nil_of_length_eq_zero z)
    omega
  have nn : noneL.all PyData.strOk = true := by decide +kernel
  have en := fun st => dEq_strs ho nn st
  refine ⟨ex, runF_ret ?_⟩
  by_cases hnn : sortsOf w = noneL
  · have en' := fun st => (en st).trans (by rw [decide_eq_true hnn])
    simp only [List.map_cons, List.map_nil] at en'
    simp [g_l_reads_plan, tt, qTup, hl, ts, qStr, es, en']
  · have hne : ¬ ((sortsOf w).length : Int) = rest.length := by
      rcases hn with z | z
      · exact absurd z hnn
      · omega
    have en' : ∀ st, dEq (.lst ((sortsOf w).map D.str)) (.lst (noneL.map D.str)) st = some (.bl false) := fun st => by rw [en st, decide_eq_false hnn]
    simp only [List.map_cons, List.map_nil] at en'
    simp [g_l_reads_plan, tt, qTup, hl, ts, qStr, es, en', hne]
end
end K82
end

section
set_option Elab.async false
set_option linter.all false
set_option maxRecDepth 100000
set_option maxHeartbeats 1000000
namespace K82
open PySem L2 G
section
variable {L k N : Nat}
theorem comp_parts {tl : List D} {so : D} {f : Nat → Bool} : ∀ (ss : List Str) (m : Nat) (acc : List D) (st : Store), (∀ i s, ss[i]? = some s → ∃ x, tl[m + i + 1]? = some x ∧ Tells N .l_reads_part [.str s, x] (f (m + i))) →
    ∃ e, compGo (tgPair 2 3) (tNot' (tVal (eCall (fns N .l_reads_part) [(eVar 3), (eOp dIdx (eVar 0) (eOp dAdd (eVar 2) (eC (.int 1))))]))) (eVar 2) [some (.tup tl), some so, none, none] (((ss.map D.str).zipIdx m).map fun q => D.tup [.int (q.2 : Nat), q.1]) acc st =
      .ok (acc ++ ((List.range' m ss.length).filter fun i => !f i).map fun i => D.int (i : Nat)) (st ++ e)
  | [], m, acc, st, _ => ⟨[], by simp [compGo]⟩
  | s :: ss, m, acc, st, h => by
    obtain ⟨x, hx, tx⟩ := h 0 s rfl
    simp only [Nat.add_zero] at hx tx
    obtain ⟨e1, h1⟩ := tx st
    have ix : ∀ st, dIdx (.tup tl) (.int ((m : Int) + 1)) st = some x := fun st => by
      have := dIdx_tn (st := st) hx
      simpa using this
    have ih := fun acc => comp_parts (tl := tl) (so := so) (f := f) ss (m + 1) acc (st ++ e1) (fun i s' hs' => by
      have := h (i + 1) s' (by simpa using hs')
      rwa [show m + (i + 1) = m + 1 + i by omega] at this)
    cases q : f m with
    | true =>
      obtain ⟨e2, h2⟩ := ih acc
      refine ⟨e1 ++ e2, ?_⟩
      simp only [List.map_cons, List.zipIdx_cons, compGo, tgPair]
      simp [ix, h1, q, List.range'_succ]
      simpa using h2
    | false =>
      obtain ⟨e2, h2⟩ := ih (acc ++ [.int (m : Nat)])
      refine ⟨e1 ++ e2, ?_⟩
      simp only [List.map_cons, List.zipIdx_cons, compGo, tgPair]
      simp [ix, h1, q, List.range'_succ]
      simpa using h2
theorem plan_parts {n : Nat} {w : Str} {rest : List D} {f : Nat → Bool} (h : Sh L (k + 1) (.tup (.str w :: rest))) (h1 : rest ≠ []) (hn : sortsOf w ≠ noneL) (hl : (sortsOf w).length = rest.length) (h3 : rest.length ≤ 3) (ho : (sortsOf w).all PyData.strOk = true)
    (hp : ∀ i s, (sortsOf w)[i]? = some s → ∃ x, rest[i]? = some x ∧ Tells (n + 1) .l_reads_part [.str s, x] (f i)) : Tells (n + 2) .l_reads_plan [.tup (.str w :: rest)] ((List.range rest.length).all f) := fun st => by
  have h' := h
  simp only [Sh] at h'
  have hw := h'.2 (.str w) (by simp)
  obtain ⟨ex, es⟩ := sorts_are (n := n) (st := st) hw
  have tt := fun st => dIsT_tuple (st := st) h
  have ts := fun st => dIsT_str (st := st) hw
  have hl2 : ¬ ((rest.length : Int) + 1 < 2) := by
    have : rest.length ≠ 0 := fun z => h1 (List.eq_nil_of_length_eq_zero z)
    omega
  have nn : noneL.all PyData.strOk = true := by decide +kernel
  have en : ∀ st, dEq (.lst ((sortsOf w).map D.str)) (.lst (noneL.map D.str)) st = some (.bl false) := fun st => by rw [dEq_strs ho nn st, decide_eq_false hn]
  simp only [List.map_cons, List.map_nil] at en
  have hle : ((sortsOf w).length : Int) = rest.length := by omega
  obtain ⟨e2, h2⟩ := comp_parts (N := n + 1) (tl := .str w :: rest) (so := .lst ((sortsOf w).map D.str)) (f := f) (sortsOf w) 0 [] (st ++ ex) (fun i s hs => by
    obtain ⟨x, hx, tx⟩ := hp i s hs
    exact ⟨x, by simpa using hx, by simpa using tx⟩)
  have e3 := eComp_of (vs := [2, 3]) (st := st ++ ex) (env := [some (.tup (.str w :: rest)), some (.lst ((sortsOf w).map D.str)), none, none]) (fi := iEnumL (eVar 1)) (tg := tgPair 2 3) (l := pairsD ((sortsOf w).map D.str)) (st1 := st ++ ex) (by simp) h2
  rw [List.nil_append, hl, ← List.range_eq_range'] at e3
  have sf : Sh 3 1 (.lst (((List.range rest.length).filter fun i => !f i).map fun i => D.int (i : Nat))) := by
    refine sh_ints (fun x hx => ?_) (by rw [List.length_map]; exact Nat.le_trans (List.length_filter_le _ _) (by rw [List.length_range]; exact h3))
    obtain ⟨i, hi, rfl⟩ := List.mem_map.mp hx
    have := (List.mem_filter.mp hi).1
    rw [List.mem_range] at this
    exact ⟨i, rfl, by omega⟩
  have eq := fun s => dEq_nil (st := s) sf (by decide)
  have ee : (((List.range rest.length).filter fun i => !f i).map fun i => D.int (i : Nat)).isEmpty = (List.range rest.length).all f := by
    rw [List.isEmpty_map]
    generalize List.range rest.length = r
    induction r with
    | nil => rfl
    | cons a r ih =>
      by_cases q : f a = true
      · simp only [List.filter_cons, q, List.all_cons, Bool.true_and]; exact ih
      · have q' : f a = false := by simpa using q
        simp [q']
  simp only [ee] at eq
  refine ⟨ex ++ e2, runF_ret ?_⟩
  generalize (((List.range rest.length).filter fun i => !f i).map fun i => D.int (i : Nat)) = Z at e3 eq
  generalize (List.range rest.length).all f = B at eq ⊢
  rw [← List.append_assoc]
  simp [g_l_reads_plan, tt, qTup, hl2, ts, qStr, es, en, hle, e3, eq]
end
end K82
end

section
set_option Elab.async false
set_option linter.all false
set_option maxRecDepth 100000
set_option maxHeartbeats 1000000
namespace K82
open PySem L2 G
theorem cut_mid (x : D) (rest : List D) (h : rest ≠ []) : cut (x :: rest) (some 1) (some (-1)) = rest.dropLast := by
  have hl : 1 ≤ rest.length := by
    have : rest.length ≠ 0 := fun z => h (List.eq_nil_of_length_eq_zero z)
    omega
  unfold cut
  have e1 : HT.sIx (x :: rest).length 0 (some 1) = 1 := by
    simp only [HT.sIx, List.length_cons]
    rw [if_neg (by decide)]
    show min 1 (rest.length + 1) = 1
    omega
  have e2 : HT.sIx (x :: rest).length (x :: rest).length (some (-1)) = rest.length := by
    simp only [HT.sIx, List.length_cons]
    rw [if_pos (by decide)]
    omega
  rw [e1, e2, List.drop_one, List.tail_cons, List.dropLast_eq_take]
theorem dIdx_last {x y : D} {rest : List D} {st : Store} (h : rest.getLast? = some y) : dIdx (.tup (x :: rest)) (.int (-1)) st = some y := by
  have hl : 1 ≤ rest.length := by
    cases rest with
    | nil => cases h
    | cons a b => simp
  simp only [dIdx, atI, ixN, List.length_cons]
  rw [if_neg (by decide), if_pos (by omega)]
  have : (-1 + ((rest.length + 1 : Nat) : Int)).toNat = rest.length := by omega
  rw [this]
  simp only [Option.bind_some]
  rw [List.getLast?_eq_getElem?] at h
  obtain ⟨m, hm⟩ : ∃ m, rest.length = m + 1 := ⟨rest.length - 1, by omega⟩
  rw [hm, List.getElem?_cons_succ, ← h, hm]
  simp
end K82
end

section
set_option Elab.async false
set_option linter.all false
set_option maxRecDepth 100000
set_option maxHeartbeats 1000000
namespace K82
open PySem L2 G
section
variable {L k n : Nat} {rest bt : List D} {st : Store}
theorem len3 (r : List D) : ¬ ((r.length : Int) + 1 + 1 + 1 = 2) := by omega
theorem len31 (r : List D) : ¬ ((r.length : Int) + 1 + 1 + 1 = 1) := by omega
theorem sl_mid (x : D) (h : rest ≠ []) (hb : rest.dropLast = bt) (st : Store) : dSl (some 1) (some (-1)) (.tup (x :: rest)) st = some (.tup bt) := by
  simp only [dSl, cut_mid x rest h, hb]
theorem hn_ahead (h : rest ≠ []) (hb : rest.dropLast = bt) (hs : ∀ x ∈ bt, Sh L k x) (hk : k + 1 ≤ 64) (hl : bt.length ≤ L) : fns (n + 3) .has_numbers [.tup (.str "ahead" :: rest)] st = .ok (.bl (match bt with | [] => true | [a] => false | [a, b] => false | _ => false)) st := by
  have sm := sl_mid (.str "ahead") h hb
  have sb : Sh L (k + 1) (.tup bt) := by simp only [Sh]; exact ⟨hl, hs⟩
  have en := fun st => dEq_nilT (st := st) sb hk
  refine runF_ret ?_
  match bt, hs, sm, en with
  | [], hs, sm, en => simp [g_has_numbers, sm, en]
  | [a], hs, sm, en =>
    have ha := hs a (by simp)
    simp [g_has_numbers, sm, en]
  | [a, b], hs, sm, en =>
    have ha := hs a (by simp)
    have hb2 := hs b (by simp)
    simp [g_has_numbers, sm, en]
  | a :: b :: c :: r, hs, sm, en => simp [g_has_numbers, sm, en, len3, len31]
theorem hn_windows (h : rest ≠ []) (hb : rest.dropLast = bt) (hs : ∀ x ∈ bt, Sh L k x) (hk : k + 1 ≤ 64) (hl : bt.length ≤ L) : fns (n + 3) .has_numbers [.tup (.str "windows" :: rest)] st = .ok (.bl (match bt with | [] => false | [a] => false | [a, b] => betB a 1 20 && betB b 1 20 | _ => false)) st := by
  have sm := sl_mid (.str "windows") h hb
  have sb : Sh L (k + 1) (.tup bt) := by simp only [Sh]; exact ⟨hl, hs⟩
  have en := fun st => dEq_nilT (st := st) sb hk
  refine runF_ret ?_
  match bt, hs, sm, en with
  | [], hs, sm, en => simp [g_has_numbers, sm, en]
  | [a], hs, sm, en =>
    have ha := hs a (by simp)
    simp [g_has_numbers, sm, en]
  | [a, b], hs, sm, en =>
    have ha := hs a (by simp)
    have hb2 := hs b (by simp)
    have q1 := fun st => between_is (n := n) (lo := 1) (hi := 20) (st := st) ha
    have q2 := fun st => between_is (n := n) (lo := 1) (hi := 20) (st := st) hb2
    cases z : betB a 1 20 <;> simp [g_has_numbers, sm, en, q1, q2, z]
  | a :: b :: c :: r, hs, sm, en => simp [g_has_numbers, sm, en, len3, len31]
theorem hn_wanted (h : rest ≠ []) (hb : rest.dropLast = bt) (hs : ∀ x ∈ bt, Sh L k x) (hk : k + 1 ≤ 64) (hl : bt.length ≤ L) : fns (n + 3) .has_numbers [.tup (.str "wanted" :: rest)] st = .ok (.bl (match bt with | [] => false | [a] => false | [a, b] => betB a 0 200 && wordB b | _ => false)) st := by
  have sm := sl_mid (.str "wanted") h hb
  have sb : Sh L (k + 1) (.tup bt) := by simp only [Sh]; exact ⟨hl, hs⟩
  have en := fun st => dEq_nilT (st := st) sb hk
  refine runF_ret ?_
  match bt, hs, sm, en with
  | [], hs, sm, en => simp [g_has_numbers, sm, en]
  | [a], hs, sm, en =>
    have ha := hs a (by simp)
    simp [g_has_numbers, sm, en]
  | [a, b], hs, sm, en =>
    have ha := hs a (by simp)
    have hb2 := hs b (by simp)
    have q1 := fun st => between_is (n := n) (lo := 0) (hi := 200) (st := st) ha
    have q2 := fun st => word_is (n := n + 1) (st := st) hb2
    cases z : betB a 0 200 <;> simp [g_has_numbers, sm, en, q1, q2, z]
  | a :: b :: c :: r, hs, sm, en => simp [g_has_numbers, sm, en, len3, len31]
theorem hn_cut (h : rest ≠ []) (hb : rest.dropLast = bt) (hs : ∀ x ∈ bt, Sh L k x) (hk : k + 1 ≤ 64) (hl : bt.length ≤ L) : fns (n + 3) .has_numbers [.tup (.str "cut" :: rest)] st = .ok (.bl (match bt with | [] => false | [a] => betB a 0 200 | [a, b] => false | _ => false)) st := by
  have sm := sl_mid (.str "cut") h hb
  have sb : Sh L (k + 1) (.tup bt) := by simp only [Sh]; exact ⟨hl, hs⟩
  have en := fun st => dEq_nilT (st := st) sb hk
  refine runF_ret ?_
  match bt, hs, sm, en with
  | [], hs, sm, en => simp [g_has_numbers, sm, en]
  | [a], hs, sm, en =>
    have ha := hs a (by simp)
    have q1 := fun st => between_is (n := n) (lo := 0) (hi := 200) (st := st) ha
    simp [g_has_numbers, sm, en, q1]
  | [a, b], hs, sm, en =>
    have ha := hs a (by simp)
    have hb2 := hs b (by simp)
    simp [g_has_numbers, sm, en]
  | a :: b :: c :: r, hs, sm, en => simp [g_has_numbers, sm, en, len3, len31]
theorem hn_left (h : rest ≠ []) (hb : rest.dropLast = bt) (hs : ∀ x ∈ bt, Sh L k x) (hk : k + 1 ≤ 64) (hl : bt.length ≤ L) : fns (n + 3) .has_numbers [.tup (.str "left" :: rest)] st = .ok (.bl (match bt with | [] => false | [a] => betB a 0 200 | [a, b] => false | _ => false)) st := by
  have sm := sl_mid (.str "left") h hb
  have sb : Sh L (k + 1) (.tup bt) := by simp only [Sh]; exact ⟨hl, hs⟩
  have en := fun st => dEq_nilT (st := st) sb hk
  refine runF_ret ?_
  match bt, hs, sm, en with
  | [], hs, sm, en => simp [g_has_numbers, sm, en]
  | [a], hs, sm, en =>
    have ha := hs a (by simp)
    have q1 := fun st => between_is (n := n) (lo := 0) (hi := 200) (st := st) ha
    simp [g_has_numbers, sm, en, q1]
  | [a, b], hs, sm, en =>
    have ha := hs a (by simp)
    have hb2 := hs b (by simp)
    simp [g_has_numbers, sm, en]
  | a :: b :: c :: r, hs, sm, en => simp [g_has_numbers, sm, en, len3, len31]
theorem hn_marks (h : rest ≠ []) (hb : rest.dropLast = bt) (hs : ∀ x ∈ bt, Sh L k x) (hk : k + 1 ≤ 64) (hl : bt.length ≤ L) : fns (n + 3) .has_numbers [.tup (.str "marks" :: rest)] st = .ok (.bl (match bt with | [] => false | [a] => byB a | [a, b] => false | _ => false)) st := by
  have sm := sl_mid (.str "marks") h hb
  have sb : Sh L (k + 1) (.tup bt) := by simp only [Sh]; exact ⟨hl, hs⟩
  have en := fun st => dEq_nilT (st := st) sb hk
  refine runF_ret ?_
  match bt, hs, sm, en with
  | [], hs, sm, en => simp [g_has_numbers, sm, en]
  | [a], hs, sm, en =>
    have ha := hs a (by simp)
    have q1 := fun st => whole_is (n := n + 1) (st := st) ha
    by_cases hi' : ∃ i, a = .int i
    · obtain ⟨i, rfl⟩ := hi'
      simp [g_has_numbers, sm, en, q1, qInt, byB]
    · have z : qInt a = false := by cases a <;> first | rfl | exact absurd ⟨_, rfl⟩ hi'
      have z2 : byB a = false := by cases a <;> first | rfl | exact absurd ⟨_, rfl⟩ hi'
      simp [g_has_numbers, sm, en, q1, z, z2]
  | [a, b], hs, sm, en =>
    have ha := hs a (by simp)
    have hb2 := hs b (by simp)
    simp [g_has_numbers, sm, en]
  | a :: b :: c :: r, hs, sm, en => simp [g_has_numbers, sm, en, len3, len31]
theorem hn_turn (h : rest ≠ []) (hb : rest.dropLast = bt) (hs : ∀ x ∈ bt, Sh L k x) (hk : k + 1 ≤ 64) (hl : bt.length ≤ L) {g : D → Bool} (hr : ∀ x ∈ bt, fns (n + 2) .is_rule [x] st = .ok (.bl (g x)) st) : fns (n + 3) .has_numbers [.tup (.str "turn" :: rest)] st = .ok (.bl (match bt with | [] => false | [a] => g a | [a, b] => false | _ => false)) st := by
  have sm := sl_mid (.str "turn") h hb
  have sb : Sh L (k + 1) (.tup bt) := by simp only [Sh]; exact ⟨hl, hs⟩
  have en := fun st => dEq_nilT (st := st) sb hk
  refine runF_ret ?_
  match bt, hs, sm, en, hr with
  | [], hs, sm, en, hr => simp [g_has_numbers, sm, en]
  | [a], hs, sm, en, hr =>
    have ha := hs a (by simp)
    have q1 := hr a (by simp)
    simp [g_has_numbers, sm, en, q1]
  | [a, b], hs, sm, en, hr =>
    have ha := hs a (by simp)
    have hb2 := hs b (by simp)
    simp [g_has_numbers, sm, en]
  | a :: b :: c :: r, hs, sm, en, hr => simp [g_has_numbers, sm, en, len3, len31]
theorem hn_sieve (h : rest ≠ []) (hb : rest.dropLast = bt) (hs : ∀ x ∈ bt, Sh L k x) (hk : k + 1 ≤ 64) (hl : bt.length ≤ L) {g : D → Bool} (hr : ∀ x ∈ bt, fns (n + 2) .is_test [x] st = .ok (.bl (g x)) st) : fns (n + 3) .has_numbers [.tup (.str "sieve" :: rest)] st = .ok (.bl (match bt with | [] => false | [a] => g a | [a, b] => false | _ => false)) st := by
  have sm := sl_mid (.str "sieve") h hb
  have sb : Sh L (k + 1) (.tup bt) := by simp only [Sh]; exact ⟨hl, hs⟩
  have en := fun st => dEq_nilT (st := st) sb hk
  refine runF_ret ?_
  match bt, hs, sm, en, hr with
  | [], hs, sm, en, hr => simp [g_has_numbers, sm, en]
  | [a], hs, sm, en, hr =>
    have ha := hs a (by simp)
    have q1 := hr a (by simp)
    simp [g_has_numbers, sm, en, q1]
  | [a, b], hs, sm, en, hr =>
    have ha := hs a (by simp)
    have hb2 := hs b (by simp)
    simp [g_has_numbers, sm, en]
  | a :: b :: c :: r, hs, sm, en, hr => simp [g_has_numbers, sm, en, len3, len31]
theorem hn_upto (h : rest ≠ []) (hb : rest.dropLast = bt) (hs : ∀ x ∈ bt, Sh L k x) (hk : k + 1 ≤ 64) (hl : bt.length ≤ L) {g : D → Bool} (hr : ∀ x ∈ bt, fns (n + 2) .is_test [x] st = .ok (.bl (g x)) st) : fns (n + 3) .has_numbers [.tup (.str "upto" :: rest)] st = .ok (.bl (match bt with | [] => false | [a] => g a | [a, b] => false | _ => false)) st := by
  have sm := sl_mid (.str "upto") h hb
  have sb : Sh L (k + 1) (.tup bt) := by simp only [Sh]; exact ⟨hl, hs⟩
  have en := fun st => dEq_nilT (st := st) sb hk
  refine runF_ret ?_
  match bt, hs, sm, en, hr with
  | [], hs, sm, en, hr => simp [g_has_numbers, sm, en]
  | [a], hs, sm, en, hr =>
    have ha := hs a (by simp)
    have q1 := hr a (by simp)
    simp [g_has_numbers, sm, en, q1]
  | [a, b], hs, sm, en, hr =>
    have ha := hs a (by simp)
    have hb2 := hs b (by simp)
    simp [g_has_numbers, sm, en]
  | a :: b :: c :: r, hs, sm, en, hr => simp [g_has_numbers, sm, en, len3, len31]
theorem hn_spare (h : rest ≠ []) (hb : rest.dropLast = bt) (hs : ∀ x ∈ bt, Sh L k x) (hk : k + 1 ≤ 64) (hl : bt.length ≤ L) {g : D → Bool} (hr : ∀ x ∈ bt, fns (n + 2) .is_plan [x] st = .ok (.bl (g x)) st) : fns (n + 3) .has_numbers [.tup (.str "spare" :: rest)] st = .ok (.bl (match bt with | [] => false | [a] => g a | [a, b] => false | _ => false)) st := by
  have sm := sl_mid (.str "spare") h hb
  have sb : Sh L (k + 1) (.tup bt) := by simp only [Sh]; exact ⟨hl, hs⟩
  have en := fun st => dEq_nilT (st := st) sb hk
  refine runF_ret ?_
  match bt, hs, sm, en, hr with
  | [], hs, sm, en, hr => simp [g_has_numbers, sm, en]
  | [a], hs, sm, en, hr =>
    have ha := hs a (by simp)
    have q1 := hr a (by simp)
    simp [g_has_numbers, sm, en, q1]
  | [a, b], hs, sm, en, hr =>
    have ha := hs a (by simp)
    have hb2 := hs b (by simp)
    simp [g_has_numbers, sm, en]
  | a :: b :: c :: r, hs, sm, en, hr => simp [g_has_numbers, sm, en, len3, len31]
end
end K82
end

section
set_option Elab.async false
set_option linter.all false
set_option maxRecDepth 100000
set_option maxHeartbeats 1000000
namespace K82
open PySem L2 G
section
variable {L k n : Nat} {rest : List D} {st : Store}
theorem two_len (h : rest ≠ []) : ¬ ((rest.length : Int) + 1 < 2) := by
  have : rest.length ≠ 0 := fun z => h (List.eq_nil_of_length_eq_zero z)
  omega
theorem ip_ahead {y : D} {a b : Bool} (h : rest ≠ []) (hy : rest.getLast? = some y) (h1 : fns (n + 1) .has_numbers [.tup (.str "ahead" :: rest)] st = .ok (.bl a) st) (h2 : fns (n + 1) .is_plan [y] st = .ok (.bl b) st) : fns (n + 2) .is_plan [.tup (.str "ahead" :: rest)] st = .ok (.bl (a && b)) st := by
  have t1 : ∀ st, dIsT "tuple" (.tup (.str "ahead" :: rest)) st = some (.bl true) := fun st => rfl
  have t2 : ∀ st, dIsT "str" (.str "ahead") st = some (.bl true) := fun st => rfl
  have lx := fun st => dIdx_last (x := .str "ahead") (st := st) hy
  refine runF_ret ?_
  cases a <;> simp [g_is_plan, t1, t2, two_len h, h1, lx, h2]
theorem ip_windows {y : D} {a b : Bool} (h : rest ≠ []) (hy : rest.getLast? = some y) (h1 : fns (n + 1) .has_numbers [.tup (.str "windows" :: rest)] st = .ok (.bl a) st) (h2 : fns (n + 1) .is_plan [y] st = .ok (.bl b) st) : fns (n + 2) .is_plan [.tup (.str "windows" :: rest)] st = .ok (.bl (a && b)) st := by
  have t1 : ∀ st, dIsT "tuple" (.tup (.str "windows" :: rest)) st = some (.bl true) := fun st => rfl
  have t2 : ∀ st, dIsT "str" (.str "windows") st = some (.bl true) := fun st => rfl
  have lx := fun st => dIdx_last (x := .str "windows") (st := st) hy
  refine runF_ret ?_
  cases a <;> simp [g_is_plan, t1, t2, two_len h, h1, lx, h2]
theorem ip_wanted {y : D} {a b : Bool} (h : rest ≠ []) (hy : rest.getLast? = some y) (h1 : fns (n + 1) .has_numbers [.tup (.str "wanted" :: rest)] st = .ok (.bl a) st) (h2 : fns (n + 1) .is_plan [y] st = .ok (.bl b) st) : fns (n + 2) .is_plan [.tup (.str "wanted" :: rest)] st = .ok (.bl (a && b)) st := by
  have t1 : ∀ st, dIsT "tuple" (.tup (.str "wanted" :: rest)) st = some (.bl true) := fun st => rfl
  have t2 : ∀ st, dIsT "str" (.str "wanted") st = some (.bl true) := fun st => rfl
  have lx := fun st => dIdx_last (x := .str "wanted") (st := st) hy
  refine runF_ret ?_
  cases a <;> simp [g_is_plan, t1, t2, two_len h, h1, lx, h2]
theorem ip_turn {y : D} {a b : Bool} (h : rest ≠ []) (hy : rest.getLast? = some y) (h1 : fns (n + 1) .has_numbers [.tup (.str "turn" :: rest)] st = .ok (.bl a) st) (h2 : fns (n + 1) .is_plan [y] st = .ok (.bl b) st) : fns (n + 2) .is_plan [.tup (.str "turn" :: rest)] st = .ok (.bl (a && b)) st := by
  have t1 : ∀ st, dIsT "tuple" (.tup (.str "turn" :: rest)) st = some (.bl true) := fun st => rfl
  have t2 : ∀ st, dIsT "str" (.str "turn") st = some (.bl true) := fun st => rfl
  have lx := fun st => dIdx_last (x := .str "turn") (st := st) hy
  refine runF_ret ?_
  cases a <;> simp [g_is_plan, t1, t2, two_len h, h1, lx, h2]
theorem ip_sieve {y : D} {a b : Bool} (h : rest ≠ []) (hy : rest.getLast? = some y) (h1 : fns (n + 1) .has_numbers [.tup (.str "sieve" :: rest)] st = .ok (.bl a) st) (h2 : fns (n + 1) .is_plan [y] st = .ok (.bl b) st) : fns (n + 2) .is_plan [.tup (.str "sieve" :: rest)] st = .ok (.bl (a && b)) st := by
  have t1 : ∀ st, dIsT "tuple" (.tup (.str "sieve" :: rest)) st = some (.bl true) := fun st => rfl
  have t2 : ∀ st, dIsT "str" (.str "sieve") st = some (.bl true) := fun st => rfl
  have lx := fun st => dIdx_last (x := .str "sieve") (st := st) hy
  refine runF_ret ?_
  cases a <;> simp [g_is_plan, t1, t2, two_len h, h1, lx, h2]
theorem ip_upto {y : D} {a b : Bool} (h : rest ≠ []) (hy : rest.getLast? = some y) (h1 : fns (n + 1) .has_numbers [.tup (.str "upto" :: rest)] st = .ok (.bl a) st) (h2 : fns (n + 1) .is_plan [y] st = .ok (.bl b) st) : fns (n + 2) .is_plan [.tup (.str "upto" :: rest)] st = .ok (.bl (a && b)) st := by
  have t1 : ∀ st, dIsT "tuple" (.tup (.str "upto" :: rest)) st = some (.bl true) := fun st => rfl
  have t2 : ∀ st, dIsT "str" (.str "upto") st = some (.bl true) := fun st => rfl
  have lx := fun st => dIdx_last (x := .str "upto") (st := st) hy
  refine runF_ret ?_
  cases a <;> simp [g_is_plan, t1, t2, two_len h, h1, lx, h2]
theorem ip_cut {y : D} {a b : Bool} (h : rest ≠ []) (hy : rest.getLast? = some y) (h1 : fns (n + 1) .has_numbers [.tup (.str "cut" :: rest)] st = .ok (.bl a) st) (h2 : fns (n + 1) .is_plan [y] st = .ok (.bl b) st) : fns (n + 2) .is_plan [.tup (.str "cut" :: rest)] st = .ok (.bl (a && b)) st := by
  have t1 : ∀ st, dIsT "tuple" (.tup (.str "cut" :: rest)) st = some (.bl true) := fun st => rfl
  have t2 : ∀ st, dIsT "str" (.str "cut") st = some (.bl true) := fun st => rfl
  have lx := fun st => dIdx_last (x := .str "cut") (st := st) hy
  refine runF_ret ?_
  cases a <;> simp [g_is_plan, t1, t2, two_len h, h1, lx, h2]
theorem ip_left {y : D} {a b : Bool} (h : rest ≠ []) (hy : rest.getLast? = some y) (h1 : fns (n + 1) .has_numbers [.tup (.str "left" :: rest)] st = .ok (.bl a) st) (h2 : fns (n + 1) .is_plan [y] st = .ok (.bl b) st) : fns (n + 2) .is_plan [.tup (.str "left" :: rest)] st = .ok (.bl (a && b)) st := by
  have t1 : ∀ st, dIsT "tuple" (.tup (.str "left" :: rest)) st = some (.bl true) := fun st => rfl
  have t2 : ∀ st, dIsT "str" (.str "left") st = some (.bl true) := fun st => rfl
  have lx := fun st => dIdx_last (x := .str "left") (st := st) hy
  refine runF_ret ?_
  cases a <;> simp [g_is_plan, t1, t2, two_len h, h1, lx, h2]
theorem ip_marks {y : D} {a b : Bool} (h : rest ≠ []) (hy : rest.getLast? = some y) (h1 : fns (n + 1) .has_numbers [.tup (.str "marks" :: rest)] st = .ok (.bl a) st) (h2 : fns (n + 1) .is_plan [y] st = .ok (.bl b) st) : fns (n + 2) .is_plan [.tup (.str "marks" :: rest)] st = .ok (.bl (a && b)) st := by
  have t1 : ∀ st, dIsT "tuple" (.tup (.str "marks" :: rest)) st = some (.bl true) := fun st => rfl
  have t2 : ∀ st, dIsT "str" (.str "marks") st = some (.bl true) := fun st => rfl
  have lx := fun st => dIdx_last (x := .str "marks") (st := st) hy
  refine runF_ret ?_
  cases a <;> simp [g_is_plan, t1, t2, two_len h, h1, lx, h2]
theorem ip_spare {y : D} {a b : Bool} (h : rest ≠ []) (hy : rest.getLast? = some y) (h1 : fns (n + 1) .has_numbers [.tup (.str "spare" :: rest)] st = .ok (.bl a) st) (h2 : fns (n + 1) .is_plan [y] st = .ok (.bl b) st) : fns (n + 2) .is_plan [.tup (.str "spare" :: rest)] st = .ok (.bl (a && b)) st := by
  have t1 : ∀ st, dIsT "tuple" (.tup (.str "spare" :: rest)) st = some (.bl true) := fun st => rfl
  have t2 : ∀ st, dIsT "str" (.str "spare") st = some (.bl true) := fun st => rfl
  have lx := fun st => dIdx_last (x := .str "spare") (st := st) hy
  refine runF_ret ?_
  cases a <;> simp [g_is_plan, t1, t2, two_len h, h1, lx, h2]
end
end K82
end

section
set_option Elab.async false
set_option linter.all false
set_option maxRecDepth 100000
set_option maxHeartbeats 1000000
namespace K82
open PySem L2 G
section
variable {L k n : Nat} {rest : List D} {st : Store}
theorem l2 (r : List D) : ¬ ((r.length : Int) + 1 + 1 + 1 + 1 + 1 = 2) := by omega
theorem l3 (r : List D) : ¬ ((r.length : Int) + 1 + 1 + 1 + 1 + 1 = 3) := by omega
theorem l4 (r : List D) : ¬ ((r.length : Int) + 1 + 1 + 1 + 1 + 1 = 4) := by omega
def leafB (w : Str) : List D → Bool
  | [a] => if w = "list" then numsB a else if w = "row" then betB a 0 59 else false
  | [a, b] => if w = "broken" then numsB a && wordB b else false
  | [a, b, c] => if w = "count" then qInt a && (qInt b && betB c 0 200) else false
  | _ => false
theorem leaf_is (w : Str) (hw : w = "list" ∨ w = "row" ∨ w = "broken" ∨ w = "count") (h : rest ≠ []) (hs : ∀ x ∈ rest, Sh L k x) : fns (n + 4) .is_plan [.tup (.str w :: rest)] st = .ok (.bl (leafB w rest)) st := by
  have t1 : ∀ st, dIsT "tuple" (.tup (.str w :: rest)) st = some (.bl true) := fun st => rfl
  have t2 : ∀ st, dIsT "str" (.str w) st = some (.bl true) := fun st => rfl
  have key : fns (n + 3) .is_leaf [.tup (.str w :: rest)] st = .ok (.bl (leafB w rest)) st := by
    refine runF_ret ?_
    have d1 : ¬ (("list" : Str) = "row") := by decide +kernel
    have d2 : ¬ (("list" : Str) = "broken") := by decide +kernel
    have d3 : ¬ (("list" : Str) = "count") := by decide +kernel
    have d4 : ¬ (("row" : Str) = "list") := by decide +kernel
    have d5 : ¬ (("row" : Str) = "broken") := by decide +kernel
    have d6 : ¬ (("row" : Str) = "count") := by decide +kernel
    have d7 : ¬ (("broken" : Str) = "list") := by decide +kernel
    have d8 : ¬ (("broken" : Str) = "row") := by decide +kernel
    have d9 : ¬ (("broken" : Str) = "count") := by decide +kernel
    have da : ¬ (("count" : Str) = "list") := by decide +kernel
    have db : ¬ (("count" : Str) = "row") := by decide +kernel
    have dc : ¬ (("count" : Str) = "broken") := by decide +kernel
    match rest, hs, h with
    | [], hs, h => exact absurd rfl h
    | [a], hs, h =>
      have ha := hs a (by simp)
      have q1 := fun st => numbers_is (n := n) (st := st) ha
      have q2 := fun st => between_is (n := n) (lo := 0) (hi := 59) (st := st) ha
      rcases hw with rfl | rfl | rfl | rfl <;> simp [g_is_leaf, q1, q2, leafB, d1, d2, d3, d4, d5, d6, d7, d8, d9, da, db, dc]
    | [a, b], hs, h =>
      have ha := hs a (by simp)
      have hb := hs b (by simp)
      have q1 := fun st => numbers_is (n := n) (st := st) ha
      have q2 := fun st => word_is (n := n + 1) (st := st) hb
      rcases hw with rfl | rfl | rfl | rfl <;> cases z : numsB a <;> simp [g_is_leaf, q1, q2, z, leafB, d1, d2, d3, d4, d5, d6, d7, d8, d9, da, db, dc]
    | [a, b, c], hs, h =>
      have ha := hs a (by simp)
      have hb := hs b (by simp)
      have hc := hs c (by simp)
      have q1 := fun st => whole_is (n := n + 1) (st := st) ha
      have q2 := fun st => whole_is (n := n + 1) (st := st) hb
      have q3 := fun st => between_is (n := n) (lo := 0) (hi := 200) (st := st) hc
      have i3 : ∀ (w : Str) (st : Store), dIdx (.tup [.str w, a, b, c]) (.int 3) st = some c := fun w st => dIdx_tn (k := 3) rfl
      rcases hw with rfl | rfl | rfl | rfl <;> cases z : qInt a <;> cases z2 : qInt b <;> simp [g_is_leaf, i3, q1, q2, q3, z, z2, leafB, d1, d2, d3, d4, d5, d6, d7, d8, d9, da, db, dc]
    | a :: b :: c :: d :: r, hs, h =>
      rcases hw with rfl | rfl | rfl | rfl <;> simp [g_is_leaf, l2, l3, l4, leafB]
  refine runF_ret ?_
  rcases hw with rfl | rfl | rfl | rfl <;> simp [g_is_plan, t1, t2, two_len h, key]
end
end K82
end

section
set_option Elab.async false
set_option linter.all false
set_option maxRecDepth 100000
set_option maxHeartbeats 1000000
namespace K82
open PySem L2 G
section
variable {L k n : Nat} {rest : List D} {st : Store}
theorem joined_len (w : Str) (hw : w = "chain" ∨ w = "beside") (h : rest ≠ []) (h2 : rest.length ≠ 1) : fns (n + 2) .is_plan [.tup (.str w :: rest)] st = .ok (.bl false) st := by
  have t1 : ∀ st, dIsT "tuple" (.tup (.str w :: rest)) st = some (.bl true) := fun st => rfl
  have t2 : ∀ st, dIsT "str" (.str w) st = some (.bl true) := fun st => rfl
  have hl : ¬ ((rest.length : Int) + 1 = 2) := by omega
  have key : fns (n + 1) .is_joined [.tup (.str w :: rest)] st = .ok (.bl false) st := runF_ret (by simp [g_is_joined, hl])
  refine runF_ret ?_
  rcases hw with rfl | rfl <;> simp [g_is_plan, t1, t2, two_len h, key]
theorem joined_not (w : Str) (hw : w = "chain" ∨ w = "beside") {x : D} (hx : Sh L k x) (ht : ∀ l, x ≠ .tup l) : fns (n + 2) .is_plan [.tup [.str w, x]] st = .ok (.bl false) st := by
  have t1 : ∀ st, dIsT "tuple" (.tup [.str w, x]) st = some (.bl true) := fun st => rfl
  have t2 : ∀ st, dIsT "str" (.str w) st = some (.bl true) := fun st => rfl
  have z : qTup x = false := notTup hx ht
  have key : fns (n + 1) .is_joined [.tup [.str w, x]] st = .ok (.bl false) st := runF_ret (by simp [g_is_joined, dIsT_tuple hx, z])
  refine runF_ret ?_
  rcases hw with rfl | rfl <;> simp [g_is_plan, t1, t2, key]
theorem joined_is (w : Str) (hw : w = "chain" ∨ w = "beside") {l : List D} {f : D → Bool} (h : Sh L (k + 1) (.tup l)) (hk : k + 1 ≤ 64) (hf : ∀ y ∈ l, fns (n + 1) .is_plan [y] st = .ok (.bl (f y)) st) :
    fns (n + 3) .is_plan [.tup [.str w, .tup l]] st = .ok (.bl (decide (l.length ≤ 6) && ((decide (w = "chain") || !l.isEmpty) && l.all f))) st := by
  have t1 : ∀ st, dIsT "tuple" (.tup [.str w, .tup l]) st = some (.bl true) := fun st => rfl
  have t2 : ∀ st, dIsT "str" (.str w) st = some (.bl true) := fun st => rfl
  have t3 : ∀ st, dIsT "tuple" (.tup l) st = some (.bl true) := fun st => rfl
  have n1 : ¬ (("beside" : Str) = "chain") := by decide +kernel
  have ne := fun st => dNe_nilT (st := st) h hk
  have e : eComp [1] (iSeq (eOp dIdx (eVar 0) (eC (.int 1)))) (tgName 1) (fun _ => pure true) (eCall (fns (n + 1) .is_plan) [(eVar 1)]) [some (.tup [.str w, .tup l]), none] st = .ok (.lst (l.map fun d => .bl (f d))) st := by
    refine eComp_of (l := l) (st1 := st) (by simp) ?_
    rw [compGo_map fun d => .bl (f d)]
    · simp
    · intro d hd
      simp [evWipe, hf d hd]
  have key : fns (n + 2) .is_joined [.tup [.str w, .tup l]] st = .ok (.bl (decide (l.length ≤ 6) && ((decide (w = "chain") || !l.isEmpty) && l.all f))) st := by
    refine runF_ret ?_
    by_cases c1 : l.length ≤ 6
    · have c1' : ¬ (6 : Int) < l.length := by omega
      rcases hw with rfl | rfl
      · simp [g_is_joined, t3, c1', e, dAll, bools_map, c1]
      · cases q : l.isEmpty
        · rw [q] at ne
          simp [g_is_joined, t3, c1', ne, e, dAll, bools_map, c1]
        · rw [q] at ne
          simp [g_is_joined, t3, c1', ne, n1]
    · have c1' : (6 : Int) < l.length := by omega
      simp [g_is_joined, t3, c1', c1]
  refine runF_ret ?_
  rcases hw with rfl | rfl <;> simp [g_is_plan, t1, t2, key]
end
end K82
end

section
set_option Elab.async false
set_option linter.all false
set_option maxRecDepth 100000
set_option maxHeartbeats 1000000
namespace K82
open PySem L2 G
def allW : List Str := ["list", "broken", "count", "row", "turn", "sieve", "upto", "cut", "left", "chain", "beside", "ahead", "windows", "marks", "spare", "wanted"]
section
variable {L k n : Nat} {rest : List D} {st : Store}
theorem other_is {w : Str} (hw : w ∉ allW) (h : rest ≠ []) (hs : Sh L (k + 1) (.tup (.str w :: rest))) (hk : k + 1 ≤ 64) : fns (n + 3) .is_plan [.tup (.str w :: rest)] st = .ok (.bl false) st := by
  have hs' := hs
  simp only [Sh] at hs'
  have hw0 := hs'.2 (.str w) (by simp)
  have t1 : ∀ st, dIsT "tuple" (.tup (.str w :: rest)) st = some (.bl true) := fun st => rfl
  have t2 : ∀ st, dIsT "str" (.str w) st = some (.bl true) := fun st => rfl
  have no : ∀ x ∈ allW, isW (.str w) x = false := fun x hx => by
    rw [isW_dec]
    exact decide_eq_false fun z => hw (z ▸ hx)
  have e : ∀ x ∈ allW, PyData.strOk x = true → ∀ st, dEq (.str w) (.str x) st = some (.bl false) := fun x hx ho st => by
    rw [dEq_w hw0 (by omega) ho, no x hx]
  have i : ∀ x y, x ∈ allW → y ∈ allW → [x, y].all PyData.strOk = true → ∀ st, dIn (.str w) (.tup [.str x, .str y]) st = some (.bl false) := fun x y hx hy ho st => by
    rw [dIn_2 hw0 (by omega) ho, no x hx, no y hy]; rfl
  have il : ∀ st, dIn (.str w) (.tup [.str "list", .str "broken", .str "count", .str "row"]) st = some (.bl false) := fun st => by
    have e1 := inD_strs (xs := ["list", "broken", "count", "row"]) hw0 (by omega) (by decide +kernel)
    have e2 : ((["list", "broken", "count", "row"] : List Str).any fun x => isW (.str w) x) = false := by
      simp [no "list" (by simp [allW]), no "broken" (by simp [allW]), no "count" (by simp [allW]), no "row" (by simp [allW])]
    rw [e2] at e1
    simp only [List.map_cons, List.map_nil] at e1
    simp only [dIn, e1, Option.map_some]
  have i1 := i "chain" "beside" (by simp [allW]) (by simp [allW]) (by decide +kernel)
  have i2 := i "sieve" "upto" (by simp [allW]) (by simp [allW]) (by decide +kernel)
  have i3 := i "cut" "left" (by simp [allW]) (by simp [allW]) (by decide +kernel)
  have e1 := e "ahead" (by simp [allW]) (by decide +kernel)
  have e2 := e "windows" (by simp [allW]) (by decide +kernel)
  have e3 := e "wanted" (by simp [allW]) (by decide +kernel)
  have e4 := e "turn" (by simp [allW]) (by decide +kernel)
  have e5 := e "marks" (by simp [allW]) (by decide +kernel)
  have e6 := e "spare" (by simp [allW]) (by decide +kernel)
  obtain ⟨bt, hbt⟩ : ∃ bt, rest.dropLast = bt := ⟨_, rfl⟩
  have sm := sl_mid (.str w) h hbt
  have key : fns (n + 2) .has_numbers [.tup (.str w :: rest)] st = .ok (.bl false) st := by
    refine runF_ret ?_
    by_cases hb : (bt.length : Int) = 1
    · simp [g_has_numbers, sm, e1, e2, e3, e4, e5, e6, i2, i3, hb]
    · simp [g_has_numbers, sm, e1, e2, e3, hb]
  exact runF_ret (by simp [g_is_plan, t1, t2, two_len h, il, i1, key])
end
end K82
end

section
set_option Elab.async false
set_option linter.all false
set_option maxRecDepth 100000
set_option maxHeartbeats 1000000
namespace K82
open PySem L2 G
def Same (N : Nat) (d : D) (b : Bool) : Prop := (∀ st n, N ≤ n → fns n .is_plan [d] st = .ok (.bl b) st) ∧ ∀ n, N ≤ n → Tells n .l_reads_plan [d] b
section
variable {L k N : Nat}
theorem same_not {d : D} (h : Sh L k d) (ht : ∀ l, d ≠ .tup l) : Same 1 d false := by
  have z : qTup d = false := notTup h ht
  refine ⟨fun st n hn => ?_, fun n hn => Tells.of fun st => ?_⟩
  · obtain ⟨m, rfl⟩ : ∃ m, n = m + 1 := ⟨n - 1, by omega⟩
    exact runF_ret (by simp [g_is_plan, dIsT_tuple h, z])
  · obtain ⟨m, rfl⟩ : ∃ m, n = m + 1 := ⟨n - 1, by omega⟩
    exact runF_ret (by simp [g_l_reads_plan, dIsT_tuple h, z])
theorem same_short {l : List D} (hl : l.length < 2) : Same 1 (.tup l) false := by
  have t1 : ∀ st, dIsT "tuple" (.tup l) st = some (.bl true) := fun st => rfl
  have c : (l.length : Int) < 2 := by omega
  refine ⟨fun st n hn => ?_, fun n hn => Tells.of fun st => ?_⟩
  · obtain ⟨m, rfl⟩ : ∃ m, n = m + 1 := ⟨n - 1, by omega⟩
    exact runF_ret (by simp [g_is_plan, t1, c])
  · obtain ⟨m, rfl⟩ : ∃ m, n = m + 1 := ⟨n - 1, by omega⟩
    exact runF_ret (by simp [g_l_reads_plan, t1, c])
theorem same_nostr {x : D} {rest : List D} (h : Sh L k x) (hs : qStr x = false) : Same 1 (.tup (x :: rest)) false := by
  by_cases hr : rest = []
  · subst hr; exact same_short (by simp)
  have t1 : ∀ st, dIsT "tuple" (.tup (x :: rest)) st = some (.bl true) := fun st => rfl
  refine ⟨fun st n hn => ?_, fun n hn => Tells.of fun st => ?_⟩
  · obtain ⟨m, rfl⟩ : ∃ m, n = m + 1 := ⟨n - 1, by omega⟩
    exact runF_ret (by simp [g_is_plan, t1, two_len hr, dIsT_str h, hs])
  · obtain ⟨m, rfl⟩ : ∃ m, n = m + 1 := ⟨n - 1, by omega⟩
    exact runF_ret (by simp [g_l_reads_plan, t1, two_len hr, dIsT_str h, hs])
end
end K82
end

section
set_option Elab.async false
set_option linter.all false
set_option maxRecDepth 100000
set_option maxHeartbeats 1000000
namespace K82
open PySem L2 G
section
variable {L k : Nat} {rest : List D}
theorem Same.mono {N N' : Nat} {d : D} {b : Bool} (h : Same N d b) (hn : N ≤ N') : Same N' d b := ⟨fun st n h1 => h.1 st n (by omega), fun n h1 => h.2 n (by omega)⟩
/-- where the number of parts is not the word's -/
theorem reads_len {w : Str} (h : Sh L (k + 1) (.tup (.str w :: rest))) (hr : rest ≠ []) (hl : (sortsOf w).length ≠ rest.length) (ho : (sortsOf w).all PyData.strOk = true) : ∀ n, 2 ≤ n → Tells n .l_reads_plan [.tup (.str w :: rest)] false := fun n hn st => by
  obtain ⟨m, rfl⟩ : ∃ m, n = m + 2 := ⟨n - 2, by omega⟩
  exact plan_head h hr (.inr hl) ho
theorem pr_list (h : Sh L (k + 1) (.tup (.str "list" :: rest))) (hr : rest ≠ []) (hk : k + 1 ≤ 60) : ∃ b, Same (2 * (k + 1) + 10) (.tup (.str "list" :: rest)) b := by
  have h' := h
  simp only [Sh] at h'
  have hs : ∀ x ∈ rest, Sh L k x := fun x hx => h'.2 x (by simp [hx])
  have so : sortsOf "list" = (["numbers"] : List Str) := by decide +kernel
  refine ⟨leafB "list" rest, fun st n hn => ?_, fun n hn => ?_⟩
  · obtain ⟨m, rfl⟩ : ∃ m, n = m + 4 := ⟨n - 4, by omega⟩
    exact leaf_is "list" (.inl rfl) hr hs
  · obtain ⟨m, rfl⟩ : ∃ m, n = m + 3 := ⟨n - 3, by omega⟩
    by_cases hl : rest.length = 1
    · obtain ⟨a, rfl⟩ : ∃ a, rest = [a] := by
        match rest, hl with
        | [a], _ => exact ⟨a, rfl⟩
      have ha := hs a (by simp)
      have p := plan_parts (n := m + 1) (f := fun _ => numsB a) h hr (by rw [so]; decide +kernel) (by rw [so]; rfl) (by simp) (by rw [so]; decide +kernel) (fun i s hi => by
        rw [so] at hi
        match i, hi with
        | 0, hi => cases hi; exact ⟨a, rfl, part_numbers ha (by omega)⟩)
      simpa [leafB] using p
    · have e : leafB "list" rest = false := by
        match rest, hl with
        | [], _ => rfl
        | [a, b], _ => simp only [leafB]; exact if_neg (show ¬ (("list" : Str) = "broken") by decide +kernel)
        | [a, b, c], _ => simp only [leafB]; exact if_neg (show ¬ (("list" : Str) = "count") by decide +kernel)
        | a :: b :: c :: d :: r, _ => rfl
      rw [e]
      exact reads_len h hr (by rw [so]; simpa using Ne.symm hl) (by rw [so]; decide +kernel) _ (by omega)
end
end K82
end

section
set_option Elab.async false
set_option linter.all false
set_option maxRecDepth 100000
set_option maxHeartbeats 1000000
namespace K82
open PySem L2 G
section
variable {L k : Nat} {rest : List D}
theorem pr_row (h : Sh L (k + 1) (.tup (.str "row" :: rest))) (hr : rest ≠ []) (hk : k + 1 ≤ 60) : ∃ b, Same (2 * (k + 1) + 10) (.tup (.str "row" :: rest)) b := by
  have h' := h
  simp only [Sh] at h'
  have hs : ∀ x ∈ rest, Sh L k x := fun x hx => h'.2 x (by simp [hx])
  have so : sortsOf "row" = (["row"] : List Str) := by decide +kernel
  refine ⟨leafB "row" rest, fun st n hn => ?_, fun n hn => ?_⟩
  · obtain ⟨m, rfl⟩ : ∃ m, n = m + 4 := ⟨n - 4, by omega⟩
    exact leaf_is "row" (.inr (.inl rfl)) hr hs
  · obtain ⟨m, rfl⟩ : ∃ m, n = m + 3 := ⟨n - 3, by omega⟩
    by_cases hl : rest.length = 1
    · obtain ⟨a, rfl⟩ : ∃ a, rest = [a] := by
        match rest, hl with
        | [a], _ => exact ⟨a, rfl⟩
      have ha := hs a (by simp)
      have p := plan_parts (n := m + 1) (f := fun i => match i with  | _ => betB a 0 59) h hr (by rw [so]; decide +kernel) (by rw [so]; rfl) (by simp) (by rw [so]; decide +kernel) (fun i s hi => by
        rw [so] at hi
        match i, hi with
        | 0, hi => cases hi; exact ⟨a, rfl, part_bet "row" 0 59 (.inr (.inl ⟨rfl, rfl, rfl⟩)) ha⟩)
      have nl : ¬ (("row" : Str) = "list") := by decide +kernel
      simpa [leafB, List.range_succ, nl] using p
    · have e : leafB "row" rest = false := by
        match rest, hl with
        | [], _ => rfl
        | [a, b], _ => simp only [leafB]; exact if_neg (show ¬ (("row" : Str) = "broken") by decide +kernel)
        | [a, b, c], _ => simp only [leafB]; exact if_neg (show ¬ (("row" : Str) = "count") by decide +kernel)
        | a :: b :: c :: d :: r, _ => rfl
      rw [e]
      exact reads_len h hr (by rw [so]; simpa using Ne.symm hl) (by rw [so]; decide +kernel) _ (by omega)
theorem pr_broken (h : Sh L (k + 1) (.tup (.str "broken" :: rest))) (hr : rest ≠ []) (hk : k + 1 ≤ 60) : ∃ b, Same (2 * (k + 1) + 10) (.tup (.str "broken" :: rest)) b := by
  have h' := h
  simp only [Sh] at h'
  have hs : ∀ x ∈ rest, Sh L k x := fun x hx => h'.2 x (by simp [hx])
  have so : sortsOf "broken" = (["numbers", "word"] : List Str) := by decide +kernel
  refine ⟨leafB "broken" rest, fun st n hn => ?_, fun n hn => ?_⟩
  · obtain ⟨m, rfl⟩ : ∃ m, n = m + 4 := ⟨n - 4, by omega⟩
    exact leaf_is "broken" (.inr (.inr (.inl rfl))) hr hs
  · obtain ⟨m, rfl⟩ : ∃ m, n = m + 3 := ⟨n - 3, by omega⟩
    by_cases hl : rest.length = 2
    · obtain ⟨a, b, rfl⟩ : ∃ a b, rest = [a, b] := by
        match rest, hl with
        | [a, b], _ => exact ⟨a, b, rfl⟩
      have ha := hs a (by simp)
      have hb := hs b (by simp)
      have p := plan_parts (n := m + 1) (f := fun i => match i with | 0 => numsB a | _ => wordB b) h hr (by rw [so]; decide +kernel) (by rw [so]; rfl) (by simp) (by rw [so]; decide +kernel) (fun i s hi => by
        rw [so] at hi
        match i, hi with
        | 0, hi => cases hi; exact ⟨a, rfl, part_numbers ha (by omega)⟩
        | 1, hi => cases hi; exact ⟨b, rfl, part_word hb⟩)
      simpa [leafB, List.range_succ] using p
    · have e : leafB "broken" rest = false := by
        match rest, hl with
        | [], _ => rfl
        | [a], _ => simp only [leafB]; rw [if_neg (show ¬ (("broken" : Str) = "list") by decide +kernel)]; exact if_neg (show ¬ (("broken" : Str) = "row") by decide +kernel)
        | [a, b, c], _ => simp only [leafB]; exact if_neg (show ¬ (("broken" : Str) = "count") by decide +kernel)
        | a :: b :: c :: d :: r, _ => rfl
      rw [e]
      exact reads_len h hr (by rw [so]; simpa using Ne.symm hl) (by rw [so]; decide +kernel) _ (by omega)
theorem pr_count (h : Sh L (k + 1) (.tup (.str "count" :: rest))) (hr : rest ≠ []) (hk : k + 1 ≤ 60) : ∃ b, Same (2 * (k + 1) + 10) (.tup (.str "count" :: rest)) b := by
  have h' := h
  simp only [Sh] at h'
  have hs : ∀ x ∈ rest, Sh L k x := fun x hx => h'.2 x (by simp [hx])
  have so : sortsOf "count" = (["any", "any", "far"] : List Str) := by decide +kernel
  refine ⟨leafB "count" rest, fun st n hn => ?_, fun n hn => ?_⟩
  · obtain ⟨m, rfl⟩ : ∃ m, n = m + 4 := ⟨n - 4, by omega⟩
    exact leaf_is "count" (.inr (.inr (.inr rfl))) hr hs
  · obtain ⟨m, rfl⟩ : ∃ m, n = m + 3 := ⟨n - 3, by omega⟩
    by_cases hl : rest.length = 3
    · obtain ⟨a, b, c, rfl⟩ : ∃ a b c, rest = [a, b, c] := by
        match rest, hl with
        | [a, b, c], _ => exact ⟨a, b, c, rfl⟩
      have ha := hs a (by simp)
      have hb := hs b (by simp)
      have hc := hs c (by simp)
      have p := plan_parts (n := m + 1) (f := fun i => match i with | 0 => qInt a | 1 => qInt b | _ => betB c 0 200) h hr (by rw [so]; decide +kernel) (by rw [so]; rfl) (by simp) (by rw [so]; decide +kernel) (fun i s hi => by
        rw [so] at hi
        match i, hi with
        | 0, hi => cases hi; exact ⟨a, rfl, part_any ha⟩
        | 1, hi => cases hi; exact ⟨b, rfl, part_any hb⟩
        | 2, hi => cases hi; exact ⟨c, rfl, part_bet "far" 0 200 (.inl ⟨rfl, rfl, rfl⟩) hc⟩)
      simpa [leafB, List.range_succ] using p
    · have e : leafB "count" rest = false := by
        match rest, hl with
        | [], _ => rfl
        | [a], _ => simp only [leafB]; rw [if_neg (show ¬ (("count" : Str) = "list") by decide +kernel)]; exact if_neg (show ¬ (("count" : Str) = "row") by decide +kernel)
        | [a, b], _ => simp only [leafB]; exact if_neg (show ¬ (("count" : Str) = "broken") by decide +kernel)
        | a :: b :: c :: d :: r, _ => rfl
      rw [e]
      exact reads_len h hr (by rw [so]; simpa using Ne.symm hl) (by rw [so]; decide +kernel) _ (by omega)
end
end K82
end

section
set_option Elab.async false
set_option linter.all false
set_option maxRecDepth 100000
set_option maxHeartbeats 1000000
namespace K82
open PySem L2 G
section
variable {L k : Nat} {rest : List D}
theorem pr_join (w s : Str) (hws : (w = "chain" ∧ s = "some") ∨ (w = "beside" ∧ s = "more")) (h : Sh L (k + 1) (.tup (.str w :: rest))) (hr : rest ≠ []) (hk : k + 1 ≤ 60) (IH : ∀ k' d, k' + 1 ≤ k → Sh L k' d → ∃ b, Same (2 * k' + 10) d b) : ∃ b, Same (2 * (k + 1) + 10) (.tup (.str w :: rest)) b := by
  have h' := h
  simp only [Sh] at h'
  have hs : ∀ x ∈ rest, Sh L k x := fun x hx => h'.2 x (by simp [hx])
  have hw : w = "chain" ∨ w = "beside" := hws.imp And.left And.left
  have hs2 : s = "some" ∨ s = "more" := hws.imp And.right And.right
  have so : sortsOf w = [s] := by rcases hws with ⟨rfl, rfl⟩ | ⟨rfl, rfl⟩ <;> decide +kernel
  have so1 : [s] ≠ noneL := by rcases hs2 with rfl | rfl <;> decide +kernel
  have so2 : [s].all PyData.strOk = true := by rcases hs2 with rfl | rfl <;> decide +kernel
  have sw : decide (s = "some") = decide (w = "chain") := by rcases hws with ⟨rfl, rfl⟩ | ⟨rfl, rfl⟩ <;> decide +kernel
  by_cases hl : rest.length = 1
  · obtain ⟨x, rfl⟩ : ∃ a, rest = [a] := by
      match rest, hl with
      | [a], _ => exact ⟨a, rfl⟩
    have hx := hs x (by simp)
    by_cases ht : ∃ l, x = .tup l
    · obtain ⟨l, rfl⟩ := ht
      cases k with
      | zero => simp [Sh] at hx
      | succ k =>
        have hx' := hx
        simp only [Sh] at hx'
        obtain ⟨f, hf⟩ := pickD fun y hy => IH k y (by omega) (hx'.2 y hy)
        refine ⟨decide (l.length ≤ 6) && ((decide (w = "chain") || !l.isEmpty) && l.all f), fun st n hn => ?_, fun n hn => ?_⟩
        · obtain ⟨m, rfl⟩ : ∃ m, n = m + 3 := ⟨n - 3, by omega⟩
          exact joined_is w hw hx (by omega) fun y hy => (hf y hy).1 st (m + 1) (by omega)
        · obtain ⟨m, rfl⟩ : ∃ m, n = m + 2 := ⟨n - 2, by omega⟩
          have p := plan_parts (n := m) (f := fun _ => decide (l.length ≤ 6) && ((decide (w = "chain") || !l.isEmpty) && l.all f)) h hr (by rw [so]; exact so1) (by rw [so]; rfl) (by simp) (by rw [so]; exact so2) (fun i s' hi => by
            rw [so] at hi
            match i, hi with
            | 0, hi =>
              cases hi
              refine ⟨.tup l, rfl, ?_⟩
              rw [← sw]
              exact part_some hx (by omega) (fun y hy => (hf y hy).2 m (by omega)) s hs2)
          simpa using p
    · refine ⟨false, fun st n hn => ?_, fun n hn => ?_⟩
      · obtain ⟨m, rfl⟩ : ∃ m, n = m + 2 := ⟨n - 2, by omega⟩
        exact joined_not w hw hx fun l e => ht ⟨l, e⟩
      · obtain ⟨m, rfl⟩ : ∃ m, n = m + 2 := ⟨n - 2, by omega⟩
        have p := plan_parts (n := m) (f := fun _ => false) h hr (by rw [so]; exact so1) (by rw [so]; rfl) (by simp) (by rw [so]; exact so2) (fun i s' hi => by
          rw [so] at hi
          match i, hi with
          | 0, hi =>
            cases hi
            exact ⟨x, rfl, part_none hx (fun l e => ht ⟨l, e⟩) s hs2⟩)
        simpa using p
  · refine ⟨false, fun st n hn => ?_, fun n hn => ?_⟩
    · obtain ⟨m, rfl⟩ : ∃ m, n = m + 2 := ⟨n - 2, by omega⟩
      exact joined_len w hw hr hl
    · exact reads_len h hr (by rw [so]; simpa using Ne.symm hl) (by rw [so]; exact so2) _ (by omega)
end
end K82
end

section
set_option Elab.async false
set_option linter.all false
set_option maxRecDepth 100000
set_option maxHeartbeats 1000000
namespace K82
open PySem L2 G
section
variable {L k : Nat} {rest : List D}
theorem mem_dl {x : D} (l : List D) (h : x ∈ l.dropLast) : x ∈ l := by
  rw [List.dropLast_eq_take] at h
  exact List.mem_of_mem_take h
theorem len_dl (l : List D) : l.dropLast.length ≤ l.length := by
  rw [List.length_dropLast]; omega
theorem pr_ahead (h : Sh L (k + 1) (.tup (.str "ahead" :: rest))) (hr : rest ≠ []) (hk : k + 1 ≤ 60) (IH : ∀ d, Sh L k d → ∃ b, Same (2 * k + 10) d b) : ∃ b, Same (2 * (k + 1) + 10) (.tup (.str "ahead" :: rest)) b := by
  have h' := h
  simp only [Sh] at h'
  have hs : ∀ x ∈ rest, Sh L k x := fun x hx => h'.2 x (by simp [hx])
  have so : sortsOf "ahead" = (["plan"] : List Str) := by decide +kernel
  clear hr
  match rest with
  | [] => exact ⟨false, (same_short (by simp)).mono (by omega)⟩
  | [y0] =>

    obtain ⟨y, hy⟩ : ∃ y, ([y0] : List D).getLast? = some y := ⟨y0, by simp⟩
    have ym : y ∈ ([y0] : List D) := List.mem_of_getLast? hy
    obtain ⟨p, hp⟩ := IH y (hs y ym)
    have hbt : ∀ x ∈ ([] : List D), x ∈ ([y0] : List D) := fun x hx => mem_dl ([y0]) hx
    refine ⟨true && p, fun st n hn => ?_, fun n hn => ?_⟩
    · obtain ⟨q, rfl⟩ : ∃ q, n = q + 4 := ⟨n - 4, by omega⟩
      have e1 := hn_ahead (n := q) (st := st) (rest := [y0]) (bt := []) (by simp) rfl (fun x hx => hs x (hbt x hx)) (by omega) (Nat.le_trans (len_dl ([y0])) (Nat.le_trans (Nat.le_succ _) h'.1))
      exact ip_ahead (n := q + 2) (by simp) hy e1 (hp.1 st _ (by omega))
    · obtain ⟨q, rfl⟩ : ∃ q, n = q + 4 := ⟨n - 4, by omega⟩
      have pp := plan_parts (n := q + 2) (f := fun _ => p) h (by simp) (by rw [so]; decide +kernel) (by rw [so]; rfl) (by simp) (by rw [so]; decide +kernel) (fun i s hi => by
        rw [so] at hi
        match i, hi with
        | 0, hi => cases hi; exact ⟨y0, rfl, part_plan ((by cases hy; exact hp : Same _ y0 p).2 _ (by omega))⟩)
      simpa [List.range_succ, Bool.and_assoc] using pp
  | [a, y0] =>
    have ha := hs a (by simp)
    obtain ⟨y, hy⟩ : ∃ y, ([a, y0] : List D).getLast? = some y := ⟨y0, by simp⟩
    have ym : y ∈ ([a, y0] : List D) := List.mem_of_getLast? hy
    obtain ⟨p, hp⟩ := IH y (hs y ym)
    have hbt : ∀ x ∈ ([a] : List D), x ∈ ([a, y0] : List D) := fun x hx => mem_dl ([a, y0]) hx
    refine ⟨false && p, fun st n hn => ?_, fun n hn => ?_⟩
    · obtain ⟨q, rfl⟩ : ∃ q, n = q + 4 := ⟨n - 4, by omega⟩
      have e1 := hn_ahead (n := q) (st := st) (rest := [a, y0]) (bt := [a]) (by simp) rfl (fun x hx => hs x (hbt x hx)) (by omega) (Nat.le_trans (len_dl ([a, y0])) (Nat.le_trans (Nat.le_succ _) h'.1))
      exact ip_ahead (n := q + 2) (by simp) hy e1 (hp.1 st _ (by omega))
    · rw [Bool.false_and]
      exact reads_len h (by simp) (by rw [so]; simp) (by rw [so]; decide +kernel) _ (by omega)
  | [a, b, y0] =>
    have ha := hs a (by simp)
    have hb := hs b (by simp)
    obtain ⟨y, hy⟩ : ∃ y, ([a, b, y0] : List D).getLast? = some y := ⟨y0, by simp⟩
    have ym : y ∈ ([a, b, y0] : List D) := List.mem_of_getLast? hy
    obtain ⟨p, hp⟩ := IH y (hs y ym)
    have hbt : ∀ x ∈ ([a, b] : List D), x ∈ ([a, b, y0] : List D) := fun x hx => mem_dl ([a, b, y0]) hx
    refine ⟨false && p, fun st n hn => ?_, fun n hn => ?_⟩
    · obtain ⟨q, rfl⟩ : ∃ q, n = q + 4 := ⟨n - 4, by omega⟩
      have e1 := hn_ahead (n := q) (st := st) (rest := [a, b, y0]) (bt := [a, b]) (by simp) rfl (fun x hx => hs x (hbt x hx)) (by omega) (Nat.le_trans (len_dl ([a, b, y0])) (Nat.le_trans (Nat.le_succ _) h'.1))
      exact ip_ahead (n := q + 2) (by simp) hy e1 (hp.1 st _ (by omega))
    · rw [Bool.false_and]
      exact reads_len h (by simp) (by rw [so]; simp) (by rw [so]; decide +kernel) _ (by omega)
  | a :: b :: c :: d :: r =>

    obtain ⟨y, hy⟩ : ∃ y, (a :: b :: c :: d :: r : List D).getLast? = some y := ⟨_, List.getLast?_eq_some_getLast (by simp)⟩
    have ym : y ∈ (a :: b :: c :: d :: r : List D) := List.mem_of_getLast? hy
    obtain ⟨p, hp⟩ := IH y (hs y ym)
    have hbt : ∀ x ∈ (a :: b :: c :: (d :: r).dropLast : List D), x ∈ (a :: b :: c :: d :: r : List D) := fun x hx => mem_dl (a :: b :: c :: d :: r) hx
    refine ⟨false && p, fun st n hn => ?_, fun n hn => ?_⟩
    · obtain ⟨q, rfl⟩ : ∃ q, n = q + 4 := ⟨n - 4, by omega⟩
      have e1 := hn_ahead (n := q) (st := st) (rest := a :: b :: c :: d :: r) (bt := a :: b :: c :: (d :: r).dropLast) (by simp) rfl (fun x hx => hs x (hbt x hx)) (by omega) (Nat.le_trans (len_dl (a :: b :: c :: d :: r)) (Nat.le_trans (Nat.le_succ _) h'.1))
      exact ip_ahead (n := q + 2) (by simp) hy e1 (hp.1 st _ (by omega))
    · rw [Bool.false_and]
      exact reads_len h (by simp) (by rw [so]; simp) (by rw [so]; decide +kernel) _ (by omega)
theorem pr_turn (h : Sh L (k + 1) (.tup (.str "turn" :: rest))) (hr : rest ≠ []) (hk : k + 1 ≤ 60) (IH : ∀ d, Sh L k d → ∃ b, Same (2 * k + 10) d b) : ∃ b, Same (2 * (k + 1) + 10) (.tup (.str "turn" :: rest)) b := by
  have h' := h
  simp only [Sh] at h'
  have hs : ∀ x ∈ rest, Sh L k x := fun x hx => h'.2 x (by simp [hx])
  have so : sortsOf "turn" = (["rule", "plan"] : List Str) := by decide +kernel
  obtain ⟨g, ga⟩ := pickD (l := rest) (R := fun x b => (∀ st n, 3 ≤ n → fns n .is_rule [x] st = .ok (.bl b) st) ∧ ∀ st n, 2 ≤ n → fns n .l_reads_rule [x] st = .ok (.bl b) st) fun x hx => by
    obtain ⟨b, h1, h2⟩ := rule_reads (hs x hx) (by omega)
    exact ⟨b, fun st n hn => by obtain ⟨q, rfl⟩ : ∃ q, n = q + 3 := ⟨n - 3, by omega⟩; exact h1 st q, fun st n hn => by obtain ⟨q, rfl⟩ : ∃ q, n = q + 2 := ⟨n - 2, by omega⟩; exact h2 st q⟩
  clear hr
  match rest with
  | [] => exact ⟨false, (same_short (by simp)).mono (by omega)⟩
  | [y0] =>

    obtain ⟨y, hy⟩ : ∃ y, ([y0] : List D).getLast? = some y := ⟨y0, by simp⟩
    have ym : y ∈ ([y0] : List D) := List.mem_of_getLast? hy
    obtain ⟨p, hp⟩ := IH y (hs y ym)
    have hbt : ∀ x ∈ ([] : List D), x ∈ ([y0] : List D) := fun x hx => mem_dl ([y0]) hx
    refine ⟨false && p, fun st n hn => ?_, fun n hn => ?_⟩
    · obtain ⟨q, rfl⟩ : ∃ q, n = q + 4 := ⟨n - 4, by omega⟩
      have e1 := hn_turn (n := q) (st := st) (rest := [y0]) (bt := []) (by simp) rfl (fun x hx => hs x (hbt x hx)) (by omega) (Nat.le_trans (len_dl ([y0])) (Nat.le_trans (Nat.le_succ _) h'.1)) (fun x hx => (ga x (hbt x hx)).1 st _ (by omega))
      exact ip_turn (n := q + 2) (by simp) hy e1 (hp.1 st _ (by omega))
    · rw [Bool.false_and]
      exact reads_len h (by simp) (by rw [so]; simp) (by rw [so]; decide +kernel) _ (by omega)
  | [a, y0] =>
    have ha := hs a (by simp)
    obtain ⟨y, hy⟩ : ∃ y, ([a, y0] : List D).getLast? = some y := ⟨y0, by simp⟩
    have ym : y ∈ ([a, y0] : List D) := List.mem_of_getLast? hy
    obtain ⟨p, hp⟩ := IH y (hs y ym)
    have hbt : ∀ x ∈ ([a] : List D), x ∈ ([a, y0] : List D) := fun x hx => mem_dl ([a, y0]) hx
    refine ⟨g a && p, fun st n hn => ?_, fun n hn => ?_⟩
    · obtain ⟨q, rfl⟩ : ∃ q, n = q + 4 := ⟨n - 4, by omega⟩
      have e1 := hn_turn (n := q) (st := st) (rest := [a, y0]) (bt := [a]) (by simp) rfl (fun x hx => hs x (hbt x hx)) (by omega) (Nat.le_trans (len_dl ([a, y0])) (Nat.le_trans (Nat.le_succ _) h'.1)) (fun x hx => (ga x (hbt x hx)).1 st _ (by omega))
      exact ip_turn (n := q + 2) (by simp) hy e1 (hp.1 st _ (by omega))
    · obtain ⟨q, rfl⟩ : ∃ q, n = q + 4 := ⟨n - 4, by omega⟩
      have pp := plan_parts (n := q + 2) (f := fun i => match i with | 0 => g a | _ => p) h (by simp) (by rw [so]; decide +kernel) (by rw [so]; rfl) (by simp) (by rw [so]; decide +kernel) (fun i s hi => by
        rw [so] at hi
        match i, hi with
        | 0, hi => cases hi; exact ⟨a, rfl, part_rule (Tells.of fun st => (ga a (by simp)).2 st _ (by omega))⟩
        | 1, hi => cases hi; exact ⟨y0, rfl, part_plan ((by cases hy; exact hp : Same _ y0 p).2 _ (by omega))⟩)
      simpa [List.range_succ, Bool.and_assoc] using pp
  | [a, b, y0] =>
    have ha := hs a (by simp)
    have hb := hs b (by simp)
    obtain ⟨y, hy⟩ : ∃ y, ([a, b, y0] : List D).getLast? = some y := ⟨y0, by simp⟩
    have ym : y ∈ ([a, b, y0] : List D) := List.mem_of_getLast? hy
    obtain ⟨p, hp⟩ := IH y (hs y ym)
    have hbt : ∀ x ∈ ([a, b] : List D), x ∈ ([a, b, y0] : List D) := fun x hx => mem_dl ([a, b, y0]) hx
    refine ⟨false && p, fun st n hn => ?_, fun n hn => ?_⟩
    · obtain ⟨q, rfl⟩ : ∃ q, n = q + 4 := ⟨n - 4, by omega⟩
      have e1 := hn_turn (n := q) (st := st) (rest := [a, b, y0]) (bt := [a, b]) (by simp) rfl (fun x hx => hs x (hbt x hx)) (by omega) (Nat.le_trans (len_dl ([a, b, y0])) (Nat.le_trans (Nat.le_succ _) h'.1)) (fun x hx => (ga x (hbt x hx)).1 st _ (by omega))
      exact ip_turn (n := q + 2) (by simp) hy e1 (hp.1 st _ (by omega))
    · rw [Bool.false_and]
      exact reads_len h (by simp) (by rw [so]; simp) (by rw [so]; decide +kernel) _ (by omega)
  | a :: b :: c :: d :: r =>

    obtain ⟨y, hy⟩ : ∃ y, (a :: b :: c :: d :: r : List D).getLast? = some y := ⟨_, List.getLast?_eq_some_getLast (by simp)⟩
    have ym : y ∈ (a :: b :: c :: d :: r : List D) := List.mem_of_getLast? hy
    obtain ⟨p, hp⟩ := IH y (hs y ym)
    have hbt : ∀ x ∈ (a :: b :: c :: (d :: r).dropLast : List D), x ∈ (a :: b :: c :: d :: r : List D) := fun x hx => mem_dl (a :: b :: c :: d :: r) hx
    refine ⟨false && p, fun st n hn => ?_, fun n hn => ?_⟩
    · obtain ⟨q, rfl⟩ : ∃ q, n = q + 4 := ⟨n - 4, by omega⟩
      have e1 := hn_turn (n := q) (st := st) (rest := a :: b :: c :: d :: r) (bt := a :: b :: c :: (d :: r).dropLast) (by simp) rfl (fun x hx => hs x (hbt x hx)) (by omega) (Nat.le_trans (len_dl (a :: b :: c :: d :: r)) (Nat.le_trans (Nat.le_succ _) h'.1)) (fun x hx => (ga x (hbt x hx)).1 st _ (by omega))
      exact ip_turn (n := q + 2) (by simp) hy e1 (hp.1 st _ (by omega))
    · rw [Bool.false_and]
      exact reads_len h (by simp) (by rw [so]; simp) (by rw [so]; decide +kernel) _ (by omega)
theorem pr_sieve (h : Sh L (k + 1) (.tup (.str "sieve" :: rest))) (hr : rest ≠ []) (hk : k + 1 ≤ 60) (IH : ∀ d, Sh L k d → ∃ b, Same (2 * k + 10) d b) : ∃ b, Same (2 * (k + 1) + 10) (.tup (.str "sieve" :: rest)) b := by
  have h' := h
  simp only [Sh] at h'
  have hs : ∀ x ∈ rest, Sh L k x := fun x hx => h'.2 x (by simp [hx])
  have so : sortsOf "sieve" = (["test", "plan"] : List Str) := by decide +kernel
  obtain ⟨g, ga⟩ := pickD (l := rest) (R := fun x b => (∀ st n, 2 * k + 3 ≤ n → fns n .is_test [x] st = .ok (.bl b) st) ∧ ∀ st n, 2 * k + 2 ≤ n → fns n .l_reads_test [x] st = .ok (.bl b) st) fun x hx => by
    obtain ⟨b, h1, h2⟩ := test_reads k x (hs x hx) (by omega)
    exact ⟨b, fun st n hn => by obtain ⟨q, rfl⟩ : ∃ q, n = q + 3 := ⟨n - 3, by omega⟩; exact h1 st q (by omega), fun st n hn => by obtain ⟨q, rfl⟩ : ∃ q, n = q + 2 := ⟨n - 2, by omega⟩; exact h2 st q (by omega)⟩
  clear hr
  match rest with
  | [] => exact ⟨false, (same_short (by simp)).mono (by omega)⟩
  | [y0] =>

    obtain ⟨y, hy⟩ : ∃ y, ([y0] : List D).getLast? = some y := ⟨y0, by simp⟩
    have ym : y ∈ ([y0] : List D) := List.mem_of_getLast? hy
    obtain ⟨p, hp⟩ := IH y (hs y ym)
    have hbt : ∀ x ∈ ([] : List D), x ∈ ([y0] : List D) := fun x hx => mem_dl ([y0]) hx
    refine ⟨false && p, fun st n hn => ?_, fun n hn => ?_⟩
    · obtain ⟨q, rfl⟩ : ∃ q, n = q + 4 := ⟨n - 4, by omega⟩
      have e1 := hn_sieve (n := q) (st := st) (rest := [y0]) (bt := []) (by simp) rfl (fun x hx => hs x (hbt x hx)) (by omega) (Nat.le_trans (len_dl ([y0])) (Nat.le_trans (Nat.le_succ _) h'.1)) (fun x hx => (ga x (hbt x hx)).1 st _ (by omega))
      exact ip_sieve (n := q + 2) (by simp) hy e1 (hp.1 st _ (by omega))
    · rw [Bool.false_and]
      exact reads_len h (by simp) (by rw [so]; simp) (by rw [so]; decide +kernel) _ (by omega)
  | [a, y0] =>
    have ha := hs a (by simp)
    obtain ⟨y, hy⟩ : ∃ y, ([a, y0] : List D).getLast? = some y := ⟨y0, by simp⟩
    have ym : y ∈ ([a, y0] : List D) := List.mem_of_getLast? hy
    obtain ⟨p, hp⟩ := IH y (hs y ym)
    have hbt : ∀ x ∈ ([a] : List D), x ∈ ([a, y0] : List D) := fun x hx => mem_dl ([a, y0]) hx
    refine ⟨g a && p, fun st n hn => ?_, fun n hn => ?_⟩
    · obtain ⟨q, rfl⟩ : ∃ q, n = q + 4 := ⟨n - 4, by omega⟩
      have e1 := hn_sieve (n := q) (st := st) (rest := [a, y0]) (bt := [a]) (by simp) rfl (fun x hx => hs x (hbt x hx)) (by omega) (Nat.le_trans (len_dl ([a, y0])) (Nat.le_trans (Nat.le_succ _) h'.1)) (fun x hx => (ga x (hbt x hx)).1 st _ (by omega))
      exact ip_sieve (n := q + 2) (by simp) hy e1 (hp.1 st _ (by omega))
    · obtain ⟨q, rfl⟩ : ∃ q, n = q + 4 := ⟨n - 4, by omega⟩
      have pp := plan_parts (n := q + 2) (f := fun i => match i with | 0 => g a | _ => p) h (by simp) (by rw [so]; decide +kernel) (by rw [so]; rfl) (by simp) (by rw [so]; decide +kernel) (fun i s hi => by
        rw [so] at hi
        match i, hi with
        | 0, hi => cases hi; exact ⟨a, rfl, part_test (Tells.of fun st => (ga a (by simp)).2 st _ (by omega))⟩
        | 1, hi => cases hi; exact ⟨y0, rfl, part_plan ((by cases hy; exact hp : Same _ y0 p).2 _ (by omega))⟩)
      simpa [List.range_succ, Bool.and_assoc] using pp
  | [a, b, y0] =>
    have ha := hs a (by simp)
    have hb := hs b (by simp)
    obtain ⟨y, hy⟩ : ∃ y, ([a, b, y0] : List D).getLast? = some y := ⟨y0, by simp⟩
    have ym : y ∈ ([a, b, y0] : List D) := List.mem_of_getLast? hy
    obtain ⟨p, hp⟩ := IH y (hs y ym)
    have hbt : ∀ x ∈ ([a, b] : List D), x ∈ ([a, b, y0] : List D) := fun x hx => mem_dl ([a, b, y0]) hx
    refine ⟨false && p, fun st n hn => ?_, fun n hn => ?_⟩
    · obtain ⟨q, rfl⟩ : ∃ q, n = q + 4 := ⟨n - 4, by omega⟩
      have e1 := hn_sieve (n := q) (st := st) (rest := [a, b, y0]) (bt := [a, b]) (by simp) rfl (fun x hx => hs x (hbt x hx)) (by omega) (Nat.le_trans (len_dl ([a, b, y0])) (Nat.le_trans (Nat.le_succ _) h'.1)) (fun x hx => (ga x (hbt x hx)).1 st _ (by omega))
      exact ip_sieve (n := q + 2) (by simp) hy e1 (hp.1 st _ (by omega))
    · rw [Bool.false_and]
      exact reads_len h (by simp) (by rw [so]; simp) (by rw [so]; decide +kernel) _ (by omega)
  | a :: b :: c :: d :: r =>

    obtain ⟨y, hy⟩ : ∃ y, (a :: b :: c :: d :: r : List D).getLast? = some y := ⟨_, List.getLast?_eq_some_getLast (by simp)⟩
    have ym : y ∈ (a :: b :: c :: d :: r : List D) := List.mem_of_getLast? hy
    obtain ⟨p, hp⟩ := IH y (hs y ym)
    have hbt : ∀ x ∈ (a :: b :: c :: (d :: r).dropLast : List D), x ∈ (a :: b :: c :: d :: r : List D) := fun x hx => mem_dl (a :: b :: c :: d :: r) hx
    refine ⟨false && p, fun st n hn => ?_, fun n hn => ?_⟩
    · obtain ⟨q, rfl⟩ : ∃ q, n = q + 4 := ⟨n - 4, by omega⟩
      have e1 := hn_sieve (n := q) (st := st) (rest := a :: b :: c :: d :: r) (bt := a :: b :: c :: (d :: r).dropLast) (by simp) rfl (fun x hx => hs x (hbt x hx)) (by omega) (Nat.le_trans (len_dl (a :: b :: c :: d :: r)) (Nat.le_trans (Nat.le_succ _) h'.1)) (fun x hx => (ga x (hbt x hx)).1 st _ (by omega))
      exact ip_sieve (n := q + 2) (by simp) hy e1 (hp.1 st _ (by omega))
    · rw [Bool.false_and]
      exact reads_len h (by simp) (by rw [so]; simp) (by rw [so]; decide +kernel) _ (by omega)
theorem pr_upto (h : Sh L (k + 1) (.tup (.str "upto" :: rest))) (hr : rest ≠ []) (hk : k + 1 ≤ 60) (IH : ∀ d, Sh L k d → ∃ b, Same (2 * k + 10) d b) : ∃ b, Same (2 * (k + 1) + 10) (.tup (.str "upto" :: rest)) b := by
  have h' := h
  simp only [Sh] at h'
  have hs : ∀ x ∈ rest, Sh L k x := fun x hx => h'.2 x (by simp [hx])
  have so : sortsOf "upto" = (["test", "plan"] : List Str) := by decide +kernel
  obtain ⟨g, ga⟩ := pickD (l := rest) (R := fun x b => (∀ st n, 2 * k + 3 ≤ n → fns n .is_test [x] st = .ok (.bl b) st) ∧ ∀ st n, 2 * k + 2 ≤ n → fns n .l_reads_test [x] st = .ok (.bl b) st) fun x hx => by
    obtain ⟨b, h1, h2⟩ := test_reads k x (hs x hx) (by omega)
    exact ⟨b, fun st n hn => by obtain ⟨q, rfl⟩ : ∃ q, n = q + 3 := ⟨n - 3, by omega⟩; exact h1 st q (by omega), fun st n hn => by obtain ⟨q, rfl⟩ : ∃ q, n = q + 2 := ⟨n - 2, by omega⟩; exact h2 st q (by omega)⟩
  clear hr
  match rest with
  | [] => exact ⟨false, (same_short (by simp)).mono (by omega)⟩
  | [y0] =>

    obtain ⟨y, hy⟩ : ∃ y, ([y0] : List D).getLast? = some y := ⟨y0, by simp⟩
    have ym : y ∈ ([y0] : List D) := List.mem_of_getLast? hy
    obtain ⟨p, hp⟩ := IH y (hs y ym)
    have hbt : ∀ x ∈ ([] : List D), x ∈ ([y0] : List D) := fun x hx => mem_dl ([y0]) hx
    refine ⟨false && p, fun st n hn => ?_, fun n hn => ?_⟩
    · obtain ⟨q, rfl⟩ : ∃ q, n = q + 4 := ⟨n - 4, by omega⟩
      have e1 := hn_upto (n := q) (st := st) (rest := [y0]) (bt := []) (by simp) rfl (fun x hx => hs x (hbt x hx)) (by omega) (Nat.le_trans (len_dl ([y0])) (Nat.le_trans (Nat.le_succ _) h'.1)) (fun x hx => (ga x (hbt x hx)).1 st _ (by omega))
      exact ip_upto (n := q + 2) (by simp) hy e1 (hp.1 st _ (by omega))
    · rw [Bool.false_and]
      exact reads_len h (by simp) (by rw [so]; simp) (by rw [so]; decide +kernel) _ (by omega)
  | [a, y0] =>
    have ha := hs a (by simp)
    obtain ⟨y, hy⟩ : ∃ y, ([a, y0] : List D).getLast? = some y := ⟨y0, by simp⟩
    have ym : y ∈ ([a, y0] : List D) := List.mem_of_getLast? hy
    obtain ⟨p, hp⟩ := IH y (hs y ym)
    have hbt : ∀ x ∈ ([a] : List D), x ∈ ([a, y0] : List D) := fun x hx => mem_dl ([a, y0]) hx
    refine ⟨g a && p, fun st n hn => ?_, fun n hn => ?_⟩
    · obtain ⟨q, rfl⟩ : ∃ q, n = q + 4 := ⟨n - 4, by omega⟩
      have e1 := hn_upto (n := q) (st := st) (rest := [a, y0]) (bt := [a]) (by simp) rfl (fun x hx => hs x (hbt x hx)) (by omega) (Nat.le_trans (len_dl ([a, y0])) (Nat.le_trans (Nat.le_succ _) h'.1)) (fun x hx => (ga x (hbt x hx)).1 st _ (by omega))
      exact ip_upto (n := q + 2) (by simp) hy e1 (hp.1 st _ (by omega))
    · obtain ⟨q, rfl⟩ : ∃ q, n = q + 4 := ⟨n - 4, by omega⟩
      have pp := plan_parts (n := q + 2) (f := fun i => match i with | 0 => g a | _ => p) h (by simp) (by rw [so]; decide +kernel) (by rw [so]; rfl) (by simp) (by rw [so]; decide +kernel) (fun i s hi => by
        rw [so] at hi
        match i, hi with
        | 0, hi => cases hi; exact ⟨a, rfl, part_test (Tells.of fun st => (ga a (by simp)).2 st _ (by omega))⟩
        | 1, hi => cases hi; exact ⟨y0, rfl, part_plan ((by cases hy; exact hp : Same _ y0 p).2 _ (by omega))⟩)
      simpa [List.range_succ, Bool.and_assoc] using pp
  | [a, b, y0] =>
    have ha := hs a (by simp)
    have hb := hs b (by simp)
    obtain ⟨y, hy⟩ : ∃ y, ([a, b, y0] : List D).getLast? = some y := ⟨y0, by simp⟩
    have ym : y ∈ ([a, b, y0] : List D) := List.mem_of_getLast? hy
    obtain ⟨p, hp⟩ := IH y (hs y ym)
    have hbt : ∀ x ∈ ([a, b] : List D), x ∈ ([a, b, y0] : List D) := fun x hx => mem_dl ([a, b, y0]) hx
    refine ⟨false && p, fun st n hn => ?_, fun n hn => ?_⟩
    · obtain ⟨q, rfl⟩ : ∃ q, n = q + 4 := ⟨n - 4, by omega⟩
      have e1 := hn_upto (n := q) (st := st) (rest := [a, b, y0]) (bt := [a, b]) (by simp) rfl (fun x hx => hs x (hbt x hx)) (by omega) (Nat.le_trans (len_dl ([a, b, y0])) (Nat.le_trans (Nat.le_succ _) h'.1)) (fun x hx => (ga x (hbt x hx)).1 st _ (by omega))
      exact ip_upto (n := q + 2) (by simp) hy e1 (hp.1 st _ (by omega))
    · rw [Bool.false_and]
      exact reads_len h (by simp) (by rw [so]; simp) (by rw [so]; decide +kernel) _ (by omega)
  | a :: b :: c :: d :: r =>

    obtain ⟨y, hy⟩ : ∃ y, (a :: b :: c :: d :: r : List D).getLast? = some y := ⟨_, List.getLast?_eq_some_getLast (by simp)⟩
    have ym : y ∈ (a :: b :: c :: d :: r : List D) := List.mem_of_getLast? hy
    obtain ⟨p, hp⟩ := IH y (hs y ym)
    have hbt : ∀ x ∈ (a :: b :: c :: (d :: r).dropLast : List D), x ∈ (a :: b :: c :: d :: r : List D) := fun x hx => mem_dl (a :: b :: c :: d :: r) hx
    refine ⟨false && p, fun st n hn => ?_, fun n hn => ?_⟩
    · obtain ⟨q, rfl⟩ : ∃ q, n = q + 4 := ⟨n - 4, by omega⟩
      have e1 := hn_upto (n := q) (st := st) (rest := a :: b :: c :: d :: r) (bt := a :: b :: c :: (d :: r).dropLast) (by simp) rfl (fun x hx => hs x (hbt x hx)) (by omega) (Nat.le_trans (len_dl (a :: b :: c :: d :: r)) (Nat.le_trans (Nat.le_succ _) h'.1)) (fun x hx => (ga x (hbt x hx)).1 st _ (by omega))
      exact ip_upto (n := q + 2) (by simp) hy e1 (hp.1 st _ (by omega))
    · rw [Bool.false_and]
      exact reads_len h (by simp) (by rw [so]; simp) (by rw [so]; decide +kernel) _ (by omega)
theorem pr_cut (h : Sh L (k + 1) (.tup (.str "cut" :: rest))) (hr : rest ≠ []) (hk : k + 1 ≤ 60) (IH : ∀ d, Sh L k d → ∃ b, Same (2 * k + 10) d b) : ∃ b, Same (2 * (k + 1) + 10) (.tup (.str "cut" :: rest)) b := by
  have h' := h
  simp only [Sh] at h'
  have hs : ∀ x ∈ rest, Sh L k x := fun x hx => h'.2 x (by simp [hx])
  have so : sortsOf "cut" = (["far", "plan"] : List Str) := by decide +kernel
  clear hr
  match rest with
  | [] => exact ⟨false, (same_short (by simp)).mono (by omega)⟩
  | [y0] =>

    obtain ⟨y, hy⟩ : ∃ y, ([y0] : List D).getLast? = some y := ⟨y0, by simp⟩
    have ym : y ∈ ([y0] : List D) := List.mem_of_getLast? hy
    obtain ⟨p, hp⟩ := IH y (hs y ym)
    have hbt : ∀ x ∈ ([] : List D), x ∈ ([y0] : List D) := fun x hx => mem_dl ([y0]) hx
    refine ⟨false && p, fun st n hn => ?_, fun n hn => ?_⟩
    · obtain ⟨q, rfl⟩ : ∃ q, n = q + 4 := ⟨n - 4, by omega⟩
      have e1 := hn_cut (n := q) (st := st) (rest := [y0]) (bt := []) (by simp) rfl (fun x hx => hs x (hbt x hx)) (by omega) (Nat.le_trans (len_dl ([y0])) (Nat.le_trans (Nat.le_succ _) h'.1))
      exact ip_cut (n := q + 2) (by simp) hy e1 (hp.1 st _ (by omega))
    · rw [Bool.false_and]
      exact reads_len h (by simp) (by rw [so]; simp) (by rw [so]; decide +kernel) _ (by omega)
  | [a, y0] =>
    have ha := hs a (by simp)
    obtain ⟨y, hy⟩ : ∃ y, ([a, y0] : List D).getLast? = some y := ⟨y0, by simp⟩
    have ym : y ∈ ([a, y0] : List D) := List.mem_of_getLast? hy
    obtain ⟨p, hp⟩ := IH y (hs y ym)
    have hbt : ∀ x ∈ ([a] : List D), x ∈ ([a, y0] : List D) := fun x hx => mem_dl ([a, y0]) hx
    refine ⟨betB a 0 200 && p, fun st n hn => ?_, fun n hn => ?_⟩
    · obtain ⟨q, rfl⟩ : ∃ q, n = q + 4 := ⟨n - 4, by omega⟩
      have e1 := hn_cut (n := q) (st := st) (rest := [a, y0]) (bt := [a]) (by simp) rfl (fun x hx => hs x (hbt x hx)) (by omega) (Nat.le_trans (len_dl ([a, y0])) (Nat.le_trans (Nat.le_succ _) h'.1))
      exact ip_cut (n := q + 2) (by simp) hy e1 (hp.1 st _ (by omega))
    · obtain ⟨q, rfl⟩ : ∃ q, n = q + 4 := ⟨n - 4, by omega⟩
      have pp := plan_parts (n := q + 2) (f := fun i => match i with | 0 => betB a 0 200 | _ => p) h (by simp) (by rw [so]; decide +kernel) (by rw [so]; rfl) (by simp) (by rw [so]; decide +kernel) (fun i s hi => by
        rw [so] at hi
        match i, hi with
        | 0, hi => cases hi; exact ⟨a, rfl, part_bet "far" 0 200 (.inl ⟨rfl, rfl, rfl⟩) ha⟩
        | 1, hi => cases hi; exact ⟨y0, rfl, part_plan ((by cases hy; exact hp : Same _ y0 p).2 _ (by omega))⟩)
      simpa [List.range_succ, Bool.and_assoc] using pp
  | [a, b, y0] =>
    have ha := hs a (by simp)
    have hb := hs b (by simp)
    obtain ⟨y, hy⟩ : ∃ y, ([a, b, y0] : List D).getLast? = some y := ⟨y0, by simp⟩
    have ym : y ∈ ([a, b, y0] : List D) := List.mem_of_getLast? hy
    obtain ⟨p, hp⟩ := IH y (hs y ym)
    have hbt : ∀ x ∈ ([a, b] : List D), x ∈ ([a, b, y0] : List D) := fun x hx => mem_dl ([a, b, y0]) hx
    refine ⟨false && p, fun st n hn => ?_, fun n hn => ?_⟩
    · obtain ⟨q, rfl⟩ : ∃ q, n = q + 4 := ⟨n - 4, by omega⟩
      have e1 := hn_cut (n := q) (st := st) (rest := [a, b, y0]) (bt := [a, b]) (by simp) rfl (fun x hx => hs x (hbt x hx)) (by omega) (Nat.le_trans (len_dl ([a, b, y0])) (Nat.le_trans (Nat.le_succ _) h'.1))
      exact ip_cut (n := q + 2) (by simp) hy e1 (hp.1 st _ (by omega))
    · rw [Bool.false_and]
      exact reads_len h (by simp) (by rw [so]; simp) (by rw [so]; decide +kernel) _ (by omega)
  | a :: b :: c :: d :: r =>

    obtain ⟨y, hy⟩ : ∃ y, (a :: b :: c :: d :: r : List D).getLast? = some y := ⟨_, List.getLast?_eq_some_getLast (by simp)⟩
    have ym : y ∈ (a :: b :: c :: d :: r : List D) := List.mem_of_getLast? hy
    obtain ⟨p, hp⟩ := IH y (hs y ym)
    have hbt : ∀ x ∈ (a :: b :: c :: (d :: r).dropLast : List D), x ∈ (a :: b :: c :: d :: r : List D) := fun x hx => mem_dl (a :: b :: c :: d :: r) hx
    refine ⟨false && p, fun st n hn => ?_, fun n hn => ?_⟩
    · obtain ⟨q, rfl⟩ : ∃ q, n = q + 4 := ⟨n - 4, by omega⟩
      have e1 := hn_cut (n := q) (st := st) (rest := a :: b :: c :: d :: r) (bt := a :: b :: c :: (d :: r).dropLast) (by simp) rfl (fun x hx => hs x (hbt x hx)) (by omega) (Nat.le_trans (len_dl (a :: b :: c :: d :: r)) (Nat.le_trans (Nat.le_succ _) h'.1))
      exact ip_cut (n := q + 2) (by simp) hy e1 (hp.1 st _ (by omega))
    · rw [Bool.false_and]
      exact reads_len h (by simp) (by rw [so]; simp) (by rw [so]; decide +kernel) _ (by omega)
theorem pr_left (h : Sh L (k + 1) (.tup (.str "left" :: rest))) (hr : rest ≠ []) (hk : k + 1 ≤ 60) (IH : ∀ d, Sh L k d → ∃ b, Same (2 * k + 10) d b) : ∃ b, Same (2 * (k + 1) + 10) (.tup (.str "left" :: rest)) b := by
  have h' := h
  simp only [Sh] at h'
  have hs : ∀ x ∈ rest, Sh L k x := fun x hx => h'.2 x (by simp [hx])
  have so : sortsOf "left" = (["far", "plan"] : List Str) := by decide +kernel
  clear hr
  match rest with
  | [] => exact ⟨false, (same_short (by simp)).mono (by omega)⟩
  | [y0] =>

    obtain ⟨y, hy⟩ : ∃ y, ([y0] : List D).getLast? = some y := ⟨y0, by simp⟩
    have ym : y ∈ ([y0] : List D) := List.mem_of_getLast? hy
    obtain ⟨p, hp⟩ := IH y (hs y ym)
    have hbt : ∀ x ∈ ([] : List D), x ∈ ([y0] : List D) := fun x hx => mem_dl ([y0]) hx
    refine ⟨false && p, fun st n hn => ?_, fun n hn => ?_⟩
    · obtain ⟨q, rfl⟩ : ∃ q, n = q + 4 := ⟨n - 4, by omega⟩
      have e1 := hn_left (n := q) (st := st) (rest := [y0]) (bt := []) (by simp) rfl (fun x hx => hs x (hbt x hx)) (by omega) (Nat.le_trans (len_dl ([y0])) (Nat.le_trans (Nat.le_succ _) h'.1))
      exact ip_left (n := q + 2) (by simp) hy e1 (hp.1 st _ (by omega))
    · rw [Bool.false_and]
      exact reads_len h (by simp) (by rw [so]; simp) (by rw [so]; decide +kernel) _ (by omega)
  | [a, y0] =>
    have ha := hs a (by simp)
    obtain ⟨y, hy⟩ : ∃ y, ([a, y0] : List D).getLast? = some y := ⟨y0, by simp⟩
    have ym : y ∈ ([a, y0] : List D) := List.mem_of_getLast? hy
    obtain ⟨p, hp⟩ := IH y (hs y ym)
    have hbt : ∀ x ∈ ([a] : List D), x ∈ ([a, y0] : List D) := fun x hx => mem_dl ([a, y0]) hx
    refine ⟨betB a 0 200 && p, fun st n hn => ?_, fun n hn => ?_⟩
    · obtain ⟨q, rfl⟩ : ∃ q, n = q + 4 := ⟨n - 4, by omega⟩
      have e1 := hn_left (n := q) (st := st) (rest := [a, y0]) (bt := [a]) (by simp) rfl (fun x hx => hs x (hbt x hx)) (by omega) (Nat.le_trans (len_dl ([a, y0])) (Nat.le_trans (Nat.le_succ _) h'.1))
      exact ip_left (n := q + 2) (by simp) hy e1 (hp.1 st _ (by omega))
    · obtain ⟨q, rfl⟩ : ∃ q, n = q + 4 := ⟨n - 4, by omega⟩
      have pp := plan_parts (n := q + 2) (f := fun i => match i with | 0 => betB a 0 200 | _ => p) h (by simp) (by rw [so]; decide +kernel) (by rw [so]; rfl) (by simp) (by rw [so]; decide +kernel) (fun i s hi => by
        rw [so] at hi
        match i, hi with
        | 0, hi => cases hi; exact ⟨a, rfl, part_bet "far" 0 200 (.inl ⟨rfl, rfl, rfl⟩) ha⟩
        | 1, hi => cases hi; exact ⟨y0, rfl, part_plan ((by cases hy; exact hp : Same _ y0 p).2 _ (by omega))⟩)
      simpa [List.range_succ, Bool.and_assoc] using pp
  | [a, b, y0] =>
    have ha := hs a (by simp)
    have hb := hs b (by simp)
    obtain ⟨y, hy⟩ : ∃ y, ([a, b, y0] : List D).getLast? = some y := ⟨y0, by simp⟩
    have ym : y ∈ ([a, b, y0] : List D) := List.mem_of_getLast? hy
    obtain ⟨p, hp⟩ := IH y (hs y ym)
    have hbt : ∀ x ∈ ([a, b] : List D), x ∈ ([a, b, y0] : List D) := fun x hx => mem_dl ([a, b, y0]) hx
    refine ⟨false && p, fun st n hn => ?_, fun n hn => ?_⟩
    · obtain ⟨q, rfl⟩ : ∃ q, n = q + 4 := ⟨n - 4, by omega⟩
      have e1 := hn_left (n := q) (st := st) (rest := [a, b, y0]) (bt := [a, b]) (by simp) rfl (fun x hx => hs x (hbt x hx)) (by omega) (Nat.le_trans (len_dl ([a, b, y0])) (Nat.le_trans (Nat.le_succ _) h'.1))
      exact ip_left (n := q + 2) (by simp) hy e1 (hp.1 st _ (by omega))
    · rw [Bool.false_and]
      exact reads_len h (by simp) (by rw [so]; simp) (by rw [so]; decide +kernel) _ (by omega)
  | a :: b :: c :: d :: r =>

    obtain ⟨y, hy⟩ : ∃ y, (a :: b :: c :: d :: r : List D).getLast? = some y := ⟨_, List.getLast?_eq_some_getLast (by simp)⟩
    have ym : y ∈ (a :: b :: c :: d :: r : List D) := List.mem_of_getLast? hy
    obtain ⟨p, hp⟩ := IH y (hs y ym)
    have hbt : ∀ x ∈ (a :: b :: c :: (d :: r).dropLast : List D), x ∈ (a :: b :: c :: d :: r : List D) := fun x hx => mem_dl (a :: b :: c :: d :: r) hx
    refine ⟨false && p, fun st n hn => ?_, fun n hn => ?_⟩
    · obtain ⟨q, rfl⟩ : ∃ q, n = q + 4 := ⟨n - 4, by omega⟩
      have e1 := hn_left (n := q) (st := st) (rest := a :: b :: c :: d :: r) (bt := a :: b :: c :: (d :: r).dropLast) (by simp) rfl (fun x hx => hs x (hbt x hx)) (by omega) (Nat.le_trans (len_dl (a :: b :: c :: d :: r)) (Nat.le_trans (Nat.le_succ _) h'.1))
      exact ip_left (n := q + 2) (by simp) hy e1 (hp.1 st _ (by omega))
    · rw [Bool.false_and]
      exact reads_len h (by simp) (by rw [so]; simp) (by rw [so]; decide +kernel) _ (by omega)
theorem pr_marks (h : Sh L (k + 1) (.tup (.str "marks" :: rest))) (hr : rest ≠ []) (hk : k + 1 ≤ 60) (IH : ∀ d, Sh L k d → ∃ b, Same (2 * k + 10) d b) : ∃ b, Same (2 * (k + 1) + 10) (.tup (.str "marks" :: rest)) b := by
  have h' := h
  simp only [Sh] at h'
  have hs : ∀ x ∈ rest, Sh L k x := fun x hx => h'.2 x (by simp [hx])
  have so : sortsOf "marks" = (["by", "plan"] : List Str) := by decide +kernel
  clear hr
  match rest with
  | [] => exact ⟨false, (same_short (by simp)).mono (by omega)⟩
  | [y0] =>

    obtain ⟨y, hy⟩ : ∃ y, ([y0] : List D).getLast? = some y := ⟨y0, by simp⟩
    have ym : y ∈ ([y0] : List D) := List.mem_of_getLast? hy
    obtain ⟨p, hp⟩ := IH y (hs y ym)
    have hbt : ∀ x ∈ ([] : List D), x ∈ ([y0] : List D) := fun x hx => mem_dl ([y0]) hx
    refine ⟨false && p, fun st n hn => ?_, fun n hn => ?_⟩
    · obtain ⟨q, rfl⟩ : ∃ q, n = q + 4 := ⟨n - 4, by omega⟩
      have e1 := hn_marks (n := q) (st := st) (rest := [y0]) (bt := []) (by simp) rfl (fun x hx => hs x (hbt x hx)) (by omega) (Nat.le_trans (len_dl ([y0])) (Nat.le_trans (Nat.le_succ _) h'.1))
      exact ip_marks (n := q + 2) (by simp) hy e1 (hp.1 st _ (by omega))
    · rw [Bool.false_and]
      exact reads_len h (by simp) (by rw [so]; simp) (by rw [so]; decide +kernel) _ (by omega)
  | [a, y0] =>
    have ha := hs a (by simp)
    obtain ⟨y, hy⟩ : ∃ y, ([a, y0] : List D).getLast? = some y := ⟨y0, by simp⟩
    have ym : y ∈ ([a, y0] : List D) := List.mem_of_getLast? hy
    obtain ⟨p, hp⟩ := IH y (hs y ym)
    have hbt : ∀ x ∈ ([a] : List D), x ∈ ([a, y0] : List D) := fun x hx => mem_dl ([a, y0]) hx
    refine ⟨byB a && p, fun st n hn => ?_, fun n hn => ?_⟩
    · obtain ⟨q, rfl⟩ : ∃ q, n = q + 4 := ⟨n - 4, by omega⟩
      have e1 := hn_marks (n := q) (st := st) (rest := [a, y0]) (bt := [a]) (by simp) rfl (fun x hx => hs x (hbt x hx)) (by omega) (Nat.le_trans (len_dl ([a, y0])) (Nat.le_trans (Nat.le_succ _) h'.1))
      exact ip_marks (n := q + 2) (by simp) hy e1 (hp.1 st _ (by omega))
    · obtain ⟨q, rfl⟩ : ∃ q, n = q + 4 := ⟨n - 4, by omega⟩
      have pp := plan_parts (n := q + 2) (f := fun i => match i with | 0 => byB a | _ => p) h (by simp) (by rw [so]; decide +kernel) (by rw [so]; rfl) (by simp) (by rw [so]; decide +kernel) (fun i s hi => by
        rw [so] at hi
        match i, hi with
        | 0, hi => cases hi; exact ⟨a, rfl, part_by ha⟩
        | 1, hi => cases hi; exact ⟨y0, rfl, part_plan ((by cases hy; exact hp : Same _ y0 p).2 _ (by omega))⟩)
      simpa [List.range_succ, Bool.and_assoc] using pp
  | [a, b, y0] =>
    have ha := hs a (by simp)
    have hb := hs b (by simp)
    obtain ⟨y, hy⟩ : ∃ y, ([a, b, y0] : List D).getLast? = some y := ⟨y0, by simp⟩
    have ym : y ∈ ([a, b, y0] : List D) := List.mem_of_getLast? hy
    obtain ⟨p, hp⟩ := IH y (hs y ym)
    have hbt : ∀ x ∈ ([a, b] : List D), x ∈ ([a, b, y0] : List D) := fun x hx => mem_dl ([a, b, y0]) hx
    refine ⟨false && p, fun st n hn => ?_, fun n hn => ?_⟩
    · obtain ⟨q, rfl⟩ : ∃ q, n = q + 4 := ⟨n - 4, by omega⟩
      have e1 := hn_marks (n := q) (st := st) (rest := [a, b, y0]) (bt := [a, b]) (by simp) rfl (fun x hx => hs x (hbt x hx)) (by omega) (Nat.le_trans (len_dl ([a, b, y0])) (Nat.le_trans (Nat.le_succ _) h'.1))
      exact ip_marks (n := q + 2) (by simp) hy e1 (hp.1 st _ (by omega))
    · rw [Bool.false_and]
      exact reads_len h (by simp) (by rw [so]; simp) (by rw [so]; decide +kernel) _ (by omega)
  | a :: b :: c :: d :: r =>

    obtain ⟨y, hy⟩ : ∃ y, (a :: b :: c :: d :: r : List D).getLast? = some y := ⟨_, List.getLast?_eq_some_getLast (by simp)⟩
    have ym : y ∈ (a :: b :: c :: d :: r : List D) := List.mem_of_getLast? hy
    obtain ⟨p, hp⟩ := IH y (hs y ym)
    have hbt : ∀ x ∈ (a :: b :: c :: (d :: r).dropLast : List D), x ∈ (a :: b :: c :: d :: r : List D) := fun x hx => mem_dl (a :: b :: c :: d :: r) hx
    refine ⟨false && p, fun st n hn => ?_, fun n hn => ?_⟩
    · obtain ⟨q, rfl⟩ : ∃ q, n = q + 4 := ⟨n - 4, by omega⟩
      have e1 := hn_marks (n := q) (st := st) (rest := a :: b :: c :: d :: r) (bt := a :: b :: c :: (d :: r).dropLast) (by simp) rfl (fun x hx => hs x (hbt x hx)) (by omega) (Nat.le_trans (len_dl (a :: b :: c :: d :: r)) (Nat.le_trans (Nat.le_succ _) h'.1))
      exact ip_marks (n := q + 2) (by simp) hy e1 (hp.1 st _ (by omega))
    · rw [Bool.false_and]
      exact reads_len h (by simp) (by rw [so]; simp) (by rw [so]; decide +kernel) _ (by omega)
theorem pr_spare (h : Sh L (k + 1) (.tup (.str "spare" :: rest))) (hr : rest ≠ []) (hk : k + 1 ≤ 60) (IH : ∀ d, Sh L k d → ∃ b, Same (2 * k + 10) d b) : ∃ b, Same (2 * (k + 1) + 10) (.tup (.str "spare" :: rest)) b := by
  have h' := h
  simp only [Sh] at h'
  have hs : ∀ x ∈ rest, Sh L k x := fun x hx => h'.2 x (by simp [hx])
  have so : sortsOf "spare" = (["plan", "plan"] : List Str) := by decide +kernel
  obtain ⟨g, ga⟩ := pickD fun x hx => IH x (hs x hx)
  clear hr
  match rest with
  | [] => exact ⟨false, (same_short (by simp)).mono (by omega)⟩
  | [y0] =>

    obtain ⟨y, hy⟩ : ∃ y, ([y0] : List D).getLast? = some y := ⟨y0, by simp⟩
    have ym : y ∈ ([y0] : List D) := List.mem_of_getLast? hy
    obtain ⟨p, hp⟩ := IH y (hs y ym)
    have hbt : ∀ x ∈ ([] : List D), x ∈ ([y0] : List D) := fun x hx => mem_dl ([y0]) hx
    refine ⟨false && p, fun st n hn => ?_, fun n hn => ?_⟩
    · obtain ⟨q, rfl⟩ : ∃ q, n = q + 4 := ⟨n - 4, by omega⟩
      have e1 := hn_spare (n := q) (st := st) (rest := [y0]) (bt := []) (by simp) rfl (fun x hx => hs x (hbt x hx)) (by omega) (Nat.le_trans (len_dl ([y0])) (Nat.le_trans (Nat.le_succ _) h'.1)) (fun x hx => (ga x (hbt x hx)).1 st _ (by omega))
      exact ip_spare (n := q + 2) (by simp) hy e1 (hp.1 st _ (by omega))
    · rw [Bool.false_and]
      exact reads_len h (by simp) (by rw [so]; simp) (by rw [so]; decide +kernel) _ (by omega)
  | [a, y0] =>
    have ha := hs a (by simp)
    obtain ⟨y, hy⟩ : ∃ y, ([a, y0] : List D).getLast? = some y := ⟨y0, by simp⟩
    have ym : y ∈ ([a, y0] : List D) := List.mem_of_getLast? hy
    obtain ⟨p, hp⟩ := IH y (hs y ym)
    have hbt : ∀ x ∈ ([a] : List D), x ∈ ([a, y0] : List D) := fun x hx => mem_dl ([a, y0]) hx
    refine ⟨g a && p, fun st n hn => ?_, fun n hn => ?_⟩
    · obtain ⟨q, rfl⟩ : ∃ q, n = q + 4 := ⟨n - 4, by omega⟩
      have e1 := hn_spare (n := q) (st := st) (rest := [a, y0]) (bt := [a]) (by simp) rfl (fun x hx => hs x (hbt x hx)) (by omega) (Nat.le_trans (len_dl ([a, y0])) (Nat.le_trans (Nat.le_succ _) h'.1)) (fun x hx => (ga x (hbt x hx)).1 st _ (by omega))
      exact ip_spare (n := q + 2) (by simp) hy e1 (hp.1 st _ (by omega))
    · obtain ⟨q, rfl⟩ : ∃ q, n = q + 4 := ⟨n - 4, by omega⟩
      have pp := plan_parts (n := q + 2) (f := fun i => match i with | 0 => g a | _ => p) h (by simp) (by rw [so]; decide +kernel) (by rw [so]; rfl) (by simp) (by rw [so]; decide +kernel) (fun i s hi => by
        rw [so] at hi
        match i, hi with
        | 0, hi => cases hi; exact ⟨a, rfl, part_plan ((ga a (by simp)).2 _ (by omega))⟩
        | 1, hi => cases hi; exact ⟨y0, rfl, part_plan ((by cases hy; exact hp : Same _ y0 p).2 _ (by omega))⟩)
      simpa [List.range_succ, Bool.and_assoc] using pp
  | [a, b, y0] =>
    have ha := hs a (by simp)
    have hb := hs b (by simp)
    obtain ⟨y, hy⟩ : ∃ y, ([a, b, y0] : List D).getLast? = some y := ⟨y0, by simp⟩
    have ym : y ∈ ([a, b, y0] : List D) := List.mem_of_getLast? hy
    obtain ⟨p, hp⟩ := IH y (hs y ym)
    have hbt : ∀ x ∈ ([a, b] : List D), x ∈ ([a, b, y0] : List D) := fun x hx => mem_dl ([a, b, y0]) hx
    refine ⟨false && p, fun st n hn => ?_, fun n hn => ?_⟩
    · obtain ⟨q, rfl⟩ : ∃ q, n = q + 4 := ⟨n - 4, by omega⟩
      have e1 := hn_spare (n := q) (st := st) (rest := [a, b, y0]) (bt := [a, b]) (by simp) rfl (fun x hx => hs x (hbt x hx)) (by omega) (Nat.le_trans (len_dl ([a, b, y0])) (Nat.le_trans (Nat.le_succ _) h'.1)) (fun x hx => (ga x (hbt x hx)).1 st _ (by omega))
      exact ip_spare (n := q + 2) (by simp) hy e1 (hp.1 st _ (by omega))
    · rw [Bool.false_and]
      exact reads_len h (by simp) (by rw [so]; simp) (by rw [so]; decide +kernel) _ (by omega)
  | a :: b :: c :: d :: r =>

    obtain ⟨y, hy⟩ : ∃ y, (a :: b :: c :: d :: r : List D).getLast? = some y := ⟨_, List.getLast?_eq_some_getLast (by simp)⟩
    have ym : y ∈ (a :: b :: c :: d :: r : List D) := List.mem_of_getLast? hy
    obtain ⟨p, hp⟩ := IH y (hs y ym)
    have hbt : ∀ x ∈ (a :: b :: c :: (d :: r).dropLast : List D), x ∈ (a :: b :: c :: d :: r : List D) := fun x hx => mem_dl (a :: b :: c :: d :: r) hx
    refine ⟨false && p, fun st n hn => ?_, fun n hn => ?_⟩
    · obtain ⟨q, rfl⟩ : ∃ q, n = q + 4 := ⟨n - 4, by omega⟩
      have e1 := hn_spare (n := q) (st := st) (rest := a :: b :: c :: d :: r) (bt := a :: b :: c :: (d :: r).dropLast) (by simp) rfl (fun x hx => hs x (hbt x hx)) (by omega) (Nat.le_trans (len_dl (a :: b :: c :: d :: r)) (Nat.le_trans (Nat.le_succ _) h'.1)) (fun x hx => (ga x (hbt x hx)).1 st _ (by omega))
      exact ip_spare (n := q + 2) (by simp) hy e1 (hp.1 st _ (by omega))
    · rw [Bool.false_and]
      exact reads_len h (by simp) (by rw [so]; simp) (by rw [so]; decide +kernel) _ (by omega)
theorem pr_windows (h : Sh L (k + 1) (.tup (.str "windows" :: rest))) (hr : rest ≠ []) (hk : k + 1 ≤ 60) (IH : ∀ d, Sh L k d → ∃ b, Same (2 * k + 10) d b) : ∃ b, Same (2 * (k + 1) + 10) (.tup (.str "windows" :: rest)) b := by
  have h' := h
  simp only [Sh] at h'
  have hs : ∀ x ∈ rest, Sh L k x := fun x hx => h'.2 x (by simp [hx])
  have so : sortsOf "windows" = (["size", "size", "plan"] : List Str) := by decide +kernel
  clear hr
  match rest with
  | [] => exact ⟨false, (same_short (by simp)).mono (by omega)⟩
  | [y0] =>

    obtain ⟨y, hy⟩ : ∃ y, ([y0] : List D).getLast? = some y := ⟨y0, by simp⟩
    have ym : y ∈ ([y0] : List D) := List.mem_of_getLast? hy
    obtain ⟨p, hp⟩ := IH y (hs y ym)
    have hbt : ∀ x ∈ ([] : List D), x ∈ ([y0] : List D) := fun x hx => mem_dl ([y0]) hx
    refine ⟨false && p, fun st n hn => ?_, fun n hn => ?_⟩
    · obtain ⟨q, rfl⟩ : ∃ q, n = q + 4 := ⟨n - 4, by omega⟩
      have e1 := hn_windows (n := q) (st := st) (rest := [y0]) (bt := []) (by simp) rfl (fun x hx => hs x (hbt x hx)) (by omega) (Nat.le_trans (len_dl ([y0])) (Nat.le_trans (Nat.le_succ _) h'.1))
      exact ip_windows (n := q + 2) (by simp) hy e1 (hp.1 st _ (by omega))
    · rw [Bool.false_and]
      exact reads_len h (by simp) (by rw [so]; simp) (by rw [so]; decide +kernel) _ (by omega)
  | [a, y0] =>
    have ha := hs a (by simp)
    obtain ⟨y, hy⟩ : ∃ y, ([a, y0] : List D).getLast? = some y := ⟨y0, by simp⟩
    have ym : y ∈ ([a, y0] : List D) := List.mem_of_getLast? hy
    obtain ⟨p, hp⟩ := IH y (hs y ym)
    have hbt : ∀ x ∈ ([a] : List D), x ∈ ([a, y0] : List D) := fun x hx => mem_dl ([a, y0]) hx
    refine ⟨false && p, fun st n hn => ?_, fun n hn => ?_⟩
    · obtain ⟨q, rfl⟩ : ∃ q, n = q + 4 := ⟨n - 4, by omega⟩
      have e1 := hn_windows (n := q) (st := st) (rest := [a, y0]) (bt := [a]) (by simp) rfl (fun x hx => hs x (hbt x hx)) (by omega) (Nat.le_trans (len_dl ([a, y0])) (Nat.le_trans (Nat.le_succ _) h'.1))
      exact ip_windows (n := q + 2) (by simp) hy e1 (hp.1 st _ (by omega))
    · rw [Bool.false_and]
      exact reads_len h (by simp) (by rw [so]; simp) (by rw [so]; decide +kernel) _ (by omega)
  | [a, b, y0] =>
    have ha := hs a (by simp)
    have hb := hs b (by simp)
    obtain ⟨y, hy⟩ : ∃ y, ([a, b, y0] : List D).getLast? = some y := ⟨y0, by simp⟩
    have ym : y ∈ ([a, b, y0] : List D) := List.mem_of_getLast? hy
    obtain ⟨p, hp⟩ := IH y (hs y ym)
    have hbt : ∀ x ∈ ([a, b] : List D), x ∈ ([a, b, y0] : List D) := fun x hx => mem_dl ([a, b, y0]) hx
    refine ⟨(betB a 1 20 && betB b 1 20) && p, fun st n hn => ?_, fun n hn => ?_⟩
    · obtain ⟨q, rfl⟩ : ∃ q, n = q + 4 := ⟨n - 4, by omega⟩
      have e1 := hn_windows (n := q) (st := st) (rest := [a, b, y0]) (bt := [a, b]) (by simp) rfl (fun x hx => hs x (hbt x hx)) (by omega) (Nat.le_trans (len_dl ([a, b, y0])) (Nat.le_trans (Nat.le_succ _) h'.1))
      exact ip_windows (n := q + 2) (by simp) hy e1 (hp.1 st _ (by omega))
    · obtain ⟨q, rfl⟩ : ∃ q, n = q + 4 := ⟨n - 4, by omega⟩
      have pp := plan_parts (n := q + 2) (f := fun i => match i with | 0 => betB a 1 20 | 1 => betB b 1 20 | _ => p) h (by simp) (by rw [so]; decide +kernel) (by rw [so]; rfl) (by simp) (by rw [so]; decide +kernel) (fun i s hi => by
        rw [so] at hi
        match i, hi with
        | 0, hi => cases hi; exact ⟨a, rfl, part_bet "size" 1 20 (.inr (.inr ⟨rfl, rfl, rfl⟩)) ha⟩
        | 1, hi => cases hi; exact ⟨b, rfl, part_bet "size" 1 20 (.inr (.inr ⟨rfl, rfl, rfl⟩)) hb⟩
        | 2, hi => cases hi; exact ⟨y0, rfl, part_plan ((by cases hy; exact hp : Same _ y0 p).2 _ (by omega))⟩)
      simpa [List.range_succ, Bool.and_assoc] using pp
  | a :: b :: c :: d :: r =>

    obtain ⟨y, hy⟩ : ∃ y, (a :: b :: c :: d :: r : List D).getLast? = some y := ⟨_, List.getLast?_eq_some_getLast (by simp)⟩
    have ym : y ∈ (a :: b :: c :: d :: r : List D) := List.mem_of_getLast? hy
    obtain ⟨p, hp⟩ := IH y (hs y ym)
    have hbt : ∀ x ∈ (a :: b :: c :: (d :: r).dropLast : List D), x ∈ (a :: b :: c :: d :: r : List D) := fun x hx => mem_dl (a :: b :: c :: d :: r) hx
    refine ⟨false && p, fun st n hn => ?_, fun n hn => ?_⟩
    · obtain ⟨q, rfl⟩ : ∃ q, n = q + 4 := ⟨n - 4, by omega⟩
      have e1 := hn_windows (n := q) (st := st) (rest := a :: b :: c :: d :: r) (bt := a :: b :: c :: (d :: r).dropLast) (by simp) rfl (fun x hx => hs x (hbt x hx)) (by omega) (Nat.le_trans (len_dl (a :: b :: c :: d :: r)) (Nat.le_trans (Nat.le_succ _) h'.1))
      exact ip_windows (n := q + 2) (by simp) hy e1 (hp.1 st _ (by omega))
    · rw [Bool.false_and]
      exact reads_len h (by simp) (by rw [so]; simp) (by rw [so]; decide +kernel) _ (by omega)
theorem pr_wanted (h : Sh L (k + 1) (.tup (.str "wanted" :: rest))) (hr : rest ≠ []) (hk : k + 1 ≤ 60) (IH : ∀ d, Sh L k d → ∃ b, Same (2 * k + 10) d b) : ∃ b, Same (2 * (k + 1) + 10) (.tup (.str "wanted" :: rest)) b := by
  have h' := h
  simp only [Sh] at h'
  have hs : ∀ x ∈ rest, Sh L k x := fun x hx => h'.2 x (by simp [hx])
  have so : sortsOf "wanted" = (["far", "word", "plan"] : List Str) := by decide +kernel
  clear hr
  match rest with
  | [] => exact ⟨false, (same_short (by simp)).mono (by omega)⟩
  | [y0] =>

    obtain ⟨y, hy⟩ : ∃ y, ([y0] : List D).getLast? = some y := ⟨y0, by simp⟩
    have ym : y ∈ ([y0] : List D) := List.mem_of_getLast? hy
    obtain ⟨p, hp⟩ := IH y (hs y ym)
    have hbt : ∀ x ∈ ([] : List D), x ∈ ([y0] : List D) := fun x hx => mem_dl ([y0]) hx
    refine ⟨false && p, fun st n hn => ?_, fun n hn => ?_⟩
    · obtain ⟨q, rfl⟩ : ∃ q, n = q + 4 := ⟨n - 4, by omega⟩
      have e1 := hn_wanted (n := q) (st := st) (rest := [y0]) (bt := []) (by simp) rfl (fun x hx => hs x (hbt x hx)) (by omega) (Nat.le_trans (len_dl ([y0])) (Nat.le_trans (Nat.le_succ _) h'.1))
      exact ip_wanted (n := q + 2) (by simp) hy e1 (hp.1 st _ (by omega))
    · rw [Bool.false_and]
      exact reads_len h (by simp) (by rw [so]; simp) (by rw [so]; decide +kernel) _ (by omega)
  | [a, y0] =>
    have ha := hs a (by simp)
    obtain ⟨y, hy⟩ : ∃ y, ([a, y0] : List D).getLast? = some y := ⟨y0, by simp⟩
    have ym : y ∈ ([a, y0] : List D) := List.mem_of_getLast? hy
    obtain ⟨p, hp⟩ := IH y (hs y ym)
    have hbt : ∀ x ∈ ([a] : List D), x ∈ ([a, y0] : List D) := fun x hx => mem_dl ([a, y0]) hx
    refine ⟨false && p, fun st n hn => ?_, fun n hn => ?_⟩
    · obtain ⟨q, rfl⟩ : ∃ q, n = q + 4 := ⟨n - 4, by omega⟩
      have e1 := hn_wanted (n := q) (st := st) (rest := [a, y0]) (bt := [a]) (by simp) rfl (fun x hx => hs x (hbt x hx)) (by omega) (Nat.le_trans (len_dl ([a, y0])) (Nat.le_trans (Nat.le_succ _) h'.1))
      exact ip_wanted (n := q + 2) (by simp) hy e1 (hp.1 st _ (by omega))
    · rw [Bool.false_and]
      exact reads_len h (by simp) (by rw [so]; simp) (by rw [so]; decide +kernel) _ (by omega)
  | [a, b, y0] =>
    have ha := hs a (by simp)
    have hb := hs b (by simp)
    obtain ⟨y, hy⟩ : ∃ y, ([a, b, y0] : List D).getLast? = some y := ⟨y0, by simp⟩
    have ym : y ∈ ([a, b, y0] : List D) := List.mem_of_getLast? hy
    obtain ⟨p, hp⟩ := IH y (hs y ym)
    have hbt : ∀ x ∈ ([a, b] : List D), x ∈ ([a, b, y0] : List D) := fun x hx => mem_dl ([a, b, y0]) hx
    refine ⟨(betB a 0 200 && wordB b) && p, fun st n hn => ?_, fun n hn => ?_⟩
    · obtain ⟨q, rfl⟩ : ∃ q, n = q + 4 := ⟨n - 4, by omega⟩
      have e1 := hn_wanted (n := q) (st := st) (rest := [a, b, y0]) (bt := [a, b]) (by simp) rfl (fun x hx => hs x (hbt x hx)) (by omega) (Nat.le_trans (len_dl ([a, b, y0])) (Nat.le_trans (Nat.le_succ _) h'.1))
      exact ip_wanted (n := q + 2) (by simp) hy e1 (hp.1 st _ (by omega))
    · obtain ⟨q, rfl⟩ : ∃ q, n = q + 4 := ⟨n - 4, by omega⟩
      have pp := plan_parts (n := q + 2) (f := fun i => match i with | 0 => betB a 0 200 | 1 => wordB b | _ => p) h (by simp) (by rw [so]; decide +kernel) (by rw [so]; rfl) (by simp) (by rw [so]; decide +kernel) (fun i s hi => by
        rw [so] at hi
        match i, hi with
        | 0, hi => cases hi; exact ⟨a, rfl, part_bet "far" 0 200 (.inl ⟨rfl, rfl, rfl⟩) ha⟩
        | 1, hi => cases hi; exact ⟨b, rfl, part_word hb⟩
        | 2, hi => cases hi; exact ⟨y0, rfl, part_plan ((by cases hy; exact hp : Same _ y0 p).2 _ (by omega))⟩)
      simpa [List.range_succ, Bool.and_assoc] using pp
  | a :: b :: c :: d :: r =>

    obtain ⟨y, hy⟩ : ∃ y, (a :: b :: c :: d :: r : List D).getLast? = some y := ⟨_, List.getLast?_eq_some_getLast (by simp)⟩
    have ym : y ∈ (a :: b :: c :: d :: r : List D) := List.mem_of_getLast? hy
    obtain ⟨p, hp⟩ := IH y (hs y ym)
    have hbt : ∀ x ∈ (a :: b :: c :: (d :: r).dropLast : List D), x ∈ (a :: b :: c :: d :: r : List D) := fun x hx => mem_dl (a :: b :: c :: d :: r) hx
    refine ⟨false && p, fun st n hn => ?_, fun n hn => ?_⟩
    · obtain ⟨q, rfl⟩ : ∃ q, n = q + 4 := ⟨n - 4, by omega⟩
      have e1 := hn_wanted (n := q) (st := st) (rest := a :: b :: c :: d :: r) (bt := a :: b :: c :: (d :: r).dropLast) (by simp) rfl (fun x hx => hs x (hbt x hx)) (by omega) (Nat.le_trans (len_dl (a :: b :: c :: d :: r)) (Nat.le_trans (Nat.le_succ _) h'.1))
      exact ip_wanted (n := q + 2) (by simp) hy e1 (hp.1 st _ (by omega))
    · rw [Bool.false_and]
      exact reads_len h (by simp) (by rw [so]; simp) (by rw [so]; decide +kernel) _ (by omega)
end
end K82
end

section
set_option Elab.async false
set_option linter.all false
set_option maxRecDepth 100000
set_option maxHeartbeats 1000000
namespace K82
open PySem L2 G
theorem sorts_other {w : Str} (hw : w ∉ allW) : sortsOf w = noneL := by
  simp only [allW, List.mem_cons, List.not_mem_nil, or_false, not_or] at hw
  obtain ⟨a1, a2, a3, a4, a5, a6, a7, a8, a9, b1, b2, b3, b4, b5, b6, b7⟩ := hw
  unfold sortsOf
  rw [if_neg (fun h => h.elim a6 a7), if_neg (fun h => h.elim a8 a9), if_neg b1, if_neg b2, if_neg b7, if_neg a1, if_neg a2, if_neg a3, if_neg a4, if_neg a5, if_neg b3, if_neg b4, if_neg b5, if_neg b6]
/-- what is read of a thing: the program and the law agree -/
theorem plan_reads {L : Nat} : ∀ (k : Nat) (d : D), k ≤ 60 → Sh L k d → ∃ b, Same (2 * k + 10) d b
  | k, d, hk, h => by
    have IH0 : ∀ k' d, k' < k → Sh L k' d → ∃ b, Same (2 * k' + 10) d b := fun k' d hk' hd => plan_reads k' d (by omega) hd
    by_cases ht : ∃ l, d = .tup l
    · obtain ⟨l, rfl⟩ := ht
      match k, l, h, hk, IH0 with
      | 0, l, h, hk, IH0 => simp [Sh] at h
      | k + 1, [], h, hk, IH0 => exact ⟨false, (same_short (by simp)).mono (by omega)⟩
      | k + 1, [x], h, hk, IH0 => exact ⟨false, (same_short (by simp)).mono (by omega)⟩
      | k + 1, x :: y :: r, h, hk, IH0 =>
        have h' := h
        simp only [Sh] at h'
        have hx := h'.2 x (by simp)
        have IH : ∀ k' d, k' ≤ k → Sh L k' d → ∃ b, Same (2 * k' + 10) d b := fun k' d hk' hd => IH0 k' d (by omega) hd
        cases q : qStr x with
        | false => exact ⟨false, (same_nostr hx q).mono (by omega)⟩
        | true =>
          obtain ⟨w, rfl⟩ : ∃ w, x = .str w := by
            cases x <;> first | exact ⟨_, rfl⟩ | simp [qStr] at q
          by_cases hw : w ∈ allW
          · have ih := fun d hd => IH k d (Nat.le_refl _) hd
            have ih2 : ∀ k' d, k' + 1 ≤ k → Sh L k' d → ∃ b, Same (2 * k' + 10) d b := fun k' d hk' hd => IH k' d (by omega) hd
            simp only [allW, List.mem_cons, List.not_mem_nil, or_false] at hw
            rcases hw with rfl | rfl | rfl | rfl | rfl | rfl | rfl | rfl | rfl | rfl | rfl | rfl | rfl | rfl | rfl | rfl
            · exact pr_list h (by simp) hk
            · exact pr_broken h (by simp) hk
            · exact pr_count h (by simp) hk
            · exact pr_row h (by simp) hk
            · exact pr_turn h (by simp) hk ih
            · exact pr_sieve h (by simp) hk ih
            · exact pr_upto h (by simp) hk ih
            · exact pr_cut h (by simp) hk ih
            · exact pr_left h (by simp) hk ih
            · exact pr_join _ _ (.inl ⟨rfl, rfl⟩) h (by simp) hk ih2
            · exact pr_join _ _ (.inr ⟨rfl, rfl⟩) h (by simp) hk ih2
            · exact pr_ahead h (by simp) hk ih
            · exact pr_windows h (by simp) hk ih
            · exact pr_marks h (by simp) hk ih
            · exact pr_spare h (by simp) hk ih
            · exact pr_wanted h (by simp) hk ih
          · refine ⟨false, fun st n hn => ?_, fun n hn st => ?_⟩
            · obtain ⟨m, rfl⟩ : ∃ m, n = m + 3 := ⟨n - 3, by omega⟩
              exact other_is hw (by simp) h (by omega)
            · obtain ⟨m, rfl⟩ : ∃ m, n = m + 2 := ⟨n - 2, by omega⟩
              exact plan_head h (by simp) (.inl (sorts_other hw)) (by rw [sorts_other hw]; decide +kernel)
    · exact ⟨false, (same_not h fun l e => ht ⟨l, e⟩).mono (by omega)⟩
termination_by k => k
decreasing_by omega
end K82
end

section
set_option Elab.async false
set_option linter.all false
set_option maxRecDepth 100000
set_option maxHeartbeats 1000000
namespace K82
open PySem L2 G
/-! ## the pot and the room -/
def PotC (c : Cell) : Prop := ∃ a b : Int, c = .lst [.int a, .int b] ∧ 0 ≤ b ∧ b < 2 ^ 40
def roomD (p g r : Int) : Cell := .dct [(.inr "parts", .int p), (.inr "great", .int g), (.inr "rows", .int r)]
def RoomC (c : Cell) : Prop := ∃ p g r : Int, c = roomD p g r ∧ 0 ≤ r ∧ r ≤ 8
def Pot (i : Nat) (st : Store) : Prop := ∃ c, st[i]? = some c ∧ PotC c
theorem digit {i n : Nat} {m : Int} {st : Store} (h : Pot i st) (hm : 0 < m) (hm2 : divOk m = true) : ∃ r st', fns (n + 1) .l_digit [.cell i, .int m] st = .ok (.int r) st' ∧ 0 ≤ r ∧ r < m ∧ Pot i st' ∧ ∀ k, k ≠ i → st'[k]? = st[k]? := by
  obtain ⟨c, hc, a, b, rfl, hb, hb2⟩ := h
  have hl : i < st.length := (List.getElem?_eq_some_iff.mp hc).1
  have cl : cellL st i = some [.int a, .int b] := by unfold cellL; rw [hc]
  have i0 := dIdx_cn (k := 0) cl rfl
  have i1 := dIdx_cn (k := 1) cl rfl
  simp only [Int.ofNat_eq_natCast, Int.natCast_zero] at i0
  have x0 : ixN 2 0 = some 0 := rfl
  have x1 : ixN 2 1 = some 1 := rfl
  by_cases ha : 0 < a
  · refine ⟨a % m, st.set i (.lst [.int (a / m), .int b]), runF_ret ?_, Int.emod_nonneg _ (by omega), Int.emod_lt_of_pos _ hm, ⟨_, by rw [List.getElem?_set_self hl], _, _, rfl, hb, hb2⟩, fun k hk => by rw [List.getElem?_set_ne (Ne.symm hk)]⟩
    simp [g_l_digit, i0, ha, dDivmod_of hm2, putIdx, hc, x0]
  · have e1 : mulOk b 48271 = true := mulOk_of (a := 40) (b := 16) (by omega) (by decide) (by decide) (by decide)
    obtain ⟨b', hbe⟩ : ∃ b', (b * 48271 + 12345) % 2147483647 = b' := ⟨_, rfl⟩
    have hb' : 0 ≤ b' := by rw [← hbe]; exact Int.emod_nonneg _ (by decide)
    have hb3 : b' < 2147483647 := by rw [← hbe]; exact Int.emod_lt_of_pos _ (by decide)
    have e2 : mulOk b' b' = true := mulOk_of (a := 31) (b := 31) (by omega) (by omega) (by decide) (by decide)
    have cl2 : cellL (st.set i (.lst [.int a, .int b'])) i = some [.int a, .int b'] := by unfold cellL; rw [List.getElem?_set_self hl]
    have j1 := dIdx_cn (k := 1) cl2 rfl
    refine ⟨(b' * b') % 2147483629 / 7 % m, st.set i (.lst [.int a, .int b']), runF_ret ?_, Int.emod_nonneg _ (by omega), Int.emod_lt_of_pos _ hm, ⟨_, by rw [List.getElem?_set_self hl], _, _, rfl, hb', by omega⟩, fun k hk => by rw [List.getElem?_set_ne (Ne.symm hk)]⟩
    have d7 : divOk 7 = true := by decide
    have m1 : ∀ (z : Int) (st : Store), dMod (.int z) (.int 2147483647) st = some (.int (z % 2147483647)) := fun z st => dMod_of (by decide)
    have m2 : ∀ (z : Int) (st : Store), dMod (.int z) (.int 2147483629) st = some (.int (z % 2147483629)) := fun z st => dMod_of (by decide)
    have m3 : ∀ (z : Int) (st : Store), dMod (.int z) (.int m) st = some (.int (z % m)) := fun z st => dMod_of hm
    simp only [Int.ofNat_eq_natCast, Int.natCast_one] at i1 j1
    simp [g_l_digit, i0, ha, i1, dMul_of e1, m1, putIdx, hc, x1, hbe, j1, dMul_of e2, m2, m3, dDiv_of d7]

structure Inv' (i j : Nat) (s0 st : Store) : Prop where
  pot : Pot i st
  room : ∃ c, st[j]? = some c ∧ RoomC c
  rest : ∀ k, k ≠ i → k ≠ j → k < s0.length → st[k]? = s0[k]?
  ne : i ≠ j
theorem digitI {i j n : Nat} {m : Int} {s0 st : Store} (h : Inv' i j s0 st) (hm : 0 < m) (hm2 : divOk m = true) : ∃ r st', fns (n + 1) .l_digit [.cell i, .int m] st = .ok (.int r) st' ∧ 0 ≤ r ∧ r < m ∧ Inv' i j s0 st' := by
  obtain ⟨r, st', e, h0, h1, p, q⟩ := digit (n := n) h.pot hm hm2
  refine ⟨r, st', e, h0, h1, p, ?_, fun k hi hj hk => (q k hi).trans (h.rest k hi hj hk), h.ne⟩
  rw [q j (Ne.symm h.ne)]
  exact h.room
theorem dPow_of {i j : Int} {st : Store} (h : powOk i j = true) : dPow (.int i) (.int j) st = some (.int (i ^ j.toNat)) := by simp only [dPow, if_pos h]
theorem p10 {st : Store} : dPow (.int 10) (.int 10) st = some (.int 10000000000) := dPow_of (by decide)
theorem p29 {st : Store} : dPow (.int 10) (.int 29) st = some (.int 100000000000000000000000000000) := dPow_of (by decide)
theorem p18 {st : Store} : dPow (.int 10) (.int 18) st = some (.int 1000000000000000000) := dPow_of (by decide)
theorem whole {i j n : Nat} {s0 st : Store} (h : Inv' i j s0 st) : ∃ r st', fns (n + 2) .l_whole [.cell i, .cell j] st = .ok (.int r) st' ∧ r.natAbs ≤ 10 ^ 30 ∧ Inv' i j s0 st' := by
  obtain ⟨r1, s1, e1, p1, q1, h1⟩ := digitI (n := n) h (m := 8) (by decide) (by decide)
  have small : ∀ s1, Inv' i j s0 s1 → ∃ r st', fns (n + 1) .l_digit [.cell i, .int 23] s1 = .ok (.int r) st' ∧ (r - 11).natAbs ≤ 10 ^ 30 ∧ Inv' i j s0 st' := by
    intro s1 h1
    obtain ⟨r, s2, e2, p2, q2, h2⟩ := digitI (n := n) h1 (m := 23) (by decide) (by decide)
    exact ⟨r, s2, e2, by omega, h2⟩
  obtain ⟨r2, s2, e2, b2, h2⟩ := small s1 h1
  by_cases c1 : r1 < 7
  · exact ⟨r2 - 11, s2, runF_ret (by simp [g_l_whole, e1, c1, e2]), b2, h2⟩
  · obtain ⟨c, hc, p, g, r, rfl, hr0, hr8⟩ := h1.room
    have gt : ∀ (d : Option (Option D)), dGet (.cell j) (.str "great") s1 = some (.int g) := by
      intro _
      simp only [dGet, keyOf, hc, roomD, valD]
      rfl
    have gt := gt none
    by_cases c2 : g = 0
    · subst c2
      exact ⟨r2 - 11, s2, runF_ret (by simp [g_l_whole, e1, c1, e2, gt]), b2, h2⟩
    · have hl : j < s1.length := (List.getElem?_eq_some_iff.mp hc).1
      have pk : putKey (.cell j) (.str "great") (.int (g - 1)) s1 = .ok () (s1.set j (roomD p (g - 1) r)) := by
        simp only [putKey, keyOf, hc, roomD]
        rfl
      have h3 : Inv' i j s0 (s1.set j (roomD p (g - 1) r)) := by
        refine ⟨?_, ⟨_, by rw [List.getElem?_set_self hl], _, _, _, rfl, hr0, hr8⟩, fun k hi hj hk => by rw [List.getElem?_set_ne (Ne.symm hj)]; exact h1.rest k hi hj hk, h1.ne⟩
        obtain ⟨c, hc, pc⟩ := h1.pot
        exact ⟨c, by rw [List.getElem?_set_ne (Ne.symm h1.ne)]; exact hc, pc⟩
      generalize s1.set j (roomD p (g - 1) r) = s3 at h3 pk
      let B : Ev → M Fl := (sAsg 2 (eOp dAdd (eOp dMul (eVar 2) (eOp dPow (eC (.int 10)) (eC (.int 10)))) (eCall (fns (n + 1) .l_digit) [(eVar 0), (eOp dPow (eC (.int 10)) (eC (.int 10)))])))
      have step : ∀ (v : Nat) (o : Option D) (st : Store) (d : D), v ≤ 10 ^ 20 → Inv' i j s0 st → ∃ v' st', (v' : Nat) < (v + 1) * 10000000000 ∧ Inv' i j s0 st' ∧ B [some (.cell i), o, some (.int v), some d] st = .ok (.nx [some (.cell i), o, some (.int (v' : Nat)), some d]) st' := by
        intro v o st d hv hs
        obtain ⟨r, s4, e4, p4, q4, h4⟩ := digitI (n := n) hs (m := 10000000000) (by decide) (by decide)
        have hm : mulOk (v : Int) 10000000000 = true := mulOk_of (a := 80) (b := 40) (by omega) (by decide) (by decide) (by decide)
        obtain ⟨r', rfl⟩ : ∃ r' : Nat, r = (r' : Int) := ⟨r.toNat, by omega⟩
        refine ⟨v * 10000000000 + r', s4, by omega, h4, ?_⟩
        simp [B, p10, dMul_of hm, e4]
      obtain ⟨v1, t1, b1, i1, f1⟩ := step 0 (some (.cell j)) s3 (.int 0) (by omega) h3
      obtain ⟨v2, t2, b2, i2, f2⟩ := step v1 (some (.cell j)) t1 (.int 1) (by omega) i1
      obtain ⟨v3, t3, b3, i3, f3⟩ := step v2 (some (.cell j)) t2 (.int 2) (by omega) i2
      obtain ⟨z, t4, e4, p4, q4, i4⟩ := digitI (n := n) i3 (m := 2) (by decide) (by decide)
      have rg : iRange (eC (.int 3)) = fun _ st => .ok [.int 0, .int 1, .int 2] st := rfl
      have lp : forGo (tgName 3) B [.int 0, .int 1, .int 2] [some (.cell i), some (.cell j), some (.int 0), none] s3 = .ok (.nx [some (.cell i), some (.cell j), some (.int (v3 : Nat)), some (.int 2)]) t3 := by
        simp only [forGo, tgName, List.set_cons_succ, List.set_cons_zero, bind_app, f2, f3, bnd_ok, pure_app']
        have f1' : B [some (.cell i), some (.cell j), some (.int 0), some (.int 0)] s3 = .ok (.nx [some (.cell i), some (.cell j), some (.int (v1 : Nat)), some (.int 0)]) t1 := f1
        rw [f1']
        simp only [List.set_cons_succ, List.set_cons_zero, bind_app, f2, f3, bnd_ok, pure_app']
      have go : ∀ y : Int, dIdx (.lst [.int (v3 : Nat), .int (-(v3 : Nat))]) (.int z) t4 = some (.int y) → fns (n + 2) .l_whole [.cell i, .cell j] st = .ok (.int y) t4 := by
        intro y hy
        refine runF_ret ?_
        simp [g_l_whole, e1, c1, gt, c2, pk, rg]
        rw [lp]
        simp [e4, hy]
      rcases (by omega : z = 0 ∨ z = 1) with rfl | rfl
      · exact ⟨(v3 : Nat), t4, go _ (dIdx_l0 _ _), by omega, i4⟩
      · exact ⟨-(v3 : Nat), t4, go _ (dIdx_l1 _ _ _), by omega, i4⟩
end K82
end

section
set_option Elab.async false
set_option linter.all false
set_option maxRecDepth 100000
set_option maxHeartbeats 1000000
namespace K82
open PySem L2 G PyProof.Rows
/-! ## how much a thing shows -/
mutual
def bk : D → Nat
  | .str x => x.cps.size
  | .tup l => bkL l
  | .lst l => bkL l
  | _ => 0
def bkL : List D → Nat
  | [] => 0
  | x :: l => bk x + 1 + bkL l
end
theorem bkL_app (a b : List D) : bkL (a ++ b) = bkL a + bkL b := by
  induction a with
  | nil => simp [bkL]
  | cons x a ih => simp only [List.cons_append, bkL, ih]; omega
theorem bkL_le {B : Nat} : ∀ (l : List D), (∀ x ∈ l, bk x ≤ B) → bkL l ≤ l.length * (B + 1)
  | [], _ => by simp [bkL]
  | x :: l, h => by
    have h1 := h x (by simp)
    have h2 := bkL_le l fun y hy => h y (by simp [hy])
    simp only [bkL, List.length_cons, Nat.succ_mul]; omega
mutual
theorem bk_data : ∀ (d : D) (p : PyData), d.data = some p → p.bulk = bk d
  | .non, p, e => by cases e; rfl
  | .bl _, p, e => by cases e; rfl
  | .int _, p, e => by cases e; rfl
  | .str x, p, e => by cases e; simp [PyData.bulk, bk]
  | .tup l, p, e => by
    simp only [D.data] at e
    cases q : D.datas l with
    | none => rw [q] at e; cases e
    | some ps => rw [q] at e; cases e; simp only [PyData.bulk, bk]; exact bkL_data l ps q
  | .lst l, p, e => by
    simp only [D.data] at e
    cases q : D.datas l with
    | none => rw [q] at e; cases e
    | some ps => rw [q] at e; cases e; simp only [PyData.bulk, bk]; exact bkL_data l ps q
  | .cell _, p, e => by cases e
  | .dct0, p, e => by cases e
  | .exc _, p, e => by cases e
theorem bkL_data : ∀ (l : List D) (ps : List PyData), D.datas l = some ps → PyData.bulkAll ps = bkL l
  | [], ps, e => by cases e; rfl
  | x :: l, ps, e => by
    simp only [D.datas] at e
    cases q : x.data with
    | none => rw [q] at e; cases e
    | some p =>
      rw [q] at e
      cases r : D.datas l with
      | none => rw [r] at e; cases e
      | some qs =>
        rw [r] at e
        cases e
        simp only [PyData.bulkAll, bkL, bk_data x p q, bkL_data l qs r]
end
structure Shw (p : PyData) : Prop where
  lay : p.canLay0 = true
  shw : p.showable = true
  lvs : p.intsShort 127 = true
theorem shw_list : ∀ (l : List D), (∀ x ∈ l, ∃ p, x.data = some p ∧ Shw p) → ∃ ps, D.datas l = some ps ∧ PyData.canLayAll0 ps = true ∧ PyData.showableAll ps = true ∧ PyData.intsShortAll 127 ps = true
  | [], _ => ⟨[], rfl, rfl, rfl, rfl⟩
  | x :: l, h => by
    obtain ⟨p, e, q⟩ := h x (by simp)
    obtain ⟨ps, es, c, s, v⟩ := shw_list l fun y hy => h y (by simp [hy])
    exact ⟨p :: ps, by simp only [D.datas, e, es], by simp only [PyData.canLayAll0, q.lay, c, Bool.and_self], by simp only [PyData.showableAll, q.shw, s, Bool.and_self], by simp only [PyData.intsShortAll, q.lvs, v, Bool.and_self]⟩
theorem sh_shw {L : Nat} : ∀ {k : Nat} {d : D}, Sh L k d → ∃ p, d.data = some p ∧ Shw p
  | _, .non, h => ⟨_, rfl, rfl, rfl, rfl⟩
  | _, .bl _, h => ⟨_, rfl, rfl, rfl, rfl⟩
  | k, .int i, h => by
    simp only [Sh] at h
    refine ⟨_, rfl, rfl, ?_, ?_⟩
    · simp only [PyData.showable, decide_eq_true_eq]
      by_cases z : i.natAbs = 0
      · rw [z]; decide
      · exact Nat.lt_of_lt_of_le ((Nat.log2_lt z).mpr (Nat.lt_of_lt_of_le h (by decide +kernel : 10 ^ 126 ≤ 2 ^ 420))) (by decide)
    · simp only [PyData.intsShort, decide_eq_true_eq]
      have e := int_text_length_le10 (k := 126) (by decide) h
      show (Str.ofString (toString i)).length ≤ 127
      rw [PySem.ofString_length]; exact e
  | k, .str x, h => by
    simp only [Sh] at h
    exact ⟨_, rfl, by simpa only [PyData.canLay0] using h.1, rfl, rfl⟩
  | 0, .tup l, h => by simp [Sh] at h
  | 0, .lst l, h => by simp [Sh] at h
  | k + 1, .tup l, h => by
    simp only [Sh] at h
    obtain ⟨ps, e, c, s, v⟩ := shw_list l fun x hx => sh_shw (h.2 x hx)
    exact ⟨.tuple ps, by simp [D.data, e], by simpa [PyData.canLay0] using c, by simpa [PyData.showable] using s, by simpa [PyData.intsShort] using v⟩
  | k + 1, .lst l, h => by
    simp only [Sh] at h
    obtain ⟨ps, e, c, s, v⟩ := shw_list l fun x hx => sh_shw (h.2 x hx)
    exact ⟨.list ps, by simp [D.data, e], by simpa [PyData.canLay0] using c, by simpa [PyData.showable] using s, by simpa [PyData.intsShort] using v⟩
  | _, .cell _, h => by simp [Sh] at h
  | _, .dct0, h => by simp [Sh] at h
  | _, .exc _, h => by simp [Sh] at h
theorem repr_ok {L k : Nat} {d : D} (h : Sh L k d) (hk : k ≤ 60) (hb : bk d ≤ 120000) : ∃ p, d.data = some p ∧ reprOk p = true := by
  obtain ⟨p, e, q⟩ := sh_shw h
  obtain ⟨p', e', _, dep, nod⟩ := h.data
  cases e.symm.trans e'
  refine ⟨p, e, ?_⟩
  have hb' := bk_data d p e
  have hl := PyData.shown_le_bulk 127 (by decide) p (PyData.leavesShort_of_canLay0 127 p q.lay q.lvs)
  unfold reprOk
  simp only [q.shw, nod, Bool.true_and, Bool.not_false, Bool.and_true, Bool.and_eq_true, decide_eq_true_eq]
  refine ⟨?_, by omega⟩
  have : sizeLine = 16777216 := by decide
  have : (127 + 2) * p.bulk ≤ 129 * 120000 := Nat.mul_le_mul_left _ (by omega)
  omega
/-- the text of a datum -/
def txt (d : D) (s : Str) : Prop := ∀ st, dReprA [d] st = some (.str s)
theorem repr_txt {L k : Nat} {d : D} (h : Sh L k d) (hk : k ≤ 60) (hb : bk d ≤ 120000) : ∃ s, txt d s := by
  obtain ⟨p, e, q⟩ := repr_ok h hk hb
  cases d with
  | non => exact ⟨_, fun st => rfl⟩
  | bl b => exact ⟨_, fun st => rfl⟩
  | int i =>
    obtain ⟨p', e', q'⟩ := sh_shw h
    have := q'.shw
    simp only [D.data] at e'
    cases e'
    simp only [PyData.showable, decide_eq_true_eq] at this
    exact ⟨toString i, fun st => by simp only [dReprA, dRepr, if_pos this]⟩
  | str x =>
    cases e
    have := q
    unfold reprOk at this
    simp only [Bool.and_eq_true, decide_eq_true_eq] at this
    have l : (reprText x).length ≤ sizeLine := this.1.1.2
    exact ⟨reprText x, fun st => by simp only [dReprA, if_pos l]⟩
  | tup l => exact ⟨p.shown, fun st => by simp only [dReprA, dRepr, e, q, if_true]⟩
  | lst l => exact ⟨p.shown, fun st => by simp only [dReprA, dRepr, e, q, if_true]⟩
  | cell _ => cases e
  | dct0 => cases e
  | exc _ => cases e
end K82
end

section
set_option Elab.async false
set_option linter.all false
set_option maxRecDepth 100000
set_option maxHeartbeats 1000000
namespace K82
open PySem L2 G
theorem sh_s {L k : Nat} (x : Str) (h : PyData.strOk x = true ∧ x.length ≤ 100 := by decide +kernel) : Sh L k (.str x) := by simpa only [Sh] using h
theorem sh_i {L k : Nat} {i : Int} (h : i.natAbs ≤ 10 ^ 30) : Sh L k (.int i) := by
  simp only [Sh]
  exact Nat.lt_of_le_of_lt h (by decide +kernel)
theorem sh_t {L k : Nat} {l : List D} (hl : l.length ≤ L) (h : ∀ x ∈ l, Sh L k x) : Sh L (k + 1) (.tup l) := by simp only [Sh]; exact ⟨hl, h⟩
theorem sh_t1 {L k : Nat} {a : D} (hL : 1 ≤ L) (ha : Sh L k a) : Sh L (k + 1) (.tup [a]) := sh_t hL (by simpa using ha)
theorem sh_t2 {L k : Nat} {a b : D} (hL : 2 ≤ L) (ha : Sh L k a) (hb : Sh L k b) : Sh L (k + 1) (.tup [a, b]) := sh_t hL (by simpa using ⟨ha, hb⟩)
theorem sh_t3 {L k : Nat} {a b c : D} (hL : 3 ≤ L) (ha : Sh L k a) (hb : Sh L k b) (hc : Sh L k c) : Sh L (k + 1) (.tup [a, b, c]) := sh_t hL (by simpa using ⟨ha, hb, hc⟩)
theorem sh_t4 {L k : Nat} {a b c d : D} (hL : 4 ≤ L) (ha : Sh L k a) (hb : Sh L k b) (hc : Sh L k c) (hd : Sh L k d) : Sh L (k + 1) (.tup [a, b, c, d]) := sh_t hL (by simpa using ⟨ha, hb, hc, hd⟩)
@[simp] theorem bk_int (i : Int) : bk (.int i) = 0 := by simp [bk]
@[simp] theorem bk_tup (l : List D) : bk (.tup l) = bkL l := by simp [bk]
@[simp] theorem bk_lst (l : List D) : bk (.lst l) = bkL l := by simp [bk]
@[simp] theorem bk_str (x : Str) : bk (.str x) = x.cps.size := by simp [bk]
@[simp] theorem bk_nil : bkL [] = 0 := by simp [bkL]
@[simp] theorem bk_cons (x : D) (l : List D) : bkL (x :: l) = bk x + 1 + bkL l := by simp [bkL]
theorem ssz (x : Str) (n : Nat) (h : x.cps.size = n := by decide +kernel) : x.cps.size = n := h
structure MCh (d : D) : Prop where
  sh : Sh 6 1 d
  bk : bk d ≤ 10
  is : chg d = true
structure MRule (d : D) : Prop where
  sh : Sh 6 2 d
  bk : bk d ≤ 33
  is : ∀ st n, 3 ≤ n → fns n .is_rule [d] st = .ok (.bl true) st
def bLk : Nat → Nat
  | 0 => 8
  | t + 1 => 41 + 2 * (bLk t + 1)
structure MLook (t : Nat) (d : D) : Prop where
  sh : Sh 6 (2 * t + 1) d
  bk : bk d ≤ bLk t
  is : ∀ st n, 2 * t + 4 ≤ n → fns n .is_look [d] st = .ok (.bl true) st
structure MTest (t : Nat) (d : D) : Prop where
  sh : Sh 6 (2 * t + 2) d
  bk : bk d ≤ 2 * (bLk t + 1)
  is : ∀ st n, 2 * t + 5 ≤ n → fns n .is_test [d] st = .ok (.bl true) st
  tup : ∃ l, d = .tup l
theorem isW_self (x : Str) : isW (.str x) x = true := by simp [isW]
theorem ch_one : MCh (.tup [.str "one"]) := ⟨sh_t1 (by decide) (sh_s _), by simp [ssz "one" 3], by simp [chg, isW_self]⟩
theorem ch_sum : MCh (.tup [.str "sum"]) := ⟨sh_t1 (by decide) (sh_s _), by simp [ssz "sum" 3], by simp [chg, isW_self]⟩
theorem ch_add {c : Int} (h : c.natAbs ≤ 10 ^ 30) : MCh (.tup [.str "add", .int c]) := ⟨sh_t2 (by decide) (sh_s _) (sh_i h), by simp [ssz "add" 3], by simp [chg, isW_self, qInt]⟩
theorem ch_times {c : Int} (h : c.natAbs ≤ 10 ^ 30) : MCh (.tup [.str "times", .int c]) := ⟨sh_t2 (by decide) (sh_s _) (sh_i h), by simp [ssz "times" 5], by simp [chg, isW_self, qInt]⟩
theorem ch_rest {c : Int} (h : c.natAbs ≤ 10 ^ 30) (h0 : 0 < c) : MCh (.tup [.str "rest", .int c]) := ⟨sh_t2 (by decide) (sh_s _) (sh_i h), by simp [ssz "rest" 4], by simp [chg, isW_self, qInt, posD, h0]⟩
theorem m_rule {l : List D} (hl : l.length ≤ 3) (h : ∀ x ∈ l, MCh x) : MRule (.tup l) := by
  have sh : Sh 6 2 (.tup l) := sh_t (by omega) fun x hx => (h x hx).sh
  refine ⟨sh, ?_, fun st n hn => ?_⟩
  · rw [bk_tup]
    have := bkL_le (B := 10) l fun x hx => (h x hx).bk
    omega
  · obtain ⟨m, rfl⟩ : ∃ m, n = m + 3 := ⟨n - 3, by omega⟩
    have al : l.all chg = true := List.all_eq_true.mpr fun x hx => (h x hx).is
    refine runF_ret ?_
    have e : eComp [1] (iSeq (eVar 0)) (tgName 1) (fun _ => pure true) (eCall (fns (m + 2) .is_change) [(eVar 1)]) [some (.tup l), none] st = .ok (.lst (l.map fun d => .bl (chg d))) st := by
      refine eComp_of (l := l) (st1 := st) (by simp) ?_
      rw [compGo_map fun d => .bl (chg d)]
      · simp
      · intro d hd
        simp [evWipe, change_is (h d hd).sh (by omega)]
    simp [g_is_rule, dIsT_tuple sh, qTup, e, dAll, bools_map]
    simpa using al
theorem m_test {t : Nat} {l : List D} (hl : l.length ≤ 2) (h : ∀ x ∈ l, MLook t x) : MTest t (.tup l) := by
  have sh : Sh 6 (2 * t + 2) (.tup l) := sh_t (by omega) fun x hx => (h x hx).sh
  refine ⟨sh, ?_, fun st n hn => ?_, _, rfl⟩
  · rw [bk_tup]
    have := bkL_le (B := bLk t) l fun x hx => (h x hx).bk
    exact Nat.le_trans this (Nat.mul_le_mul_right _ hl)
  · obtain ⟨m, rfl⟩ : ∃ m, n = m + 1 := ⟨n - 1, by omega⟩
    refine runF_ret ?_
    have e : eComp [1] (iSeq (eVar 0)) (tgName 1) (fun _ => pure true) (eCall (fns m .is_look) [(eVar 1)]) [some (.tup l), none] st = .ok (.lst (l.map fun d => .bl true)) st := by
      refine eComp_of (l := l) (st1 := st) (by simp) ?_
      rw [compGo_map fun d => .bl true]
      · simp
      · intro d hd
        simp [evWipe, (h d hd).is st m (by omega)]
    have b := bools_map l fun _ => true
    simp [g_is_test, dIsT_tuple sh, qTup, e, dAll, b]
theorem bLk8 : ∀ t, 8 ≤ bLk t
  | 0 => Nat.le_refl _
  | t + 1 => by simp only [bLk]; omega
theorem q_bb (st : Store) : dEq (.str "below") (.str "below") st = some (.bl true) := we _ _ _ (by decide +kernel) (by decide +kernel) (by decide +kernel) st
theorem q_ra (st : Store) : dEq (.str "rest") (.str "after") st = some (.bl false) := we _ _ _ (by decide +kernel) (by decide +kernel) (by decide +kernel) st
theorem q_rr (st : Store) : dEq (.str "rest") (.str "rest") st = some (.bl true) := we _ _ _ (by decide +kernel) (by decide +kernel) (by decide +kernel) st
theorem q_aa (st : Store) : dEq (.str "after") (.str "after") st = some (.bl true) := we _ _ _ (by decide +kernel) (by decide +kernel) (by decide +kernel) st
theorem lk_below {t : Nat} {c : Int} (h : c.natAbs ≤ 10 ^ 30) : MLook t (.tup [.str "below", .int c]) := by
  have sh : Sh 6 (2 * t + 1) (.tup [.str "below", .int c]) := sh_t2 (by decide) (sh_s _) (sh_i h)
  refine ⟨sh, ?_, fun st n hn => ?_⟩
  · have := bLk8 t
    simp [ssz "below" 5]; omega
  · obtain ⟨m, rfl⟩ : ∃ m, n = m + 2 := ⟨n - 2, by omega⟩
    have w := fun st => whole_is (n := m) (st := st) (sh_i (L := 0) (k := 0) h)
    exact runF_ret (by simp [g_is_look, dIsT_tuple sh, qTup, q_bb, w, qInt])
theorem lk_rest {t : Nat} {m r : Int} (h : m.natAbs ≤ 10 ^ 30) (h0 : 0 ≤ r) (h1 : r < m) : MLook t (.tup [.str "rest", .int m, .int r]) := by
  have hr : r.natAbs ≤ 10 ^ 30 := by omega
  have sh : Sh 6 (2 * t + 1) (.tup [.str "rest", .int m, .int r]) := sh_t3 (by decide) (sh_s _) (sh_i h) (sh_i hr)
  refine ⟨sh, ?_, fun st n hn => ?_⟩
  · have := bLk8 t
    simp [ssz "rest" 4]; omega
  · obtain ⟨q, rfl⟩ : ∃ m, n = m + 2 := ⟨n - 2, by omega⟩
    have w := fun st => whole_is (n := q) (st := st) (sh_i (L := 0) (k := 0) h)
    have w2 := fun st => whole_is (n := q) (st := st) (sh_i (L := 0) (k := 0) hr)
    exact runF_ret (by simp [g_is_look, dIsT_tuple sh, qTup, q_ra, q_rr, w, w2, qInt, h0, h1])
theorem lk_after {t : Nat} {r x : D} (hr : MRule r) (hx : MTest t x) : MLook (t + 1) (.tup [.str "after", r, x]) := by
  have sh : Sh 6 (2 * (t + 1) + 1) (.tup [.str "after", r, x]) := sh_t3 (by decide) (sh_s _) (hr.sh.mono (Nat.le_refl _) (by omega)) hx.sh
  refine ⟨sh, ?_, fun st n hn => ?_⟩
  · have := hr.bk
    have := hx.bk
    simp [ssz "after" 5, bLk]; omega
  · obtain ⟨m, rfl⟩ : ∃ m, n = m + 1 := ⟨n - 1, by omega⟩
    have e1 := fun st => hr.is st m (by omega)
    have e2 := fun st => hx.is st m (by omega)
    exact runF_ret (by simp [g_is_look, dIsT_tuple sh, qTup, q_aa, e1, e2])
section
variable {i j : Nat} {s0 : Store}
theorem change {n : Nat} {st : Store} (h : Inv' i j s0 st) : ∃ c st', fns (n + 3) .l_change [.cell i, .cell j] st = .ok c st' ∧ MCh c ∧ Inv' i j s0 st' := by
  obtain ⟨r1, s1, e1, p1, q1, h1⟩ := digitI (n := n + 1) h (m := 5) (by decide) (by decide)
  by_cases c1 : r1 < 2
  · obtain ⟨w, s2, e2, b2, h2⟩ := whole (n := n) h1
    rcases (by omega : r1 = 0 ∨ r1 = 1) with rfl | rfl
    · exact ⟨.tup [.str "add", .int w], s2, runF_ret (by simp [g_l_change, e1, e2]), ch_add b2, h2⟩
    · exact ⟨.tup [.str "times", .int w], s2, runF_ret (by simp [g_l_change, e1, e2]), ch_times b2, h2⟩
  · rcases (by omega : r1 = 2 ∨ r1 = 3 ∨ r1 = 4) with rfl | rfl | rfl
    · obtain ⟨z, s2, e2, p2, q2, h2⟩ := digitI (n := n + 1) h1 (m := 2) (by decide) (by decide)
      rcases (by omega : z = 0 ∨ z = 1) with rfl | rfl
      · obtain ⟨y, s3, e3, p3, q3, h3⟩ := digitI (n := n + 1) h2 (m := 12) (by decide) (by decide)
        exact ⟨.tup [.str "rest", .int (1 + y)], s3, runF_ret (by simp [g_l_change, e1, e2, p29, e3]), ch_rest (by omega) (by omega), h3⟩
      · obtain ⟨y, s3, e3, p3, q3, h3⟩ := digitI (n := n + 1) h2 (m := 100000000000000000000000000000) (by decide) (by decide)
        exact ⟨.tup [.str "rest", .int (1 + y)], s3, runF_ret (by simp [g_l_change, e1, e2, p29, e3]), ch_rest (by omega) (by omega), h3⟩
    · exact ⟨.tup [.str "one"], s1, runF_ret (by simp [g_l_change, e1]), ch_one, h1⟩
    · exact ⟨.tup [.str "sum"], s1, runF_ret (by simp [g_l_change, e1]), ch_sum, h1⟩
theorem rule {n : Nat} {st : Store} (h : Inv' i j s0 st) : ∃ c st', fns (n + 4) .l_rule [.cell i, .cell j] st = .ok c st' ∧ MRule c ∧ Inv' i j s0 st' := by
  obtain ⟨r1, s1, e1, p1, q1, h1⟩ := digitI (n := n + 2) h (m := 4) (by decide) (by decide)
  obtain ⟨ys, s2, e2, h2, l2, a2⟩ := compGo_inv (i := 2) (env := [some (.cell i), some (.cell j), none]) (fe := eCall (fns (n + 3) .l_change) [(eVar 0), (eVar 1)]) (Inv' i j s0) MCh (rangeD r1.toNat) [] s1 (fun d _ st h => by
    obtain ⟨c, st', e, a, b⟩ := change (n := n) h
    exact ⟨c, st', by simp [e], b, a⟩) h1
  refine ⟨.tup ys, s2, runF_ret ?_, m_rule ?_ a2, h2⟩
  · have e3 := eComp_of (vs := [2]) (st := st) (env := [some (.cell i), some (.cell j), none]) (fi := iRange (eCall (fns (n + 3) .l_digit) [(eVar 0), (eC (.int 4))])) (tg := tgName 2) (tt := fun _ => pure true) (iRange_at (st' := s1) (i := r1) (by simp [e1]) (by omega) (by omega)) e2
    simp [g_l_rule, e3]
  · rw [l2]; simp [rangeD]; omega
theorem look_of {m k : Nat} {st : Store} (h : Inv' i j s0 st) (T : ∀ k', k = k' + 1 → ∀ st, Inv' i j s0 st → ∃ c st', fns (m + 4) .l_test [.cell i, .cell j, .int (k' : Nat)] st = .ok c st' ∧ MTest k' c ∧ Inv' i j s0 st') :
    ∃ c st', fns (m + 5) .l_look [.cell i, .cell j, .int (k : Nat)] st = .ok c st' ∧ MLook k c ∧ Inv' i j s0 st' := by
  obtain ⟨r1, s1, e1, p1, q1, h1⟩ := digitI (n := m + 3) h (m := 4) (by decide) (by decide)
  by_cases c1 : r1 < 2
  · obtain ⟨y, s2, e2, p2, q2, h2⟩ := digitI (n := m + 3) h1 (m := 4) (by decide) (by decide)
    have dk : divOk (1 + y) = true := by
      rcases (by omega : y = 0 ∨ y = 1 ∨ y = 2 ∨ y = 3) with rfl | rfl | rfl | rfl <;> decide
    obtain ⟨z, s3, e3, p3, q3, h3⟩ := digitI (n := m + 3) h2 (m := 1 + y) (by omega) dk
    exact ⟨.tup [.str "rest", .int (1 + y), .int z], s3, runF_ret (by simp [g_l_look, e1, c1, e2, e3]), lk_rest (by omega) p3 q3, h3⟩
  · by_cases c2 : r1 = 2
    · obtain ⟨w, s2, e2, b2, h2⟩ := whole (n := m + 2) h1
      exact ⟨.tup [.str "below", .int w], s2, runF_ret (by simp [g_l_look, e1, c1, c2, e2]), lk_below b2, h2⟩
    · cases k with
      | zero =>
        obtain ⟨w, s2, e2, b2, h2⟩ := whole (n := m + 2) h1
        exact ⟨.tup [.str "below", .int w], s2, runF_ret (by simp [g_l_look, e1, c1, c2, e2]), lk_below b2, h2⟩
      | succ k =>
        obtain ⟨r, s2, e2, b2, h2⟩ := rule (n := m) h1
        obtain ⟨t, s3, e3, mt, h3⟩ := T k rfl s2 h2
        have c3 : ¬ ((k : Int) + 1 = 0) := by omega
        have c4 : (k : Int) + 1 - 1 = k := by omega
        exact ⟨.tup [.str "after", r, t], s3, runF_ret (by simp [g_l_look, e1, c1, c2, c3, c4, e2, e3]), lk_after b2 mt, h3⟩
theorem test_of {m k : Nat} {st : Store} (h : Inv' i j s0 st) (Lk : ∀ st, Inv' i j s0 st → ∃ c st', fns (m + 1) .l_look [.cell i, .cell j, .int (k : Nat)] st = .ok c st' ∧ MLook k c ∧ Inv' i j s0 st') :
    ∃ c st', fns (m + 2) .l_test [.cell i, .cell j, .int (k : Nat)] st = .ok c st' ∧ MTest k c ∧ Inv' i j s0 st' := by
  obtain ⟨r1, s1, e1, p1, q1, h1⟩ := digitI (n := m) h (m := 3) (by decide) (by decide)
  obtain ⟨ys, s2, e2, h2, l2, a2⟩ := compGo_inv (i := 3) (env := [some (.cell i), some (.cell j), some (.int (k : Nat)), none]) (fe := eCall (fns (m + 1) .l_look) [(eVar 0), (eVar 1), (eVar 2)]) (Inv' i j s0) (MLook k) (rangeD r1.toNat) [] s1 (fun d _ st h => by
    obtain ⟨c, st', e, a, b⟩ := Lk st h
    exact ⟨c, st', by simp [e], b, a⟩) h1
  refine ⟨.tup ys, s2, runF_ret ?_, m_test ?_ a2, h2⟩
  · have e3 := eComp_of (vs := [3]) (st := st) (env := [some (.cell i), some (.cell j), some (.int (k : Nat)), none]) (fi := iRange (eCall (fns (m + 1) .l_digit) [(eVar 0), (eC (.int 3))])) (tg := tgName 3) (tt := fun _ => pure true) (iRange_at (st' := s1) (i := r1) (by simp [e1]) (by omega) (by omega)) e2
    simp [g_l_test, e3]
  · rw [l2]; simp [rangeD]; omega
theorem testP {n : Nat} : ∀ (k : Nat) (st : Store), Inv' i j s0 st → ∃ c st', fns (n + 2 * k + 6) .l_test [.cell i, .cell j, .int (k : Nat)] st = .ok c st' ∧ MTest k c ∧ Inv' i j s0 st' := by
  intro k
  induction k with
  | zero => exact fun st h => test_of (m := n + 4) h fun st h => look_of (m := n) h fun k' e => absurd e (by omega)
  | succ k ih =>
    exact fun st h => test_of (m := n + 2 * k + 6) h fun st h => look_of (m := n + 2 * k + 2) h fun k' e => by
      obtain rfl : k' = k := by omega
      exact ih
end
end K82
end

section
set_option Elab.async false
set_option linter.all false
set_option maxRecDepth 100000
set_option maxHeartbeats 1000000
namespace K82
open PySem L2 G
/-! ## plans that are made -/
def gB : Nat → Nat
  | 0 => 23
  | 1 => 355
  | h + 2 => 12 + 4 * gB (h + 1)
theorem gB_ge : ∀ h, 355 ≤ gB (h + 1)
  | 0 => Nat.le_refl _
  | h + 1 => by have := gB_ge h; rw [gB]; omega
theorem gB_one : ∀ h, 332 + gB h ≤ gB (h + 1)
  | 0 => by decide
  | h + 1 => by have := gB_ge h; rw [gB]; omega
theorem gB_four : ∀ h, 12 + 4 * gB h ≤ gB (h + 1)
  | 0 => by decide
  | h + 1 => by rw [gB]; omega
structure MPlan (h : Nat) (d : D) : Prop where
  sh : Sh 6 (2 * h + 7) d
  bk : bk d ≤ gB h
  is : ∀ st n, 2 * h + 14 ≤ n → fns n .is_plan [d] st = .ok (.bl true) st
  tup : ∃ x l, d = .tup (.str x :: l)
theorem MPlan.succ {h : Nat} {d : D} (p : MPlan h d) : MPlan (h + 1) d := ⟨p.sh.mono (Nat.le_refl _) (by omega), Nat.le_trans p.bk (by have := gB_one h; omega), fun st n hn => p.is st n (by omega), p.tup⟩
theorem p_list {l : List D} (hl : l.length ≤ 6) (h : ∀ x ∈ l, ∃ i : Int, x = .int i ∧ i.natAbs ≤ 10 ^ 30) : MPlan 0 (.tup [.str "list", .tup l]) := by
  have sl : ∀ {k}, Sh 6 (k + 1) (.tup l) := sh_t hl fun x hx => by obtain ⟨i, rfl, hi⟩ := h x hx; exact sh_i hi
  have al : l.all qInt = true := List.all_eq_true.mpr fun x hx => by obtain ⟨i, rfl, hi⟩ := h x hx; rfl
  have bl := bkL_le (B := 0) l fun x hx => by obtain ⟨i, rfl, hi⟩ := h x hx; simp
  refine ⟨sh_t2 (by decide) (sh_s _) sl, ?_, fun st n hn => ?_, _, _, rfl⟩
  · simp [ssz "list" 4, gB]; omega
  · obtain ⟨m, rfl⟩ : ∃ m, n = m + 4 := ⟨n - 4, by omega⟩
    have e := leaf_is (n := m) (st := st) (rest := [.tup l]) "list" (.inl rfl) (by simp) (fun x hx => by rw [List.mem_singleton.mp hx]; exact sl (k := 0))
    rw [e]
    simp [leafB, numsB]
    simpa using al
theorem p_broken {l : List D} {w : Str} (hw : w = "torn" ∨ w = "a" ∨ w = "brokenup") (hl : l.length ≤ 6) (h : ∀ x ∈ l, ∃ i : Int, x = .int i ∧ i.natAbs ≤ 10 ^ 30) : MPlan 0 (.tup [.str "broken", .tup l, .str w]) := by
  have sl : ∀ {k}, Sh 6 (k + 1) (.tup l) := sh_t hl fun x hx => by obtain ⟨i, rfl, hi⟩ := h x hx; exact sh_i hi
  have al : l.all qInt = true := List.all_eq_true.mpr fun x hx => by obtain ⟨i, rfl, hi⟩ := h x hx; rfl
  have bl := bkL_le (B := 0) l fun x hx => by obtain ⟨i, rfl, hi⟩ := h x hx; simp
  have sw : ∀ {k}, Sh 6 k (.str w) := by rcases hw with rfl | rfl | rfl <;> exact sh_s _
  have ww : wordB (.str w) = true := by rcases hw with rfl | rfl | rfl <;> decide +kernel
  have wz : w.cps.size ≤ 8 := by rcases hw with rfl | rfl | rfl <;> decide +kernel
  refine ⟨sh_t3 (by decide) (sh_s _) sl sw, ?_, fun st n hn => ?_, _, _, rfl⟩
  · simp [ssz "broken" 6, gB]; omega
  · obtain ⟨m, rfl⟩ : ∃ m, n = m + 4 := ⟨n - 4, by omega⟩
    have e := leaf_is (n := m) (st := st) (rest := [.tup l, .str w]) "broken" (.inr (.inr (.inl rfl))) (by simp) (L := 6) (k := 1) (fun x hx => by
      rcases List.mem_cons.mp hx with rfl | hx
      · exact sl
      · rw [List.mem_singleton.mp hx]; exact sw)
    rw [e]
    simp [leafB, numsB, ww]
    simpa using al
theorem p_count {a b c : Int} (ha : a.natAbs ≤ 10 ^ 30) (hb : b.natAbs ≤ 10 ^ 30) (h0 : 0 ≤ c) (h1 : c ≤ 200) : MPlan 0 (.tup [.str "count", .int a, .int b, .int c]) := by
  have hc : c.natAbs ≤ 10 ^ 30 := by omega
  refine ⟨sh_t4 (by decide) (sh_s _) (sh_i ha) (sh_i hb) (sh_i hc), by simp [ssz "count" 5, gB], fun st n hn => ?_, _, _, rfl⟩
  obtain ⟨m, rfl⟩ : ∃ m, n = m + 4 := ⟨n - 4, by omega⟩
  have e := leaf_is (n := m) (st := st) (rest := [.int a, .int b, .int c]) "count" (.inr (.inr (.inr rfl))) (by simp) (L := 6) (k := 1) (fun x hx => by
    simp only [List.mem_cons, List.not_mem_nil, or_false] at hx
    rcases hx with rfl | rfl | rfl
    · exact sh_i ha
    · exact sh_i hb
    · exact sh_i hc)
  rw [e]
  simp [leafB, qInt, betB, h0, h1]
theorem p_row {c : Int} (h0 : 0 ≤ c) (h1 : c ≤ 59) : MPlan 0 (.tup [.str "row", .int c]) := by
  have hc : c.natAbs ≤ 10 ^ 30 := by omega
  refine ⟨sh_t2 (by decide) (sh_s _) (sh_i hc), by simp [ssz "row" 3, gB], fun st n hn => ?_, _, _, rfl⟩
  obtain ⟨m, rfl⟩ : ∃ m, n = m + 4 := ⟨n - 4, by omega⟩
  have e := leaf_is (n := m) (st := st) (rest := [.int c]) "row" (.inr (.inl rfl)) (by simp) (L := 6) (k := 1) (fun x hx => by
    rw [List.mem_singleton.mp hx]; exact sh_i hc)
  rw [e]
  have nl : ¬ (("row" : Str) = "list") := by decide +kernel
  simp [leafB, nl, betB, h0, h1]
section
variable {h : Nat} {p : D}
theorem p_turn {r : D} (hr : MRule r) (hp : MPlan h p) : MPlan (h + 1) (.tup [.str "turn", r, p]) := by
  refine ⟨sh_t3 (by decide) (sh_s _) (hr.sh.mono (Nat.le_refl _) (by omega)) (hp.sh.mono (Nat.le_refl _) (by omega)), ?_, fun st n hn => ?_, _, _, rfl⟩
  · have := hr.bk; have := hp.bk; have := gB_one h
    simp [ssz "turn" 4]; omega
  · obtain ⟨q, rfl⟩ : ∃ q, n = q + 4 := ⟨n - 4, by omega⟩
    exact ip_turn (n := q + 2) (a := true) (b := true) (y := p) (rest := [r, p]) (by simp) rfl (hn_turn (n := q) (bt := [r]) (L := 6) (k := 2) (g := fun _ => true) (by simp) rfl (fun x hx => by rw [List.mem_singleton.mp hx]; exact hr.sh) (by decide) (by simp) fun x hx => by rw [List.mem_singleton.mp hx]; exact hr.is st _ (by omega)) (hp.is st _ (by omega))
theorem p_sieve {r : D} (hr : MTest 2 r) (hp : MPlan h p) : MPlan (h + 1) (.tup [.str "sieve", r, p]) := by
  refine ⟨sh_t3 (by decide) (sh_s _) (hr.sh.mono (Nat.le_refl _) (by omega)) (hp.sh.mono (Nat.le_refl _) (by omega)), ?_, fun st n hn => ?_, _, _, rfl⟩
  · have := hr.bk; have := hp.bk; have := gB_one h
    have : bLk 2 = 161 := rfl
    simp [ssz "sieve" 5]; omega
  · obtain ⟨q, rfl⟩ : ∃ q, n = q + 4 := ⟨n - 4, by omega⟩
    exact ip_sieve (n := q + 2) (a := true) (b := true) (y := p) (rest := [r, p]) (by simp) rfl (hn_sieve (n := q) (bt := [r]) (L := 6) (k := 6) (g := fun _ => true) (by simp) rfl (fun x hx => by rw [List.mem_singleton.mp hx]; exact hr.sh) (by decide) (by simp) fun x hx => by rw [List.mem_singleton.mp hx]; exact hr.is st _ (by omega)) (hp.is st _ (by omega))
theorem p_upto {r : D} (hr : MTest 2 r) (hp : MPlan h p) : MPlan (h + 1) (.tup [.str "upto", r, p]) := by
  refine ⟨sh_t3 (by decide) (sh_s _) (hr.sh.mono (Nat.le_refl _) (by omega)) (hp.sh.mono (Nat.le_refl _) (by omega)), ?_, fun st n hn => ?_, _, _, rfl⟩
  · have := hr.bk; have := hp.bk; have := gB_one h
    have : bLk 2 = 161 := rfl
    simp [ssz "upto" 4]; omega
  · obtain ⟨q, rfl⟩ : ∃ q, n = q + 4 := ⟨n - 4, by omega⟩
    exact ip_upto (n := q + 2) (a := true) (b := true) (y := p) (rest := [r, p]) (by simp) rfl (hn_upto (n := q) (bt := [r]) (L := 6) (k := 6) (g := fun _ => true) (by simp) rfl (fun x hx => by rw [List.mem_singleton.mp hx]; exact hr.sh) (by decide) (by simp) fun x hx => by rw [List.mem_singleton.mp hx]; exact hr.is st _ (by omega)) (hp.is st _ (by omega))
theorem p_spare {r : D} (hh : h ≤ 20) (hr : MPlan h r) (hp : MPlan h p) : MPlan (h + 1) (.tup [.str "spare", r, p]) := by
  refine ⟨sh_t3 (by decide) (sh_s _) (hr.sh.mono (Nat.le_refl _) (by omega)) (hp.sh.mono (Nat.le_refl _) (by omega)), ?_, fun st n hn => ?_, _, _, rfl⟩
  · have := hr.bk; have := hp.bk; have := gB_four h
    simp [ssz "spare" 5]; omega
  · obtain ⟨q, rfl⟩ : ∃ q, n = q + 4 := ⟨n - 4, by omega⟩
    have hk : 2 * h + 7 + 1 ≤ 64 := by omega
    exact ip_spare (n := q + 2) (a := true) (b := true) (y := p) (rest := [r, p]) (by simp) rfl (hn_spare (n := q) (bt := [r]) (L := 6) (k := 2 * h + 7) (g := fun _ => true) (by simp) rfl (fun x hx => by rw [List.mem_singleton.mp hx]; exact hr.sh) hk (by simp) fun x hx => by rw [List.mem_singleton.mp hx]; exact hr.is st _ (by omega)) (hp.is st _ (by omega))
theorem p_cut {c : Int} (h0 : 0 ≤ c) (h1 : c ≤ 200) (hp : MPlan h p) : MPlan (h + 1) (.tup [.str "cut", .int c, p]) := by
  have hc : ∀ {k}, Sh 6 k (.int c) := sh_i (by omega)
  refine ⟨sh_t3 (by decide) (sh_s _) hc (hp.sh.mono (Nat.le_refl _) (by omega)), ?_, fun st n hn => ?_, _, _, rfl⟩
  · have := hp.bk; have := gB_one h
    simp [ssz "cut" 3]; omega
  · obtain ⟨q, rfl⟩ : ∃ q, n = q + 4 := ⟨n - 4, by omega⟩
    have e := hn_cut (n := q) (st := st) (rest := [.int c, p]) (bt := [.int c]) (L := 6) (k := 0) (by simp) rfl (fun x hx => by rw [List.mem_singleton.mp hx]; exact hc) (by decide) (by simp)
    simp only [betB, decide_eq_true h0, decide_eq_true h1, Bool.and_self] at e
    exact ip_cut (n := q + 2) (a := true) (b := true) (y := p) (rest := [.int c, p]) (by simp) rfl e (hp.is st _ (by omega))
theorem p_left {c : Int} (h0 : 0 ≤ c) (h1 : c ≤ 200) (hp : MPlan h p) : MPlan (h + 1) (.tup [.str "left", .int c, p]) := by
  have hc : ∀ {k}, Sh 6 k (.int c) := sh_i (by omega)
  refine ⟨sh_t3 (by decide) (sh_s _) hc (hp.sh.mono (Nat.le_refl _) (by omega)), ?_, fun st n hn => ?_, _, _, rfl⟩
  · have := hp.bk; have := gB_one h
    simp [ssz "left" 4]; omega
  · obtain ⟨q, rfl⟩ : ∃ q, n = q + 4 := ⟨n - 4, by omega⟩
    have e := hn_left (n := q) (st := st) (rest := [.int c, p]) (bt := [.int c]) (L := 6) (k := 0) (by simp) rfl (fun x hx => by rw [List.mem_singleton.mp hx]; exact hc) (by decide) (by simp)
    simp only [betB, decide_eq_true h0, decide_eq_true h1, Bool.and_self] at e
    exact ip_left (n := q + 2) (a := true) (b := true) (y := p) (rest := [.int c, p]) (by simp) rfl e (hp.is st _ (by omega))
theorem p_marks {c : Int} (h0 : 0 < c) (h1 : c.natAbs ≤ 10 ^ 30) (hp : MPlan h p) : MPlan (h + 1) (.tup [.str "marks", .int c, p]) := by
  have hc : ∀ {k}, Sh 6 k (.int c) := sh_i h1
  refine ⟨sh_t3 (by decide) (sh_s _) hc (hp.sh.mono (Nat.le_refl _) (by omega)), ?_, fun st n hn => ?_, _, _, rfl⟩
  · have := hp.bk; have := gB_one h
    simp [ssz "marks" 5]; omega
  · obtain ⟨q, rfl⟩ : ∃ q, n = q + 4 := ⟨n - 4, by omega⟩
    have e := hn_marks (n := q) (st := st) (rest := [.int c, p]) (bt := [.int c]) (L := 6) (k := 0) (by simp) rfl (fun x hx => by rw [List.mem_singleton.mp hx]; exact hc) (by decide) (by simp)
    simp only [byB, decide_eq_true h0] at e
    exact ip_marks (n := q + 2) (a := true) (b := true) (y := p) (rest := [.int c, p]) (by simp) rfl e (hp.is st _ (by omega))
theorem p_ahead (hp : MPlan h p) : MPlan (h + 1) (.tup [.str "ahead", p]) := by
  refine ⟨sh_t2 (by decide) (sh_s _) (hp.sh.mono (Nat.le_refl _) (by omega)), ?_, fun st n hn => ?_, _, _, rfl⟩
  · have := hp.bk; have := gB_one h
    simp [ssz "ahead" 5]; omega
  · obtain ⟨q, rfl⟩ : ∃ q, n = q + 4 := ⟨n - 4, by omega⟩
    have e := hn_ahead (n := q) (st := st) (rest := [p]) (bt := []) (L := 6) (k := 0) (by simp) rfl (fun x hx => by simp at hx) (by decide) (by simp)
    exact ip_ahead (n := q + 2) (a := true) (b := true) (y := p) (rest := [p]) (by simp) rfl e (hp.is st _ (by omega))
theorem p_windows {c d : Int} (h0 : 1 ≤ c) (h1 : c ≤ 20) (h2 : 1 ≤ d) (h3 : d ≤ 20) (hp : MPlan h p) : MPlan (h + 1) (.tup [.str "windows", .int c, .int d, p]) := by
  have hc : ∀ {k}, Sh 6 k (.int c) := sh_i (by omega)
  have hd : ∀ {k}, Sh 6 k (.int d) := sh_i (by omega)
  refine ⟨sh_t4 (by decide) (sh_s _) hc hd (hp.sh.mono (Nat.le_refl _) (by omega)), ?_, fun st n hn => ?_, _, _, rfl⟩
  · have := hp.bk; have := gB_one h
    simp [ssz "windows" 7]; omega
  · obtain ⟨q, rfl⟩ : ∃ q, n = q + 4 := ⟨n - 4, by omega⟩
    have e := hn_windows (n := q) (st := st) (rest := [.int c, .int d, p]) (bt := [.int c, .int d]) (L := 6) (k := 0) (by simp) rfl (fun x hx => by
      rcases List.mem_cons.mp hx with rfl | hx
      · exact hc
      · rw [List.mem_singleton.mp hx]; exact hd) (by decide) (by simp)
    simp only [betB, decide_eq_true h0, decide_eq_true h1, decide_eq_true h2, decide_eq_true h3, Bool.and_self] at e
    exact ip_windows (n := q + 2) (a := true) (b := true) (y := p) (rest := [.int c, .int d, p]) (by simp) rfl e (hp.is st _ (by omega))
theorem p_wanted {c : Int} {w : Str} (hw : w = "few" ∨ w = "toofew") (h0 : 0 ≤ c) (h1 : c ≤ 200) (hp : MPlan h p) : MPlan (h + 1) (.tup [.str "wanted", .int c, .str w, p]) := by
  have hc : ∀ {k}, Sh 6 k (.int c) := sh_i (by omega)
  have sw : ∀ {k}, Sh 6 k (.str w) := by rcases hw with rfl | rfl <;> exact sh_s _
  have ww : wordB (.str w) = true := by rcases hw with rfl | rfl <;> decide +kernel
  have wz : w.cps.size ≤ 8 := by rcases hw with rfl | rfl <;> decide +kernel
  refine ⟨sh_t4 (by decide) (sh_s _) hc sw (hp.sh.mono (Nat.le_refl _) (by omega)), ?_, fun st n hn => ?_, _, _, rfl⟩
  · have := hp.bk; have := gB_one h
    simp [ssz "wanted" 6]; omega
  · obtain ⟨q, rfl⟩ : ∃ q, n = q + 4 := ⟨n - 4, by omega⟩
    have e := hn_wanted (n := q) (st := st) (rest := [.int c, .str w, p]) (bt := [.int c, .str w]) (L := 6) (k := 0) (by simp) rfl (fun x hx => by
      rcases List.mem_cons.mp hx with rfl | hx
      · exact hc
      · rw [List.mem_singleton.mp hx]; exact sw) (by decide) (by simp)
    simp only [betB, decide_eq_true h0, decide_eq_true h1, ww, Bool.and_self] at e
    exact ip_wanted (n := q + 2) (a := true) (b := true) (y := p) (rest := [.int c, .str w, p]) (by simp) rfl e (hp.is st _ (by omega))
theorem p_join (w : Str) {l : List D} (hw : w = "chain" ∨ w = "beside" ∧ l ≠ []) (hh : h ≤ 20) (hl : l.length ≤ 4) (hp : ∀ x ∈ l, MPlan h x) : MPlan (h + 1) (.tup [.str w, .tup l]) := by
  have hw' : w = "chain" ∨ w = "beside" := hw.imp id And.left
  have sw : ∀ {k}, Sh 6 k (.str w) := by rcases hw' with rfl | rfl <;> exact sh_s _
  have wz : w.cps.size ≤ 6 := by rcases hw' with rfl | rfl <;> decide +kernel
  have sl : Sh 6 (2 * h + 8) (.tup l) := sh_t (by omega) fun x hx => (hp x hx).sh
  refine ⟨sh_t2 (by decide) sw sl, ?_, fun st n hn => ?_, _, _, rfl⟩
  · have b := bkL_le (B := gB h) l fun x hx => (hp x hx).bk
    have b2 : l.length * (gB h + 1) ≤ 4 * (gB h + 1) := Nat.mul_le_mul_right _ hl
    have := gB_four h; have := gB_one h
    rcases hw with rfl | ⟨rfl, _⟩
    · simp [ssz "chain" 5]; omega
    · simp [ssz "beside" 6]; omega
  · obtain ⟨m, rfl⟩ : ∃ m, n = m + 3 := ⟨n - 3, by omega⟩
    have e := joined_is (n := m) (st := st) w hw' (f := fun _ => true) sl (by omega) fun y hy => (hp y hy).is st _ (by omega)
    rw [e]
    rcases hw with rfl | ⟨rfl, hn⟩
    · simp; omega
    · have : l.isEmpty = false := by cases l <;> simp at hn ⊢
      simp [this]; omega
end
end K82
end

section
set_option Elab.async false
set_option linter.all false
set_option maxRecDepth 100000
set_option maxHeartbeats 1000000
namespace K82
open PySem L2 G
/-! ## the makers of plans -/
@[simp] theorem dIdx_l2 {st : Store} (a b c : D) (l : List D) : dIdx (.lst (a :: b :: c :: l)) (.int 2) st = some c := atI_nat (l := a :: b :: c :: l) (k := 2) (by simp)
theorem add_lst {a b : List D} {st : Store} (h : a.length + b.length ≤ 16777216) : dAdd (.lst a) (.lst b) st = some (.lst (a ++ b)) := by
  simp only [dAdd]
  rw [if_pos (by simpa [sizeLine] using h)]
section
variable {i j : Nat} {s0 : Store}
theorem Inv'.get {st : Store} (h : Inv' i j s0 st) : ∃ p g r : Int, st[j]? = some (roomD p g r) ∧ 0 ≤ r ∧ r ≤ 8 := by
  obtain ⟨c, hc, p, g, r, rfl, h0, h8⟩ := h.room
  exact ⟨p, g, r, hc, h0, h8⟩
theorem get_rows {st : Store} {p g r : Int} (hc : st[j]? = some (roomD p g r)) : dGet (.cell j) (.str "rows") st = some (.int r) := by
  simp only [dGet, keyOf, hc, roomD, valD]; rfl
theorem get_parts {st : Store} {p g r : Int} (hc : st[j]? = some (roomD p g r)) : dGet (.cell j) (.str "parts") st = some (.int p) := by
  simp only [dGet, keyOf, hc, roomD, valD]; rfl
theorem Inv'.put {st : Store} (h : Inv' i j s0 st) (p g r : Int) (h0 : 0 ≤ r) (h8 : r ≤ 8) : Inv' i j s0 (st.set j (roomD p g r)) := by
  obtain ⟨c, hc, _⟩ := h.room
  have hl : j < st.length := (List.getElem?_eq_some_iff.mp hc).1
  refine ⟨?_, ⟨_, by rw [List.getElem?_set_self hl], _, _, _, rfl, h0, h8⟩, fun k hi hj hk => by rw [List.getElem?_set_ne (Ne.symm hj)]; exact h.rest k hi hj hk, h.ne⟩
  obtain ⟨c, hc, pc⟩ := h.pot
  exact ⟨c, by rw [List.getElem?_set_ne (Ne.symm h.ne)]; exact hc, pc⟩
theorem put_rows {st : Store} {p g r r' : Int} (hc : st[j]? = some (roomD p g r)) : putKey (.cell j) (.str "rows") (.int r') st = .ok () (st.set j (roomD p g r')) := by
  simp only [putKey, keyOf, hc, roomD]; rfl
theorem put_parts {st : Store} {p g r p' : Int} (hc : st[j]? = some (roomD p g r)) : putKey (.cell j) (.str "parts") (.int p') st = .ok () (st.set j (roomD p' g r)) := by
  simp only [putKey, keyOf, hc, roomD]; rfl
theorem leafP {n : Nat} {st : Store} (h : Inv' i j s0 st) : ∃ c st', fns (n + 3) .l_leaf [.cell i, .cell j] st = .ok c st' ∧ MPlan 0 c ∧ Inv' i j s0 st' := by
  obtain ⟨kd, s1, e1, p1, q1, h1⟩ := digitI (n := n + 1) h (m := 6) (by decide) (by decide)
  obtain ⟨r2, s2, e2, p2, q2, h2⟩ := digitI (n := n + 1) h1 (m := 7) (by decide) (by decide)
  obtain ⟨ys, s3, e3, h3, l3, a3⟩ := compGo_inv (i := 4) (env := [some (.cell i), some (.cell j), some (.int kd), none, none]) (fe := eCall (fns (n + 2) .l_whole) [(eVar 0), (eVar 1)]) (Inv' i j s0) (fun x => ∃ i : Int, x = .int i ∧ i.natAbs ≤ 10 ^ 30) (rangeD r2.toNat) [] s2 (fun d _ st h => by
    obtain ⟨c, st', e, a, b⟩ := whole (n := n) h
    exact ⟨.int c, st', by simp [e], b, c, rfl, a⟩) h2
  have ln : ys.length ≤ 6 := by rw [l3]; simp [rangeD]; omega
  have e4 := eComp_of (vs := [4]) (st := s1) (env := [some (.cell i), some (.cell j), some (.int kd), none, none]) (fi := iRange (eCall (fns (n + 2) .l_digit) [(eVar 0), (eC (.int 7))])) (tg := tgName 4) (tt := fun _ => pure true) (iRange_at (st' := s2) (i := r2) (by simp [e2]) (by omega) (by omega)) e3
  by_cases c4 : kd = 4
  · subst c4
    obtain ⟨z, s4, e5, p5, q5, h4⟩ := digitI (n := n + 1) h3 (m := 3) (by decide) (by decide)
    rcases (by omega : z = 0 ∨ z = 1 ∨ z = 2) with rfl | rfl | rfl
    · exact ⟨.tup [.str "broken", .tup ys, .str "torn"], s4, runF_ret (by simp [g_l_leaf, e1, e4, e5]), p_broken (.inl rfl) ln a3, h4⟩
    · exact ⟨.tup [.str "broken", .tup ys, .str "a"], s4, runF_ret (by simp [g_l_leaf, e1, e4, e5]), p_broken (.inr (.inl rfl)) ln a3, h4⟩
    · exact ⟨.tup [.str "broken", .tup ys, .str "brokenup"], s4, runF_ret (by simp [g_l_leaf, e1, e4, e5]), p_broken (.inr (.inr rfl)) ln a3, h4⟩
  · by_cases c3 : kd = 3
    · subst c3
      obtain ⟨a, s4, e5, b5, h4⟩ := whole (n := n) h3
      obtain ⟨b, s5, e6, b6, h5⟩ := whole (n := n) h4
      obtain ⟨c, s6, e7, p7, q7, h6⟩ := digitI (n := n + 1) h5 (m := 9) (by decide) (by decide)
      exact ⟨.tup [.str "count", .int a, .int b, .int c], s6, runF_ret (by simp [g_l_leaf, e1, e4, e5, e6, e7]), p_count b5 b6 p7 (by omega), h6⟩
    · obtain ⟨p, g, r, hc, r0, r8⟩ := h3.get
      by_cases c5 : 4 < kd ∧ r < 8
      · have h4 := h3.put p g (r + 1) (by omega) (by omega)
        have hl : j < s3.length := (List.getElem?_eq_some_iff.mp hc).1
        have hc' : (s3.set j (roomD p g (r + 1)))[j]? = some (roomD p g (r + 1)) := by rw [List.getElem?_set_self hl]
        have eg := get_rows hc'
        have ep := put_rows (r' := r + 1) hc
        generalize s3.set j (roomD p g (r + 1)) = s4 at h4 ep eg
        have ar : r + 1 - 1 = r := by omega
        exact ⟨.tup [.str "row", .int r], s4, runF_ret (by simp [g_l_leaf, e1, e4, c4, c3, c5.1, c5.2, get_rows hc, ep, eg, ar]), p_row r0 (by omega), h4⟩
      · refine ⟨.tup [.str "list", .tup ys], s3, runF_ret ?_, p_list ln a3, h3⟩
        by_cases c6 : 4 < kd
        · have c7 : ¬ r < 8 := fun z => c5 ⟨c6, z⟩
          simp [g_l_leaf, e1, e4, c4, c3, c6, c7, get_rows hc]
        · simp [g_l_leaf, e1, e4, c4, c3, c6]
def GR (h : Nat) (d : D) : Prop := ∃ c, ∃ w : Int, d = .tup [c, .int w] ∧ 0 ≤ w ∧ w ≤ 60 ∧ MPlan h c
theorem GR.succ {h : Nat} {d : D} : GR h d → GR (h + 1) d := fun ⟨c, w, e, a, b, p⟩ => ⟨c, w, e, a, b, p.succ⟩
section
variable {n hh : Nat} {c : D} {w : Int} {st : Store}
theorem upon_turn (h : Inv' i j s0 st) (hc : MPlan hh c) (w0 : 0 ≤ w) (w1 : w ≤ 60) : ∃ d st', fns (n + 11) .l_upon [.cell i, .cell j, .str "turn", .tup [c, .int w]] st = .ok d st' ∧ GR (hh + 1) d ∧ Inv' i j s0 st' := by
  obtain ⟨r, s1, e1, hr, h1⟩ := rule (n := n + 6) h
  exact ⟨.tup [.tup [.str "turn", r, c], .int w], s1, runF_ret (by simp [g_l_upon, e1]), ⟨_, _, rfl, w0, w1, p_turn hr hc⟩, h1⟩
theorem upon_sieve (h : Inv' i j s0 st) (hc : MPlan hh c) (w0 : 0 ≤ w) (w1 : w ≤ 60) : ∃ d st', fns (n + 11) .l_upon [.cell i, .cell j, .str "sieve", .tup [c, .int w]] st = .ok d st' ∧ GR (hh + 1) d ∧ Inv' i j s0 st' := by
  obtain ⟨r, s1, e1, hr, h1⟩ := testP (n := n) 2 st h
  have e1 : fns (n + 10) .l_test [.cell i, .cell j, .int 2] st = .ok r s1 := e1
  exact ⟨.tup [.tup [.str "sieve", r, c], .int w], s1, runF_ret (by simp [g_l_upon, e1]), ⟨_, _, rfl, w0, w1, p_sieve hr hc⟩, h1⟩
theorem upon_upto (h : Inv' i j s0 st) (hc : MPlan hh c) (w0 : 0 ≤ w) (w1 : w ≤ 60) : ∃ d st', fns (n + 11) .l_upon [.cell i, .cell j, .str "upto", .tup [c, .int w]] st = .ok d st' ∧ GR (hh + 1) d ∧ Inv' i j s0 st' := by
  obtain ⟨r, s1, e1, hr, h1⟩ := testP (n := n) 2 st h
  have e1 : fns (n + 10) .l_test [.cell i, .cell j, .int 2] st = .ok r s1 := e1
  exact ⟨.tup [.tup [.str "upto", r, c], .int w], s1, runF_ret (by simp [g_l_upon, e1]), ⟨_, _, rfl, w0, w1, p_upto hr hc⟩, h1⟩
theorem far_digit (h : Inv' i j s0 st) : ∃ (z : Int) (s1 : Store) (m y : Int) (s2 : Store), fns (n + 10) .l_digit [.cell i, .int 3] st = .ok (.int z) s1 ∧ dIdx (.lst [.int 5, .int 5, .int 201]) (.int z) s1 = some (.int m) ∧ fns (n + 10) .l_digit [.cell i, .int m] s1 = .ok (.int y) s2 ∧ 0 ≤ y ∧ y ≤ 200 ∧ Inv' i j s0 s2 := by
  obtain ⟨z, s1, e1, p1, q1, h1⟩ := digitI (n := n + 9) h (m := 3) (by decide) (by decide)
  obtain ⟨y, s2, e2, p2, q2, h2⟩ := digitI (n := n + 9) h1 (m := 5) (by decide) (by decide)
  obtain ⟨y', s3, e3, p3, q3, h3⟩ := digitI (n := n + 9) h1 (m := 201) (by decide) (by decide)
  rcases (by omega : z = 0 ∨ z = 1 ∨ z = 2) with rfl | rfl | rfl
  · exact ⟨_, _, 5, y, s2, e1, by simp, e2, p2, by omega, h2⟩
  · exact ⟨_, _, 5, y, s2, e1, by simp, e2, p2, by omega, h2⟩
  · exact ⟨_, _, 201, y', s3, e1, by simp, e3, p3, by omega, h3⟩
theorem upon_cut (h : Inv' i j s0 st) (hc : MPlan hh c) (w0 : 0 ≤ w) (w1 : w ≤ 60) : ∃ d st', fns (n + 11) .l_upon [.cell i, .cell j, .str "cut", .tup [c, .int w]] st = .ok d st' ∧ GR (hh + 1) d ∧ Inv' i j s0 st' := by
  obtain ⟨z, s1, m, y, s2, e1, e2, e3, y0, y1, h2⟩ := far_digit (n := n) h
  exact ⟨.tup [.tup [.str "cut", .int y, c], .int w], s2, runF_ret (by simp [g_l_upon, e1, e2, e3]), ⟨_, _, rfl, w0, w1, p_cut y0 y1 hc⟩, h2⟩
theorem upon_left (h : Inv' i j s0 st) (hc : MPlan hh c) (w0 : 0 ≤ w) (w1 : w ≤ 60) : ∃ d st', fns (n + 11) .l_upon [.cell i, .cell j, .str "left", .tup [c, .int w]] st = .ok d st' ∧ GR (hh + 1) d ∧ Inv' i j s0 st' := by
  obtain ⟨z, s1, m, y, s2, e1, e2, e3, y0, y1, h2⟩ := far_digit (n := n) h
  exact ⟨.tup [.tup [.str "left", .int y, c], .int w], s2, runF_ret (by simp [g_l_upon, e1, e2, e3]), ⟨_, _, rfl, w0, w1, p_left y0 y1 hc⟩, h2⟩
theorem upon_marks (h : Inv' i j s0 st) (hc : MPlan hh c) (w0 : 0 ≤ w) (w1 : w ≤ 60) : ∃ d st', fns (n + 11) .l_upon [.cell i, .cell j, .str "marks", .tup [c, .int w]] st = .ok d st' ∧ GR (hh + 1) d ∧ Inv' i j s0 st' := by
  obtain ⟨z, s1, e1, p1, q1, h1⟩ := digitI (n := n + 9) h (m := 2) (by decide) (by decide)
  rcases (by omega : z = 0 ∨ z = 1) with rfl | rfl
  · obtain ⟨y, s2, e2, p2, q2, h2⟩ := digitI (n := n + 9) h1 (m := 3) (by decide) (by decide)
    exact ⟨.tup [.tup [.str "marks", .int (1 + y), c], .int 1], s2, runF_ret (by simp [g_l_upon, p29, e1, e2]), ⟨_, _, rfl, by omega, by omega, p_marks (by omega) (by omega) hc⟩, h2⟩
  · obtain ⟨y, s2, e2, p2, q2, h2⟩ := digitI (n := n + 9) h1 (m := 100000000000000000000000000000) (by decide) (by decide)
    exact ⟨.tup [.tup [.str "marks", .int (1 + y), c], .int 1], s2, runF_ret (by simp [g_l_upon, p29, e1, e2]), ⟨_, _, rfl, by omega, by omega, p_marks (by omega) (by omega) hc⟩, h2⟩
theorem upon_wanted (h : Inv' i j s0 st) (hc : MPlan hh c) (w0 : 0 ≤ w) (w1 : w ≤ 60) : ∃ d st', fns (n + 11) .l_upon [.cell i, .cell j, .str "wanted", .tup [c, .int w]] st = .ok d st' ∧ GR (hh + 1) d ∧ Inv' i j s0 st' := by
  obtain ⟨z, s1, e1, p1, q1, h1⟩ := digitI (n := n + 9) h (m := 2) (by decide) (by decide)
  obtain ⟨m, y, s2, e2, e3, p2, q2, h2⟩ : ∃ (m y : Int) (s2 : Store), dIdx (.lst [.int 6, .int 201]) (.int z) s1 = some (.int m) ∧ fns (n + 10) .l_digit [.cell i, .int m] s1 = .ok (.int y) s2 ∧ 0 ≤ y ∧ y ≤ 200 ∧ Inv' i j s0 s2 := by
    obtain ⟨y, s2, e2, p2, q2, h2⟩ := digitI (n := n + 9) h1 (m := 6) (by decide) (by decide)
    obtain ⟨y', s3, e3, p3, q3, h3⟩ := digitI (n := n + 9) h1 (m := 201) (by decide) (by decide)
    rcases (by omega : z = 0 ∨ z = 1) with rfl | rfl
    · exact ⟨6, y, s2, by simp, e2, p2, by omega, h2⟩
    · exact ⟨201, y', s3, by simp, e3, p3, by omega, h3⟩
  obtain ⟨u, s3, e4, p4, q4, h3⟩ := digitI (n := n + 9) h2 (m := 2) (by decide) (by decide)
  rcases (by omega : u = 0 ∨ u = 1) with rfl | rfl
  · exact ⟨.tup [.tup [.str "wanted", .int y, .str "few", c], .int w], s3, runF_ret (by simp [g_l_upon, e1, e2, e3, e4]), ⟨_, _, rfl, w0, w1, p_wanted (.inl rfl) p2 q2 hc⟩, h3⟩
  · exact ⟨.tup [.tup [.str "wanted", .int y, .str "toofew", c], .int w], s3, runF_ret (by simp [g_l_upon, e1, e2, e3, e4]), ⟨_, _, rfl, w0, w1, p_wanted (.inr rfl) p2 q2 hc⟩, h3⟩
theorem upon_ahead (h : Inv' i j s0 st) (hc : MPlan hh c) (w0 : 0 ≤ w) (w1 : w ≤ 60) : ∃ d st', fns (n + 11) .l_upon [.cell i, .cell j, .str "ahead", .tup [c, .int w]] st = .ok d st' ∧ GR (hh + 1) d ∧ Inv' i j s0 st' :=
  ⟨.tup [.tup [.str "ahead", c], .int w], st, runF_ret (by simp [g_l_upon]), ⟨_, _, rfl, w0, w1, p_ahead hc⟩, h⟩
theorem two_of {ys : List D} (h : ys.length = 2) : ∃ a b, ys = [a, b] := by
  match ys, h with
  | [a, b], _ => exact ⟨a, b, rfl⟩
theorem upon_windows (h : Inv' i j s0 st) (hc : MPlan hh c) (w0 : 0 ≤ w) (w1 : w ≤ 60) : ∃ d st', fns (n + 11) .l_upon [.cell i, .cell j, .str "windows", .tup [c, .int w]] st = .ok d st' ∧ GR (hh + 1) d ∧ Inv' i j s0 st' := by
  obtain ⟨ys, s3, e3, h3, l3, a3⟩ := compGo_inv (i := 8) (env := [some (.cell i), some (.cell j), some (.str "windows"), some (.tup [c, .int w]), some c, some (.int w), none, none, none]) (fe := (eOp dAdd (eC (.int 1)) (eCall (fns (n + 10) .l_digit) [(eVar 0), (eOp dIdx (eLst [(eC (.int 1)), (eC (.int 3)), (eC (.int 20))]) (eCall (fns (n + 10) .l_digit) [(eVar 0), (eC (.int 3))]))]))) (Inv' i j s0) (fun x => ∃ y : Int, x = .int y ∧ 1 ≤ y ∧ y ≤ 20) [.int 0, .int 1] [] st (fun d _ st h => by
    obtain ⟨z, s1, e1, p1, q1, h1⟩ := digitI (n := n + 9) h (m := 3) (by decide) (by decide)
    rcases (by omega : z = 0 ∨ z = 1 ∨ z = 2) with rfl | rfl | rfl
    · obtain ⟨y, s2, e2, p2, q2, h2⟩ := digitI (n := n + 9) h1 (m := 1) (by decide) (by decide)
      exact ⟨.int (1 + y), s2, by simp [e1, e2], h2, _, rfl, by omega, by omega⟩
    · obtain ⟨y, s2, e2, p2, q2, h2⟩ := digitI (n := n + 9) h1 (m := 3) (by decide) (by decide)
      exact ⟨.int (1 + y), s2, by simp [e1, e2], h2, _, rfl, by omega, by omega⟩
    · obtain ⟨y, s2, e2, p2, q2, h2⟩ := digitI (n := n + 9) h1 (m := 20) (by decide) (by decide)
      exact ⟨.int (1 + y), s2, by simp [e1, e2], h2, _, rfl, by omega, by omega⟩) h
  obtain ⟨a, b, rfl⟩ := two_of l3
  obtain ⟨x, rfl, x0, x1⟩ := a3 a (by simp)
  obtain ⟨y, rfl, y0, y1⟩ := a3 b (by simp)
  have rg : ∀ env st, iRange (eC (.int 2)) env st = .ok [.int 0, .int 1] st := fun _ _ => rfl
  have e4 := eComp_of (vs := [8]) (st := st) (env := [some (.cell i), some (.cell j), some (.str "windows"), some (.tup [c, .int w]), some c, some (.int w), none, none, none]) (fi := iRange (eC (.int 2))) (tg := tgName 8) (tt := fun _ => pure true) (rg _ _) e3
  have m1 : ∀ st, dMul (.int x) (.int w) st = some (.int (x * w)) := fun st => dMul_of (mulOk_of (a := 10) (b := 10) (by omega) (by omega) (by decide) (by decide))
  have m2 : ∀ st, dMul (.int 1) (.int w) st = some (.int (1 * w)) := fun st => dMul_of (mulOk_of (a := 10) (b := 10) (by decide) (by omega) (by decide) (by decide))
  by_cases q : x * w ≤ 60
  · exact ⟨.tup [.tup [.str "windows", .int x, .int y, c], .int (x * w)], s3, runF_ret (by simp [g_l_upon, e4, m1, q]), ⟨_, _, rfl, Int.mul_nonneg (by omega) w0, q, p_windows x0 x1 y0 y1 hc⟩, h3⟩
  · refine ⟨.tup [.tup [.str "windows", .int 1, .int y, c], .int w], s3, runF_ret ?_, ⟨_, _, rfl, w0, w1, p_windows (by decide) (by decide) y0 y1 hc⟩, h3⟩
    simp [g_l_upon, e4, m1, q, m2]
end
end
end K82
end

section
set_option Elab.async false
set_option linter.all false
set_option maxRecDepth 100000
set_option maxHeartbeats 2000000
namespace K82
open PySem L2 G
def wordsL : List D := [.str "turn", .str "turn", .str "turn", .str "sieve", .str "sieve", .str "upto", .str "upto", .str "cut", .str "cut", .str "left", .str "left", .str "ahead", .str "windows", .str "marks", .str "wanted", .str "chain", .str "chain", .str "chain", .str "beside", .str "beside", .str "spare", .str "leaf"]
def wordsS : List Str := ["turn", "sieve", "upto", "cut", "left", "ahead", "windows", "marks", "wanted", "chain", "beside", "spare"]
theorem words_at {r : Int} (h0 : 0 ≤ r) (h1 : r < 22) : ∃ x : Str, (∀ st, dIdx (.lst wordsL) (.int r) st = some (.str x)) ∧ (x = "leaf" ∨ x ∈ wordsS) := by
  rcases (by omega : r = 0 ∨ r = 1 ∨ r = 2 ∨ r = 3 ∨ r = 4 ∨ r = 5 ∨ r = 6 ∨ r = 7 ∨ r = 8 ∨ r = 9 ∨ r = 10 ∨ r = 11 ∨ r = 12 ∨ r = 13 ∨ r = 14 ∨ r = 15 ∨ r = 16 ∨ r = 17 ∨ r = 18 ∨ r = 19 ∨ r = 20 ∨ r = 21) with rfl | rfl | rfl | rfl | rfl | rfl | rfl | rfl | rfl | rfl | rfl | rfl | rfl | rfl | rfl | rfl | rfl | rfl | rfl | rfl | rfl | rfl
  all_goals refine ⟨_, fun st => rfl, ?_⟩
  all_goals first | exact .inl rfl | (refine .inr ?_; simp [wordsS])
theorem leaf_eq (st : Store) : dEq (.str "leaf") (.str "leaf") st = some (.bl true) := we _ _ _ (by decide +kernel) (by decide +kernel) (by decide +kernel) st
theorem leaf_ne {x : Str} (h : x ∈ wordsS) (st : Store) : dEq (.str x) (.str "leaf") st = some (.bl false) := by
  simp only [wordsS, List.mem_cons, List.not_mem_nil, or_false] at h
  rcases h with rfl | rfl | rfl | rfl | rfl | rfl | rfl | rfl | rfl | rfl | rfl | rfl <;> exact we _ _ _ (by decide +kernel) (by decide +kernel) (by decide +kernel) st
def gvSpare (F : Fn → List D → M D) : Ev → M Fl := (sSeq (sAsgT (eComp [10] (iRange (eC (.int 2))) (tgName 10) (fun _ => pure true) (eCall (F .l_grove) [(eVar 0), (eVar 1), (eOp dSub (eVar 2) (eC (.int 1)))])) (fun d env => noErr (gtPairL (gtName 5) (gtName 6) d env))) (sRet (eTup [(eTup [(eVar 4), (eOp dIdx (eVar 5) (eC (.int 0))), (eOp dIdx (eVar 6) (eC (.int 0)))]), (eB dMax2 [(eOp dIdx (eVar 5) (eC (.int 1))), (eOp dIdx (eVar 6) (eC (.int 1)))])])))
def gvJoinB (F : Fn → List D → M D) : Ev → M Fl := (sSeq (sAsg 8 (eComp [10] (iRange (eVar 7)) (tgName 10) (fun _ => pure true) (eCall (F .l_grove) [(eVar 0), (eVar 1), (eOp dSub (eVar 2) (eC (.int 1)))]))) (sSeq (sAsg 9 (eIf (tVal (eOp dEq (eVar 4) (eC (.str "chain")))) (eB dMaxL [(eOp dAdd (eLst [(eC (.int 1))]) (eComp [5] (iSeq (eVar 8)) (tgName 5) (fun _ => pure true) (eOp dIdx (eVar 5) (eC (.int 1)))))]) (eB dSum [(eComp [5] (iSeq (eVar 8)) (tgName 5) (fun _ => pure true) (eOp dIdx (eVar 5) (eC (.int 1))))]))) (sSeq (sIf (tVal (eOp dGt (eVar 9) (eC (.int 60)))) (sRet (eOp dIdx (eVar 8) (eC (.int 0)))) sNop) (sRet (eTup [(eTup [(eVar 4), (eB dTuple [(eComp [5] (iSeq (eVar 8)) (tgName 5) (fun _ => pure true) (eOp dIdx (eVar 5) (eC (.int 0))))])]), (eVar 9)])))))
def gvJoin (F : Fn → List D → M D) : Ev → M Fl := (sSeq (sAsg 7 (eIf (tVal (eOp dEq (eVar 4) (eC (.str "chain")))) (eCall (F .l_digit) [(eVar 0), (eC (.int 5))]) (eOp dAdd (eC (.int 1)) (eCall (F .l_digit) [(eVar 0), (eC (.int 3))])))) (gvJoinB F))
def gvUpon (F : Fn → List D → M D) : Ev → M Fl := (sRet (eCall (F .l_upon) [(eVar 0), (eVar 1), (eVar 4), (eCall (F .l_grove) [(eVar 0), (eVar 1), (eOp dSub (eVar 2) (eC (.int 1)))])]))
def gvTail (F : Fn → List D → M D) : Ev → M Fl := (sSeq (sPutK (eVar 1) (eC (.str "parts")) (eOp dSub (eOp dGet (eVar 1) (eC (.str "parts"))) (eC (.int 1)))) (sSeq (sIf (tVal (eOp dEq (eVar 4) (eC (.str "spare")))) (gvSpare F) sNop) (sSeq (sIf (tVal (eOp dIn (eVar 4) (eTup [(eC (.str "chain")), (eC (.str "beside"))]))) (gvJoin F) sNop) (gvUpon F))))
theorem g_gv (F : Fn → List D → M D) : g_l_grove F = (sSeq (sAsg 3 (eLst [(eC (.str "turn")), (eC (.str "turn")), (eC (.str "turn")), (eC (.str "sieve")), (eC (.str "sieve")), (eC (.str "upto")), (eC (.str "upto")), (eC (.str "cut")), (eC (.str "cut")), (eC (.str "left")), (eC (.str "left")), (eC (.str "ahead")), (eC (.str "windows"))])) (sSeq (sAsg 3 (eOp dAdd (eVar 3) (eLst [(eC (.str "marks")), (eC (.str "wanted")), (eC (.str "chain")), (eC (.str "chain")), (eC (.str "chain")), (eC (.str "beside")), (eC (.str "beside")), (eC (.str "spare")), (eC (.str "leaf"))]))) (sSeq (sAsg 4 (eOp dIdx (eVar 3) (eCall (F .l_digit) [(eVar 0), (eC (.int 22))]))) (sSeq (sIf (tOr' (tVal (eOp dEq (eVar 2) (eC (.int 0)))) (tOr' (tVal (eOp dLt (eOp dGet (eVar 1) (eC (.str "parts"))) (eC (.int 1)))) (tVal (eOp dEq (eVar 4) (eC (.str "leaf")))))) (sRet (eTup [(eCall (F .l_leaf) [(eVar 0), (eVar 1)]), (eC (.int 1))])) sNop) (gvTail F))))) := rfl
def fstD : D → D
  | .tup [c, .int _] => c
  | d => d
def sndI : D → Int
  | .tup [_, .int w] => w
  | _ => 0
theorem MPlan.mono {h h' : Nat} {d : D} (p : MPlan h d) (hh : h ≤ h') : MPlan h' d := by
  induction hh with
  | refl => exact p
  | step _ ih => exact ih.succ
section
variable {i j : Nat} {s0 : Store}
theorem gv_spare {n k : Nat} {o3 : Option D} {st : Store} (hk : k ≤ 20) (IH : ∀ st, Inv' i j s0 st → ∃ d st', fns n .l_grove [.cell i, .cell j, .int (k : Nat)] st = .ok d st' ∧ GR k d ∧ Inv' i j s0 st') (h : Inv' i j s0 st) :
    ∃ d st', gvSpare (fns n) [some (.cell i), some (.cell j), some (.int ((k : Int) + 1)), o3, some (.str "spare"), none, none, none, none, none, none] st = .ok (.ret d) st' ∧ GR (k + 1) d ∧ Inv' i j s0 st' := by
  have c4 : (k : Int) + 1 - 1 = k := by omega
  obtain ⟨ys, s3, e3, h3, l3, a3⟩ := compGo_inv (i := 10) (env := [some (.cell i), some (.cell j), some (.int ((k : Int) + 1)), o3, some (.str "spare"), none, none, none, none, none, none]) (fe := (eCall (fns n .l_grove) [(eVar 0), (eVar 1), (eOp dSub (eVar 2) (eC (.int 1)))])) (Inv' i j s0) (GR k) [.int 0, .int 1] [] st (fun d _ st h => by
    obtain ⟨c, st', e, a, b⟩ := IH st h
    exact ⟨c, st', by simp [c4, e], b, a⟩) h
  obtain ⟨a, b, rfl⟩ := two_of l3
  obtain ⟨c, w, rfl, w0, w1, pc⟩ := a3 a (by simp)
  obtain ⟨c', w', rfl, w0', w1', pc'⟩ := a3 b (by simp)
  have rg : ∀ env st, iRange (eC (.int 2)) env st = .ok [.int 0, .int 1] st := fun _ _ => rfl
  have e4 := eComp_of (vs := [10]) (st := st) (env := [some (.cell i), some (.cell j), some (.int ((k : Int) + 1)), o3, some (.str "spare"), none, none, none, none, none, none]) (fi := iRange (eC (.int 2))) (tg := tgName 10) (tt := fun _ => pure true) (rg _ _) e3
  refine ⟨.tup [.tup [.str "spare", c, c'], .int (if w' > w then w' else w)], s3, ?_, ⟨_, _, rfl, ?_, ?_, p_spare hk pc pc'⟩, h3⟩
  · simp [gvSpare, e4, dMax2]
  · split <;> omega
  · split <;> omega
theorem snd_comp {ys : List D} {k : Nat} {env : Ev} {st : Store} (he : env[8]? = some (some (.lst ys))) (hl : env.length = 11) (h : ∀ y ∈ ys, GR k y) : eComp [5] (iSeq (eVar 8)) (tgName 5) (fun _ => pure true) (eOp dIdx (eVar 5) (eC (.int 1))) env st = .ok (.lst (ys.map fun d => .int (sndI d))) st := by
  refine eComp_of (l := ys) (st1 := st) (by simp [he]) ?_
  rw [compGo_map fun d => .int (sndI d)]
  · simp
  · intro d hd
    obtain ⟨c, w, rfl, _⟩ := h d hd
    have : ∀ st, eVar 5 ((evWipe env [5]).set 5 (some (.tup [c, .int w]))) st = .ok (.tup [c, .int w]) st := fun st => eVar_at 5 (by simp [evWipe, hl])
    simp [this, sndI]
theorem fst_comp {ys : List D} {k : Nat} {env : Ev} {st : Store} (he : env[8]? = some (some (.lst ys))) (hl : env.length = 11) (h : ∀ y ∈ ys, GR k y) : eComp [5] (iSeq (eVar 8)) (tgName 5) (fun _ => pure true) (eOp dIdx (eVar 5) (eC (.int 0))) env st = .ok (.lst (ys.map fstD)) st := by
  refine eComp_of (l := ys) (st1 := st) (by simp [he]) ?_
  rw [compGo_map fstD]
  · simp
  · intro d hd
    obtain ⟨c, w, rfl, _⟩ := h d hd
    have : ∀ st, eVar 5 ((evWipe env [5]).set 5 (some (.tup [c, .int w]))) st = .ok (.tup [c, .int w]) st := fun st => eVar_at 5 (by simp [evWipe, hl])
    simp [this, fstD]
theorem sum_nonneg : ∀ l : List Int, (∀ x ∈ l, 0 ≤ x) → 0 ≤ l.sum
  | [], _ => by simp
  | x :: l, h => by
    have h1 := h x (by simp)
    have h2 := sum_nonneg l fun y hy => h y (by simp [hy])
    simp only [List.sum_cons]; omega
theorem gv_join {n k : Nat} {m : Nat} {x : Str} (hx : x = "chain" ∨ x = "beside" ∧ 0 < m) (hm : m ≤ 4) {o3 : Option D} {st : Store} (hk : k ≤ 20) (IH : ∀ st, Inv' i j s0 st → ∃ d st', fns n .l_grove [.cell i, .cell j, .int (k : Nat)] st = .ok d st' ∧ GR k d ∧ Inv' i j s0 st') (h : Inv' i j s0 st) :
    ∃ d st', gvJoinB (fns n) [some (.cell i), some (.cell j), some (.int ((k : Int) + 1)), o3, some (.str x), none, none, some (.int (m : Nat)), none, none, none] st = .ok (.ret d) st' ∧ GR (k + 1) d ∧ Inv' i j s0 st' := by
  have c4 : (k : Int) + 1 - 1 = k := by omega
  obtain ⟨ys, s3, e3, h3, l3, a3⟩ := compGo_inv (i := 10) (env := [some (.cell i), some (.cell j), some (.int ((k : Int) + 1)), o3, some (.str x), none, none, some (.int (m : Nat)), none, none, none]) (fe := (eCall (fns n .l_grove) [(eVar 0), (eVar 1), (eOp dSub (eVar 2) (eC (.int 1)))])) (Inv' i j s0) (GR k) (rangeD m) [] st (fun d _ st h => by
    obtain ⟨c, st', e, a, b⟩ := IH st h
    exact ⟨c, st', by simp [c4, e], b, a⟩) h
  have lm : ys.length = m := by rw [l3]; simp [rangeD]
  have rg := iRange_at (fa := eVar 7) (env := [some (.cell i), some (.cell j), some (.int ((k : Int) + 1)), o3, some (.str x), none, none, some (.int (m : Nat)), none, none, none]) (st := st) (st' := st) (i := (m : Nat)) (by simp) (by omega) (by omega)
  have tn : ((m : Nat) : Int).toNat = m := by omega
  rw [tn] at rg
  have e4 := eComp_of (vs := [10]) (tg := tgName 10) (tt := fun _ => pure true) rg e3
  have sn := snd_comp (st := s3) (env := [some (.cell i), some (.cell j), some (.int ((k : Int) + 1)), o3, some (.str x), none, none, some (.int (m : Nat)), some (.lst ys), none, none]) rfl rfl a3
  have fs := fun W => fst_comp (st := s3) (env := [some (.cell i), some (.cell j), some (.int ((k : Int) + 1)), o3, some (.str x), none, none, some (.int (m : Nat)), some (.lst ys), some (.int W), none]) rfl rfl a3
  have sI : ∀ y ∈ ys, 0 ≤ sndI y ∧ sndI y ≤ 60 := fun y hy => by
    obtain ⟨c, w, rfl, w0, w1, _⟩ := a3 y hy
    exact ⟨w0, w1⟩
  have pl : ∀ y ∈ ys.map fstD, MPlan k y := fun y hy => by
    obtain ⟨z, hz, rfl⟩ := List.mem_map.mp hy
    obtain ⟨c, w, rfl, w0, w1, p⟩ := a3 z hz
    exact p
  have li : (ys.map fstD).length ≤ 4 := by simp [lm, hm]
  rcases hx with rfl | ⟨rfl, hm0⟩
  · obtain ⟨W, eW, W0, W1⟩ : ∃ W : Int, (ints? (ys.map fun d => D.int (sndI d))).bind (fun ns => maxI (1 :: ns)) = some W ∧ 0 ≤ W ∧ W ≤ 60 := by
      rw [ints_map]
      obtain ⟨f1, f2, f3⟩ := foldl_max (ys.map sndI) 1
      refine ⟨_, rfl, by omega, ?_⟩
      rcases f1 with f1 | f1
      · omega
      · obtain ⟨y, hy, e⟩ := List.mem_map.mp f1
        have := sI y hy
        omega
    have mx : ∀ st, dMaxL [.lst (.int 1 :: ys.map fun d => .int (sndI d))] st = some (.int W) := fun st => by
      simp only [dMaxL, ints?]
      cases q : ints? (ys.map fun d => D.int (sndI d)) with
      | none => rw [q] at eW; cases eW
      | some ns => rw [q] at eW; simp only [Option.bind_some] at eW; simp only [Option.map_some, Option.bind_some, eW]
    have ad : ∀ st, dAdd (.lst [.int 1]) (.lst (ys.map fun d => .int (sndI d))) st = some (.lst (.int 1 :: ys.map fun d => .int (sndI d))) := fun st => add_lst (by simp [lm]; omega)
    have nW : ¬ 60 < W := by omega
    refine ⟨.tup [.tup [.str "chain", .tup (ys.map fstD)], .int W], s3, ?_, ⟨_, _, rfl, W0, W1, p_join _ (.inl rfl) hk li pl⟩, h3⟩
    simp [gvJoinB, e4, sn, ad, mx, nW, fs]
  · have sm : ∀ st, dSum [.lst (ys.map fun d => .int (sndI d))] st = some (.int (ys.map sndI).sum) := fun st => by
      simp only [dSum, ints_map, Option.map_some]
    have s0' : 0 ≤ (ys.map sndI).sum := sum_nonneg _ fun z hz => by
      obtain ⟨y, hy, rfl⟩ := List.mem_map.mp hz
      exact (sI y hy).1
    generalize (ys.map sndI).sum = W at sm s0'
    by_cases c : 60 < W
    · obtain ⟨y, iy, my⟩ : ∃ y, (∀ st, dIdx (.lst ys) (.int 0) st = some y) ∧ y ∈ ys := by
        cases ys with
        | nil => simp at lm; omega
        | cons y r => exact ⟨y, fun st => dIdx_l0 _ _, by simp⟩
      refine ⟨y, s3, ?_, (a3 y my).succ, h3⟩
      simp [gvJoinB, e4, sn, sm, c, iy]
    · refine ⟨.tup [.tup [.str "beside", .tup (ys.map fstD)], .int W], s3, ?_, ⟨_, _, rfl, s0', by omega, p_join _ (.inr ⟨rfl, ?_⟩) hk li pl⟩, h3⟩
      · simp [gvJoinB, e4, sn, sm, c, fs]
      · intro e
        have := congrArg List.length e
        simp at this
        simp [this] at lm
        omega
theorem gv_upon {n k : Nat} {x : Str} (hx : x ∈ (["turn", "sieve", "upto", "cut", "left", "ahead", "windows", "marks", "wanted"] : List Str)) {o3 : Option D} {st : Store} (IH : ∀ st, Inv' i j s0 st → ∃ d st', fns (n + 11) .l_grove [.cell i, .cell j, .int (k : Nat)] st = .ok d st' ∧ GR k d ∧ Inv' i j s0 st') (h : Inv' i j s0 st) :
    ∃ d st', gvUpon (fns (n + 11)) [some (.cell i), some (.cell j), some (.int ((k : Int) + 1)), o3, some (.str x), none, none, none, none, none, none] st = .ok (.ret d) st' ∧ GR (k + 1) d ∧ Inv' i j s0 st' := by
  have c4 : (k : Int) + 1 - 1 = k := by omega
  obtain ⟨d, s1, e1, ⟨c, w, rfl, w0, w1, pc⟩, h1⟩ := IH st h
  have key : ∃ d st', fns (n + 11) .l_upon [.cell i, .cell j, .str x, .tup [c, .int w]] s1 = .ok d st' ∧ GR (k + 1) d ∧ Inv' i j s0 st' := by
    simp only [List.mem_cons, List.not_mem_nil, or_false] at hx
    rcases hx with rfl | rfl | rfl | rfl | rfl | rfl | rfl | rfl | rfl
    · exact upon_turn h1 pc w0 w1
    · exact upon_sieve h1 pc w0 w1
    · exact upon_upto h1 pc w0 w1
    · exact upon_cut h1 pc w0 w1
    · exact upon_left h1 pc w0 w1
    · exact upon_ahead h1 pc w0 w1
    · exact upon_windows h1 pc w0 w1
    · exact upon_marks h1 pc w0 w1
    · exact upon_wanted h1 pc w0 w1
  obtain ⟨d, s2, e2, g2, h2⟩ := key
  exact ⟨d, s2, by simp [gvUpon, c4, e1, e2], g2, h2⟩
theorem gv_tail {n k : Nat} {x : Str} (hx : x ∈ wordsS) (hk : k ≤ 20) {o3 : Option D} {st : Store} (IH : ∀ st, Inv' i j s0 st → ∃ d st', fns (n + 11) .l_grove [.cell i, .cell j, .int (k : Nat)] st = .ok d st' ∧ GR k d ∧ Inv' i j s0 st') (h : Inv' i j s0 st) :
    ∃ d st', gvTail (fns (n + 11)) [some (.cell i), some (.cell j), some (.int ((k : Int) + 1)), o3, some (.str x), none, none, none, none, none, none] st = .ok (.ret d) st' ∧ GR (k + 1) d ∧ Inv' i j s0 st' := by
  obtain ⟨p, g, r, hc, r0, r8⟩ := h.get
  have h2 := h.put (p - 1) g r r0 r8
  have ep := put_parts (p' := p - 1) hc
  have eg := get_parts hc
  generalize st.set j (roomD (p - 1) g r) = s2 at h2 ep
  have ux : x ∈ (["turn", "sieve", "upto", "cut", "left", "ahead", "windows", "marks", "wanted"] : List Str) ∨ x = "chain" ∨ x = "beside" ∨ x = "spare" := by
    simp only [wordsS, List.mem_cons, List.not_mem_nil, or_false] at hx ⊢
    rcases hx with h | h | h | h | h | h | h | h | h | h | h | h <;> simp [h]
  rcases ux with ux | rfl | rfl | rfl
  · obtain ⟨d, s3, e3, g3, h3⟩ := gv_upon (o3 := o3) ux IH h2
    refine ⟨d, s3, ?_, g3, h3⟩
    simp only [List.mem_cons, List.not_mem_nil, or_false] at ux
    rcases ux with rfl | rfl | rfl | rfl | rfl | rfl | rfl | rfl | rfl <;> simp [gvTail, eg, ep, e3]
  · obtain ⟨m, s3, e3, p3, q3, h3⟩ := digitI (n := n + 10) h2 (m := 5) (by decide) (by decide)
    obtain ⟨m, rfl⟩ : ∃ m' : Nat, m = (m' : Int) := ⟨m.toNat, by omega⟩
    obtain ⟨d, s4, e4, g4, h4⟩ := gv_join (m := m) (x := "chain") (.inl rfl) (by omega) (o3 := o3) hk IH h3
    exact ⟨d, s4, by simp [gvTail, gvJoin, eg, ep, e3, e4], g4, h4⟩
  · obtain ⟨m, s3, e3, p3, q3, h3⟩ := digitI (n := n + 10) h2 (m := 3) (by decide) (by decide)
    obtain ⟨m, rfl⟩ : ∃ m' : Nat, m = (m' : Int) := ⟨m.toNat, by omega⟩
    obtain ⟨d, s4, e4, g4, h4⟩ := gv_join (m := 1 + m) (x := "beside") (.inr ⟨rfl, by omega⟩) (by omega) (o3 := o3) hk IH h3
    have cm : ((1 + m : Nat) : Int) = 1 + (m : Int) := by omega
    rw [cm] at e4
    exact ⟨d, s4, by simp [gvTail, gvJoin, eg, ep, e3, e4], g4, h4⟩
  · obtain ⟨d, s4, e4, g4, h4⟩ := gv_spare (o3 := o3) hk IH h2
    exact ⟨d, s4, by simp [gvTail, eg, ep, e4], g4, h4⟩
theorem grove {n : Nat} : ∀ (k : Nat) (st : Store), k ≤ 20 → Inv' i j s0 st → ∃ d st', fns (n + k + 12) .l_grove [.cell i, .cell j, .int (k : Nat)] st = .ok d st' ∧ GR k d ∧ Inv' i j s0 st' := by
  intro k
  induction k with
  | zero =>
    intro st _ h
    obtain ⟨r, s1, e1, p1, q1, h1⟩ := digitI (n := n + 10) h (m := 22) (by decide) (by decide)
    obtain ⟨x, ix, hx⟩ := words_at p1 q1
    obtain ⟨c, s2, e2, pc, h2⟩ := leafP (n := n + 8) h1
    refine ⟨.tup [c, .int 1], s2, runF_ret ?_, ⟨c, 1, rfl, by decide, by decide, pc⟩, h2⟩
    unfold wordsL at ix
    simp [g_gv, add_lst, e1, ix, e2]
  | succ k ih =>
    intro st hk h
    have IH := fun st h => ih st (by omega) h
    obtain ⟨r, s1, e1, p1, q1, h1⟩ := digitI (n := n + k + 11) h (m := 22) (by decide) (by decide)
    obtain ⟨x, ix, hx⟩ := words_at p1 q1
    obtain ⟨p, g, r', hc, r0, r8⟩ := h1.get
    have eg := get_parts hc
    have c3 : ¬ ((k : Int) + 1 = 0) := by omega
    have e5 : fns (n + (k + 1) + 11) = fns (n + k + 12) := rfl
    have lf : ∃ d st', fns (n + k + 12) .l_leaf [.cell i, .cell j] s1 = .ok d st' ∧ GR (k + 1) (.tup [d, .int 1]) ∧ Inv' i j s0 st' := by
      obtain ⟨c, s2, e2, pc, h2⟩ := leafP (n := n + k + 9) h1
      exact ⟨c, s2, e2, ⟨c, 1, rfl, by decide, by decide, pc.mono (by omega)⟩, h2⟩
    by_cases cp : p < 1
    · obtain ⟨d, s2, e2, g2, h2⟩ := lf
      refine ⟨_, s2, runF_ret ?_, g2, h2⟩
      unfold wordsL at ix
      simp [g_gv, add_lst, e5, e1, ix, c3, eg, cp, e2]
    · rcases hx with rfl | hx
      · obtain ⟨d, s2, e2, g2, h2⟩ := lf
        refine ⟨_, s2, runF_ret ?_, g2, h2⟩
        unfold wordsL at ix
        simp [g_gv, add_lst, e5, e1, ix, c3, eg, cp, leaf_eq, e2]
      · obtain ⟨d, s2, e2, g2, h2⟩ := gv_tail (n := n + k + 1) (o3 := some (.lst wordsL)) hx (by omega) IH h1
        refine ⟨_, s2, runF_ret ?_, g2, h2⟩
        have e2' : gvTail (fns (n + k + 12)) [some (.cell i), some (.cell j), some (.int ((k : Int) + 1)), some (.lst wordsL), some (.str x), none, none, none, none, none, none] s1 = .ok (.ret d) s2 := e2
        unfold wordsL at ix e2'
        simp [g_gv, add_lst, e5, e1, ix, c3, eg, cp, leaf_ne hx, e2']
end
theorem planned {i n : Nat} {st : Store} (hi : i < st.length) (h : Pot i st) : ∃ d st', fns (n + 18) .l_planned [.cell i] st = .ok d st' ∧ MPlan 5 d ∧ Pot i st' ∧ ∀ k, k ≠ i → k < st.length → st'[k]? = st[k]? := by
  obtain ⟨r, s1, e1, p1, q1, h1, k1⟩ := digit (n := n + 16) h (m := 11) (by decide) (by decide)
  have hi1 : i < s1.length := by obtain ⟨c, hc, _⟩ := h1; exact (List.getElem?_eq_some_iff.mp hc).1
  have h0 : Inv' i s1.length (s1 ++ [roomD (1 + r) 3 0]) (s1 ++ [roomD (1 + r) 3 0]) := by
    obtain ⟨c, hc, pc⟩ := h1
    exact ⟨⟨c, by rw [List.getElem?_append_left hi1]; exact hc, pc⟩, ⟨_, by rw [List.getElem?_append_right (Nat.le_refl _)]; simp, 1 + r, 3, 0, rfl, by decide, by decide⟩, fun k _ _ _ => rfl, by omega⟩
  obtain ⟨d, s2, e2, ⟨c, w, rfl, w0, w1, pc⟩, h2⟩ := grove (n := n) 5 _ (by decide) h0
  have e2 : fns (n + 17) .l_grove [.cell i, .cell s1.length, .int 5] (s1 ++ [roomD (1 + r) 3 0]) = .ok (.tup [c, .int w]) s2 := e2
  have gl2 : (.dct (List.zip [(.inr "parts" : Key), .inr "great", .inr "rows"] [D.int (1 + r), D.int 3, D.int 0]) : Cell) = roomD (1 + r) 3 0 := rfl
  refine ⟨c, s2, runF_ret ?_, pc, h2.pot, fun k hk hl => ?_⟩
  · unfold roomD at e2
    simp [g_l_planned, e1, e2]
  · have hl1 : k < s1.length ∨ s1.length ≤ k := by omega
    have e := k1 k hk
    rcases hl1 with hl1 | hl1
    · rw [h2.rest k hk (by omega) (by simp; omega), List.getElem?_append_left hl1, e]
    · rw [List.getElem?_eq_getElem hl] at e
      have := (List.getElem?_eq_some_iff.mp e).1
      omega
end K82
end

section
set_option Elab.async false
set_option linter.all false
set_option maxRecDepth 100000
set_option maxHeartbeats 2000000
namespace K82
open PySem L2 G
/-! ## spoilt things -/
structure PI (i : Nat) (s0 st : Store) : Prop where
  pot : Pot i st
  rest : ∀ k, k ≠ i → k < s0.length → st[k]? = s0[k]?
theorem PI.app {i : Nat} {s0 st : Store} (h : PI i s0 st) (e : Store) : PI i s0 (st ++ e) := by
  obtain ⟨⟨c, hc, pc⟩, r⟩ := h
  have hl : i < st.length := (List.getElem?_eq_some_iff.mp hc).1
  refine ⟨⟨c, by rw [List.getElem?_append_left hl]; exact hc, pc⟩, fun k hk hs => ?_⟩
  have e1 := r k hk hs
  rw [List.getElem?_eq_getElem hs] at e1
  have := (List.getElem?_eq_some_iff.mp e1).1
  rw [List.getElem?_append_left this, e1, List.getElem?_eq_getElem hs]
theorem digitP {i n : Nat} {m : Int} {s0 st : Store} (h : PI i s0 st) (hm : 0 < m) (hm2 : divOk m = true) : ∃ r st', fns (n + 1) .l_digit [.cell i, .int m] st = .ok (.int r) st' ∧ 0 ≤ r ∧ r < m ∧ PI i s0 st' := by
  obtain ⟨r, st', e, a, b, p, q⟩ := digit (n := n) h.pot hm hm2
  exact ⟨r, st', e, a, b, p, fun k hk hs => (q k hk).trans (h.rest k hk hs)⟩
theorem divOk_small {m : Int} (h : 0 < m) (h2 : m ≤ 1000000) : divOk m = true := by
  unfold divOk
  refine decide_eq_true ⟨h, ?_⟩
  exact Nat.lt_of_lt_of_le ((Nat.log2_lt (by omega)).mpr (by omega : m.natAbs < 2 ^ 20)) (by decide)
theorem add_tup {a b : List D} {st : Store} (h : a.length + b.length ≤ 16777216) : dAdd (.tup a) (.tup b) st = some (.tup (a ++ b)) := by
  simp only [dAdd]
  rw [if_pos (by simpa [sizeLine] using h)]
theorem sIx_at {n d a : Nat} (h : a ≤ n) : HT.sIx n d (some (a : Int)) = a := by
  simp only [HT.sIx]
  rw [if_neg (by omega)]
  show min ((a : Int).toNat) n = a
  omega
theorem cut_pre {l : List D} {a : Nat} (h : a ≤ l.length) : cut l none (some (a : Int)) = l.take a := by
  unfold cut
  rw [sIx_at h]
  show (l.drop 0).take (a - 0) = _
  simp
theorem cut_suf {l : List D} {a : Nat} (h : a ≤ l.length) : cut l (some (a : Int)) none = l.drop a := by
  unfold cut
  rw [sIx_at h]
  show (l.drop a).take (l.length - a) = _
  rw [List.take_of_length_le (by rw [List.length_drop]; exact Nat.le_refl _)]
theorem cut_suf1 {l : List D} {a : Nat} (h : a < l.length) : cut l (some ((a : Int) + 1)) none = l.drop (a + 1) := cut_suf (a := a + 1) h
theorem bk_split (l : List D) (a : Nat) : bkL (l.take a) + bkL (l.drop a) = bkL l := by rw [← bkL_app, List.take_append_drop]
theorem bk_split1 {l : List D} {a : Nat} {x : D} (h : l[a]? = some x) : bkL (l.take a) + (bk x + 1 + bkL (l.drop (a + 1))) = bkL l := by
  obtain ⟨ha, e⟩ := List.getElem?_eq_some_iff.mp h
  rw [← bk_split l a, List.drop_eq_getElem_cons ha, e]
  simp only [bkL]
def oddL : List D := [.non, .bl true, .bl false, .int 0, .int (-1), .int 1, .int 7, .int 21, .int 60, .int 201, .int 100000000000000000000000000000, .str "", .str "a", .str "list", .str "broken", .str "count", .str "row", .str "turn", .str "sieve", .str "cut", .str "left", .str "chain", .str "beside", .str "ahead", .str "windows", .str "marks", .str "spare", .str "wanted", .str "add", .str "A", .str "below", .str "a b", .str "abcdefghi", .tup [], .lst [], .tup [.str "one"], .tup [.str "list", .tup [.int 1]], .tup [.str "row", .int 0], .tup [.tup [.str "add", .int 1]], .tup [.str "chain", .tup []], .str "a1"]
structure Od (x : D) : Prop where
  sh : Sh 2 2 x
  bk : bk x ≤ 9
theorem od_s (x : Str) (h : (PyData.strOk x = true ∧ x.length ≤ 100) ∧ x.cps.size ≤ 9 := by decide +kernel) : Od (.str x) := ⟨sh_s _ h.1, by rw [bk_str]; exact h.2⟩
theorem od_i (x : Int) (h : x.natAbs ≤ 10 ^ 30 := by decide +kernel) : Od (.int x) := ⟨sh_i h, by simp⟩
theorem odd_od : ∀ x ∈ oddL, Od x := by
  intro x hx
  simp only [oddL, List.mem_cons, List.not_mem_nil, or_false] at hx
  rcases hx with rfl | rfl | rfl | rfl | rfl | rfl | rfl | rfl | rfl | rfl | rfl | rfl | rfl | rfl | rfl | rfl | rfl | rfl | rfl | rfl | rfl | rfl | rfl | rfl | rfl | rfl | rfl | rfl | rfl | rfl | rfl | rfl | rfl | rfl | rfl | rfl | rfl | rfl | rfl | rfl | rfl
  all_goals first
    | exact od_s _
    | exact od_i _
    | exact ⟨sh_t1 (by decide) (sh_s _), by simp [ssz "one" 3]⟩
    | exact ⟨sh_t2 (by decide) (sh_s _) (sh_t1 (by decide) (sh_i (by decide))), by simp [ssz "list" 4]⟩
    | exact ⟨sh_t2 (by decide) (sh_s _) (sh_i (by decide)), by simp [ssz "row" 3]⟩
    | exact ⟨sh_t1 (by decide) (sh_t2 (by decide) (sh_s _) (sh_i (by decide))), by simp [ssz "add" 3]⟩
    | exact ⟨sh_t2 (by decide) (sh_s _) (by simp [Sh]), by simp [ssz "chain" 5]⟩
    | (refine ⟨?_, ?_⟩ <;> simp [Sh, bk]; done)
def spRest (m : Nat) : Ev → M Fl := (sSeq (sAsg 5 (eCall (fns (m + 1) .l_digit) [(eVar 0), (eOp dAdd (eB dLen [(eVar 1)]) (eC (.int 1)))])) (sSeq (sIf (tAnd' (tVal (eOp dEq (eVar 4) (eC (.int 0)))) (tVal (eOp dLt (eVar 5) (eB dLen [(eVar 1)])))) (sRet (eOp dAdd (eSl (eVar 1) pNo (pAt (eVar 5))) (eSl (eVar 1) (pAt (eOp dAdd (eVar 5) (eC (.int 1)))) pNo))) sNop) (sSeq (sIf (tOr' (tVal (eOp dEq (eVar 4) (eC (.int 1)))) (tVal (eOp dEq (eVar 5) (eB dLen [(eVar 1)])))) (sRet (eOp dAdd (eOp dAdd (eSl (eVar 1) pNo (pAt (eVar 5))) (eTup [(eVar 3)])) (eSl (eVar 1) (pAt (eVar 5)) pNo))) sNop) (sRet (eOp dAdd (eOp dAdd (eSl (eVar 1) pNo (pAt (eVar 5))) (eTup [(eCall (fns (m + 1) .l_spoilt) [(eVar 0), (eOp dIdx (eVar 1) (eVar 5))])])) (eSl (eVar 1) (pAt (eOp dAdd (eVar 5) (eC (.int 1)))) pNo))))))
section
variable {i : Nat} {s0 : Store}
theorem sp_rest {m L k : Nat} (hL2 : L ≤ 1000) {l : List D} {od o : D} {w : Int} {st : Store} (hl : l.length ≤ L) (hx : ∀ x ∈ l, Sh (2 * L + 1) k x) (ho : Sh (2 * L + 1) k o) (hb : bk o ≤ 9) (IH : ∀ x ∈ l, ∀ st, PI i s0 st → ∃ c st', fns (m + 1) .l_spoilt [.cell i, x] st = .ok c st' ∧ (Sh (2 * L + 1) k c ∧ bk c ≤ bk x + 10) ∧ PI i s0 st') (h : PI i s0 st) :
    ∃ c st', spRest m [some (.cell i), some (.tup l), some od, some o, some (.int w), none] st = .ok (.ret c) st' ∧ (Sh (2 * L + 1) (k + 1) c ∧ bk c ≤ bk (.tup l) + 10) ∧ PI i s0 st' := by
  obtain ⟨a, s1, e1, p1, q1, h1⟩ := digitP (n := m) h (m := (l.length : Int) + 1) (by omega) (divOk_small (by omega) (by omega))
  obtain ⟨a, rfl⟩ : ∃ a' : Nat, a = (a' : Int) := ⟨a.toNat, by omega⟩
  have ct := cut_pre (l := l) (a := a) (by omega)
  have lt := List.length_take (i := a) (l := l)
  by_cases c1 : w = 0 ∧ (a : Int) < l.length
  · have ha : a < l.length := by omega
    have cs := cut_suf1 ha
    have ld := List.length_drop (i := a + 1) (l := l)
    refine ⟨.tup (l.take a ++ l.drop (a + 1)), s1, ?_, ⟨?_, ?_⟩, h1⟩
    · simp [spRest, e1, c1.1, c1.2, dSl, ct, cs, add_tup (a := l.take a) (b := l.drop (a + 1)) (by omega)]
    · simp only [Sh]
      refine ⟨by rw [List.length_append]; omega, fun x hm => ?_⟩
      rcases List.mem_append.mp hm with hm | hm
      · exact hx x (List.mem_of_mem_take hm)
      · exact hx x (List.mem_of_mem_drop hm)
    · obtain ⟨x, hxe⟩ : ∃ x, l[a]? = some x := ⟨_, List.getElem?_eq_getElem ha⟩
      have := bk_split1 hxe
      rw [bk_tup, bk_tup, bkL_app]; omega
  · by_cases c2 : w = 1 ∨ (a : Int) = l.length
    · have cs := cut_suf (l := l) (a := a) (by omega)
      have ld := List.length_drop (i := a) (l := l)
      refine ⟨.tup (l.take a ++ [o] ++ l.drop a), s1, ?_, ⟨?_, ?_⟩, h1⟩
      · have t1 := fun st => add_tup (st := st) (a := l.take a) (b := [o]) (by simp; omega)
        have t2 := fun st => add_tup (st := st) (a := l.take a ++ [o]) (b := l.drop a) (by rw [List.length_append]; simp; omega)
        by_cases w0 : w = 0
        · have c3 : ¬ (a : Int) < l.length := fun z => c1 ⟨w0, z⟩
          subst w0
          have c5 : (a < l.length) = False := eq_false (by omega)
          have c6 : ((a : Int) = (l.length : Int)) = True := eq_true (by omega)
          simp [spRest, e1, c5, c6, dSl, ct, cs, t1, t2]
        · by_cases w1 : w = 1
          · subst w1
            simp [spRest, e1, dSl, ct, cs, t1, t2]
          · have c6 : ((a : Int) = (l.length : Int)) = True := eq_true (by omega)
            simp [spRest, e1, w0, w1, c6, dSl, ct, cs, t1, t2]
      · simp only [Sh]
        refine ⟨by rw [List.length_append, List.length_append]; simp; omega, fun x hm => ?_⟩
        rcases List.mem_append.mp hm with hm | hm
        · rcases List.mem_append.mp hm with hm | hm
          · exact hx x (List.mem_of_mem_take hm)
          · rw [List.mem_singleton.mp hm]; exact ho
        · exact hx x (List.mem_of_mem_drop hm)
      · have := bk_split l a
        rw [bk_tup, bk_tup, bkL_app, bkL_app]; simp only [bkL]; omega
    · have ha : a < l.length := by omega
      obtain ⟨x, hxe⟩ : ∃ x, l[a]? = some x := ⟨_, List.getElem?_eq_getElem ha⟩
      have cs := cut_suf1 ha
      have ld := List.length_drop (i := a + 1) (l := l)
      obtain ⟨y, s2, e2, ⟨y2, y3⟩, h2⟩ := IH x (List.mem_of_getElem? hxe) s1 h1
      refine ⟨.tup (l.take a ++ [y] ++ l.drop (a + 1)), s2, ?_, ⟨?_, ?_⟩, h2⟩
      · have t1 := fun st => add_tup (st := st) (a := l.take a) (b := [y]) (by simp; omega)
        have t2 := fun st => add_tup (st := st) (a := l.take a ++ [y]) (b := l.drop (a + 1)) (by rw [List.length_append]; simp; omega)
        have w1 : ¬ w = 1 := fun z => c2 (.inl z)
        have c6 : ((a : Int) = (l.length : Int)) = False := eq_false (by omega)
        have w0 : ¬ w = 0 := fun z => c1 ⟨z, by omega⟩
        have dx := fun st => dIdx_tn (st := st) hxe
        simp [spRest, e1, w0, w1, c6, dSl, ct, cs, t1, t2, dx, e2]
      · simp only [Sh]
        refine ⟨by rw [List.length_append, List.length_append]; simp; omega, fun x hm => ?_⟩
        rcases List.mem_append.mp hm with hm | hm
        · rcases List.mem_append.mp hm with hm | hm
          · exact hx x (List.mem_of_mem_take hm)
          · rw [List.mem_singleton.mp hm]; exact y2
        · exact hx x (List.mem_of_mem_drop hm)
      · have := bk_split1 hxe
        rw [bk_tup, bk_tup, bkL_app, bkL_app]; simp only [bkL]; omega
theorem g_sp (m : Nat) : g_l_spoilt (fns (m + 1)) = (sSeq (sAsg 2 (eLst [(eC .non), (eC (.bl true)), (eC (.bl false)), (eC (.int 0)), (eUn dNeg (eC (.int 1))), (eC (.int 1)), (eC (.int 7)), (eC (.int 21)), (eC (.int 60)), (eC (.int 201)), (eOp dPow (eC (.int 10)) (eC (.int 29))), (eC (.str "")), (eC (.str "a")), (eC (.str "list")), (eC (.str "broken")), (eC (.str "count")), (eC (.str "row")), (eC (.str "turn"))])) (sSeq (sAsg 2 (eOp dAdd (eVar 2) (eLst [(eC (.str "sieve")), (eC (.str "cut")), (eC (.str "left")), (eC (.str "chain")), (eC (.str "beside")), (eC (.str "ahead")), (eC (.str "windows")), (eC (.str "marks")), (eC (.str "spare")), (eC (.str "wanted")), (eC (.str "add")), (eC (.str "A"))]))) (sSeq (sAsg 2 (eOp dAdd (eVar 2) (eLst [(eC (.str "below")), (eC (.str "a b")), (eC (.str "abcdefghi")), (eTup []), (eLst []), (eTup [(eC (.str "one"))]), (eTup [(eC (.str "list")), (eTup [(eC (.int 1))])]), (eTup [(eC (.str "row")), (eC (.int 0))]), (eTup [(eTup [(eC (.str "add")), (eC (.int 1))])])]))) (sSeq (sAsg 2 (eOp dAdd (eVar 2) (eLst [(eTup [(eC (.str "chain")), (eTup [])]), (eC (.str "a1"))]))) (sSeq (sAsg 3 (eOp dIdx (eVar 2) (eCall (fns (m + 1) .l_digit) [(eVar 0), (eB dLen [(eVar 2)])]))) (sSeq (sAsg 4 (eCall (fns (m + 1) .l_digit) [(eVar 0), (eC (.int 6))])) (sSeq (sIf (tOr' (tNot' (tVal (eUn (dIsT "tuple") (eVar 1)))) (tAnd' (tVal (eOp dEq (eVar 4) (eC (.int 5)))) (tVal (eOp dEq (eCall (fns (m + 1) .l_digit) [(eVar 0), (eC (.int 3))]) (eC (.int 0)))))) (sRet (eVar 3)) sNop) (spRest m)))))))) := rfl
theorem spl_of {m L k : Nat} (hL2 : L ≤ 1000) (hL : 2 ≤ L) (hk : 2 ≤ k) {d : D} {st : Store} (hs : Sh L k d) (hd : ∀ l, d = .tup l → l.length ≤ L ∧ ∀ x ∈ l, Sh (2 * L + 1) k x) (IH : ∀ l, d = .tup l → ∀ x ∈ l, ∀ st, PI i s0 st → ∃ c st', fns (m + 1) .l_spoilt [.cell i, x] st = .ok c st' ∧ (Sh (2 * L + 1) k c ∧ bk c ≤ bk x + 10) ∧ PI i s0 st') (h : PI i s0 st) :
    ∃ c st', fns (m + 2) .l_spoilt [.cell i, d] st = .ok c st' ∧ (Sh (2 * L + 1) (k + 1) c ∧ bk c ≤ bk d + 10) ∧ PI i s0 st' := by
  obtain ⟨r1, s1, e1, p1, q1, h1⟩ := digitP (n := m) h (m := 41) (by decide) (by decide)
  have hn : r1.toNat < oddL.length := by simp [oddL]; omega
  obtain ⟨o, ho⟩ : ∃ o, oddL[r1.toNat]? = some o := ⟨_, List.getElem?_eq_getElem hn⟩
  have oo := odd_od o (List.mem_of_getElem? ho)
  have so : Sh (2 * L + 1) 2 o := oo.sh.mono (by omega) (Nat.le_refl _)
  have ix : ∀ st, dIdx (.lst oddL) (.int r1) st = some o := fun st => by
    have := dIdx_ln (st := st) ho
    rwa [show ((r1.toNat : Nat) : Int) = r1 from by omega] at this
  unfold oddL at ix
  obtain ⟨w, s2, e2, p2, q2, h2⟩ := digitP (n := m) h1 (m := 6) (by decide) (by decide)
  have tt := fun st => dIsT_tuple (st := st) hs
  have ob := oo.bk
  have sr : Sh (2 * L + 1) (k + 1) o ∧ bk o ≤ bk d + 10 := ⟨so.mono (Nat.le_refl _) (by omega), by omega⟩
  by_cases ht : ∃ l, d = .tup l
  · obtain ⟨l, rfl⟩ := ht
    obtain ⟨hl, hx⟩ := hd l rfl
    have fin : ∀ s3, PI i s0 s3 → ∃ c st', spRest m [some (.cell i), some (.tup l), some (.lst oddL), some o, some (.int w), none] s3 = .ok (.ret c) st' ∧ (Sh (2 * L + 1) (k + 1) c ∧ bk c ≤ bk (.tup l) + 10) ∧ PI i s0 st' := fun s3 h3 =>
      sp_rest hL2 hl hx (so.mono (Nat.le_refl _) hk) oo.bk (IH l rfl) h3
    by_cases c3 : w = 5
    · obtain ⟨z, s3, e3, p3, q3, h3⟩ := digitP (n := m) h2 (m := 3) (by decide) (by decide)
      by_cases cz : z = 0
      · subst cz
        refine ⟨o, s3, runF_ret ?_, sr, h3⟩
        simp [g_l_spoilt, p29, add_lst, e1, ix, e2, tt, qTup, c3, e3]
      · obtain ⟨c, s4, e4, sc, h4⟩ := fin s3 h3
        refine ⟨c, s4, runF_ret ?_, sc, h4⟩
        subst c3
        unfold oddL at e4
        simp [g_sp, p29, add_lst, e1, ix, e2, tt, qTup, e3, cz, e4]
    · obtain ⟨c, s4, e4, sc, h4⟩ := fin s2 h2
      refine ⟨c, s4, runF_ret ?_, sc, h4⟩
      unfold oddL at e4
      simp [g_sp, p29, add_lst, e1, ix, e2, tt, qTup, c3, e4]
  · have z : qTup d = false := notTup hs fun l e => ht ⟨l, e⟩
    refine ⟨o, s2, runF_ret ?_, sr, h2⟩
    simp [g_l_spoilt, p29, add_lst, e1, ix, e2, tt, z]
theorem spoilt {n L : Nat} (hL2 : L ≤ 1000) (hL : 2 ≤ L) : ∀ (k : Nat) (d : D) (st : Store), Sh L k d → PI i s0 st → ∃ c st', fns (n + k + 2) .l_spoilt [.cell i, d] st = .ok c st' ∧ (Sh (2 * L + 1) (k + 3) c ∧ bk c ≤ bk d + 10) ∧ PI i s0 st' := by
  intro k
  induction k with
  | zero => exact fun d st hd h => spl_of (m := n) (k := 2) hL2 hL (by omega) (hd.mono (Nat.le_refl _) (by omega)) (fun l e => by subst e; simp [Sh] at hd) (fun l e => by subst e; simp [Sh] at hd) h
  | succ k ih =>
    intro d st hd h
    refine spl_of (m := n + k + 1) (k := k + 3) hL2 hL (by omega) (hd.mono (Nat.le_refl _) (by omega)) (fun l e => ?_) (fun l e x hx st h => ?_) h
    · subst e
      simp only [Sh] at hd
      exact ⟨hd.1, fun x hx => (hd.2 x hx).mono (by omega) (by omega)⟩
    · subst e
      simp only [Sh] at hd
      exact ih x st (hd.2 x hx) h
end
end K82
end

section
set_option Elab.async false
set_option linter.all false
set_option maxRecDepth 100000
set_option maxHeartbeats 2000000
namespace K82
open PySem L2 G
/-! ## things that are judged -/
theorem eqS (s : Str) (st : Store) : dEqS (.str s) (.str s) st = some (.bl true) := by simp [dEqS]
def Jd (d : D) : Prop := Tells 58 .l_judged [d] true
theorem bb (b : Bool) (st : Store) : dEq (.bl b) (.bl b) st = some (.bl true) := by cases b <;> rfl
theorem judged_of {d : D} {s : Str} {b : Bool} (hs : ∀ st, dReprA [d] st = some (.str s)) (h : Same 57 d b) : Jd d := fun st => by
  obtain ⟨e, he⟩ := h.2 57 (Nat.le_refl _) st
  have e1 := h.1 st 57 (Nat.le_refl _)
  have t : ∀ st, dIsT "bool" (.bl b) st = some (.bl true) := fun st => by cases b <;> rfl
  exact ⟨e, runF_ret (by simp [g_l_judged, hs, e1, t, he, bb, eqS])⟩
theorem Same.up {N N' : Nat} {d : D} {b : Bool} (h : Same N d b) (hn : N ≤ N') : Same N' d b := ⟨fun st n hk => h.1 st n (by omega), fun n hk => h.2 n (by omega)⟩
theorem judged {L k : Nat} {d : D} (h : Sh L k d) (hk : k ≤ 23) (hb : bk d ≤ 120000) : Jd d := by
  obtain ⟨s, hs⟩ := repr_txt h (by omega) hb
  obtain ⟨b, sb⟩ := plan_reads k d (by omega) h
  exact judged_of hs (sb.up (by omega))
theorem judged_dct : Jd .dct0 := by
  have t : ∀ st, dIsT "tuple" .dct0 st = some (.bl false) := fun st => rfl
  refine judged_of (s := PyData.shown (.dict [])) (b := false) (fun st => rfl) ⟨fun st n hn => ?_, fun n hn => Tells.of fun st => ?_⟩
  · obtain ⟨m, rfl⟩ : ∃ m, n = m + 1 := ⟨n - 1, by omega⟩
    exact runF_ret (by simp [g_is_plan, t])
  · obtain ⟨m, rfl⟩ : ∃ m, n = m + 1 := ⟨n - 1, by omega⟩
    exact runF_ret (by simp [g_l_reads_plan, t])
/-! ## borders -/
structure Cp (x : D) : Prop where
  sh : Sh 7 3 x
  bk : bk x ≤ 20
structure Bo (x : D) : Prop where
  sh : Sh 7 4 x
  bk : bk x ≤ 100
theorem cp_i (x : Int) (h : x.natAbs ≤ 1000) : Cp (.int x) := ⟨sh_i (by omega), by simp⟩
theorem cp_s (x : Str) (h : (PyData.strOk x = true ∧ x.length ≤ 100) ∧ x.cps.size ≤ 20 := by decide +kernel) : Cp (.str x) := ⟨sh_s _ h.1, by rw [bk_str]; exact h.2⟩
theorem cp_0 : Cp (.tup []) := ⟨by simp [Sh], by simp⟩
theorem bo_t {l : List D} (hl : l.length ≤ 4) (h : ∀ x ∈ l, Cp x) : Bo (.tup l) := by
  refine ⟨sh_t (by omega) fun x hx => (h x hx).sh, ?_⟩
  have := bkL_le (B := 20) l fun x hx => (h x hx).bk
  rw [bk_tup]; omega
theorem bo2 {a b : D} (ha : Cp a) (hb : Cp b) : Bo (.tup [a, b]) := bo_t (by simp) (by simpa using ⟨ha, hb⟩)
theorem bo3 {a b c : D} (ha : Cp a) (hb : Cp b) (hc : Cp c) : Bo (.tup [a, b, c]) := bo_t (by simp) (by simpa using ⟨ha, hb, hc⟩)
theorem bo4 {a b c d : D} (ha : Cp a) (hb : Cp b) (hc : Cp c) (hd : Cp d) : Bo (.tup [a, b, c, d]) := bo_t (by simp) (by simpa using ⟨ha, hb, hc, hd⟩)
def oneD : D := .tup [.str "list", .tup [.int 1]]
theorem sh_one : Sh 7 2 oneD := sh_t2 (by decide) (sh_s _) (sh_t1 (by decide) (sh_i (by decide)))
theorem bk_one : bk oneD = 7 := by simp [oneD, ssz "list" 4]
theorem cp_one : Cp oneD := ⟨sh_one.mono (Nat.le_refl _) (by decide), by rw [bk_one]; decide⟩
theorem bo_j {w : Str} (hw : w = "chain" ∨ w = "beside") {l : List D} (hl : l.length ≤ 7) (h : ∀ x ∈ l, x = oneD) : Bo (.tup [.str w, .tup l]) := by
  have cw : Cp (.str w) := by rcases hw with rfl | rfl <;> exact cp_s _
  have b := bkL_le (B := 7) l fun x hx => by rw [h x hx, bk_one]; exact Nat.le_refl _
  have := cw.bk
  refine ⟨sh_t2 (by decide) cw.sh (sh_t hl fun x hx => by rw [h x hx]; exact sh_one), ?_⟩
  simp only [bk_tup, bk_cons, bk_nil]
  omega
theorem mul_at (m : Nat) (hm : m ≤ 7) : ∃ l : List D, (∀ st, dMulT (.tup [oneD]) (.int (m : Nat)) st = some (.tup l)) ∧ l.length ≤ 7 ∧ ∀ x ∈ l, x = oneD := by
  refine ⟨(List.replicate m [oneD]).flatten, fun st => ?_, ?_, fun x hx => ?_⟩
  · simp only [dMulT]
    rw [if_pos ⟨by simp, by omega, by omega, by simp⟩]
    rfl
  · simp; omega
  · obtain ⟨l, hl, hx⟩ := List.mem_flatten.mp hx
    rw [(List.mem_replicate.mp hl).2] at hx
    exact List.mem_singleton.mp hx
def bF1 : Ev → M Fl := (sAsg 1 (eOp dAdd (eVar 1) (eLst [(eTup [(eC (.str "chain")), (eOp dMulT (eTup [(eVar 0)]) (eVar 2))]), (eTup [(eC (.str "beside")), (eOp dMulT (eTup [(eVar 0)]) (eVar 2))])])))
def bF2 : Ev → M Fl := (sAsg 1 (eOp dAdd (eVar 1) (eLst [(eTup [(eC (.str "cut")), (eVar 3), (eVar 0)]), (eTup [(eC (.str "left")), (eVar 3), (eVar 0)]), (eTup [(eC (.str "wanted")), (eVar 3), (eC (.str "abcdefgh")), (eVar 0)]), (eTup [(eC (.str "count")), (eVar 3), (eVar 3), (eVar 3)])])))
def bF3 : Ev → M Fl := (sAsg 1 (eOp dAdd (eVar 1) (eLst [(eTup [(eC (.str "windows")), (eVar 3), (eC (.int 20)), (eVar 0)]), (eTup [(eC (.str "windows")), (eC (.int 20)), (eVar 3), (eVar 0)]), (eTup [(eC (.str "marks")), (eVar 3), (eVar 0)])])))
theorem g_bo (F : Fn → List D → M D) : g_l_borders F = (sSeq (sAsg 1 (eLst [])) (sSeq (sFor (iSeq (eTup [(eC (.int 0)), (eC (.int 1)), (eC (.int 6)), (eC (.int 7))])) (tgName 2) bF1) (sSeq (sFor (iSeq (eTup [(eC (.int 0)), (eC (.int 1)), (eC (.int 200)), (eC (.int 201)), (eUn dNeg (eC (.int 1)))])) (tgName 3) bF2) (sSeq (sFor (iSeq (eTup [(eC (.int 0)), (eC (.int 1)), (eC (.int 20)), (eC (.int 21))])) (tgName 3) bF3) (sSeq (sAsg 1 (eOp dAdd (eVar 1) (eLst [(eTup [(eC (.str "row")), (eC (.int 59))]), (eTup [(eC (.str "row")), (eC (.int 60))]), (eTup [(eC (.str "row")), (eC (.int 0))]), (eTup [(eC (.str "row")), (eUn dNeg (eC (.int 1)))]), (eTup [(eC (.str "wanted")), (eC (.int 1)), (eC (.str "abcdefghi")), (eVar 0)])]))) (sRet (eOp dAdd (eVar 1) (eLst [(eTup [(eC (.str "wanted")), (eC (.int 1)), (eC (.str "")), (eVar 0)]), (eTup [(eC (.str "broken")), (eTup []), (eC (.str "z"))]), (eTup [(eC (.str "broken")), (eTup []), (eC (.str "Z"))]), (eTup [(eC (.str "list")), (eTup [])])])))))))) := rfl
structure BI (N : Nat) (xs : List D) : Prop where
  len : xs.length ≤ N
  all : ∀ x ∈ xs, Bo x
theorem BI.add {N K : Nat} {xs ys : List D} (h : BI N xs) (hl : N + ys.length ≤ K) (hy : ∀ y ∈ ys, Bo y) : BI K (xs ++ ys) := ⟨by rw [List.length_append]; have := h.len; omega, fun x hx => (List.mem_append.mp hx).elim (h.all x) (hy x)⟩
theorem borders {n : Nat} {st : Store} : ∃ xs, fns (n + 1) .l_borders [oneD] st = .ok (.lst xs) st ∧ ∀ x ∈ xs, Bo x := by
  have one := cp_one
  obtain ⟨env1, st1, ⟨rfl, x1, o2, rfl, b1⟩, l1⟩ := forGo_inv (i := 2) (g := bF1) [.int 0, .int 1, .int 6, .int 7] (fun k env st' => st' = st ∧ ∃ xs o2, env = [some oneD, some (.lst xs), o2, none] ∧ BI (2 * k) xs) [some oneD, some (.lst []), none, none] st ⟨rfl, [], none, rfl, by simp, by simp⟩ (fun k d hd env st' ⟨e0, xs, o2, e1, b⟩ => by
    subst e0; subst e1
    obtain ⟨m, rfl, hm⟩ : ∃ m : Nat, d = .int (m : Nat) ∧ m ≤ 7 := by
      have := List.mem_of_getElem? hd
      simp only [List.mem_cons, List.not_mem_nil, or_false] at this
      rcases this with rfl | rfl | rfl | rfl
      · exact ⟨0, rfl, by decide⟩
      · exact ⟨1, rfl, by decide⟩
      · exact ⟨6, rfl, by decide⟩
      · exact ⟨7, rfl, by decide⟩
    have hk : k < 4 := (List.getElem?_eq_some_iff.mp hd).1
    obtain ⟨l, el, ll, al⟩ := mul_at m hm
    have ad := fun st => add_lst (st := st) (a := xs) (b := [.tup [.str "chain", .tup l], .tup [.str "beside", .tup l]]) (by have := b.len; simp; omega)
    refine ⟨[some oneD, some (.lst (xs ++ [.tup [.str "chain", .tup l], .tup [.str "beside", .tup l]])), some (.int (m : Nat)), none], st', ⟨rfl, _, _, rfl, BI.add b (by simp <;> omega) ?_⟩, ?_⟩
    · simpa using ⟨bo_j (.inl rfl) ll al, bo_j (.inr rfl) ll al⟩
    · simp [bF1, el, ad])
  have b1 : BI 8 x1 := b1
  obtain ⟨env2, st2, ⟨rfl, x2, o3, rfl, b2⟩, l2⟩ := forGo_inv (i := 3) (g := bF2) [.int 0, .int 1, .int 200, .int 201, .int (-1)] (fun k env st' => st' = st1 ∧ ∃ xs o3, env = [some oneD, some (.lst xs), o2, o3] ∧ BI (8 + 4 * k) xs) [some oneD, some (.lst x1), o2, none] st1 ⟨rfl, x1, none, rfl, b1⟩ (fun k d hd env st' ⟨e0, xs, o3, e1, b⟩ => by
    subst e0; subst e1
    obtain ⟨m, rfl, hm⟩ : ∃ m : Int, d = .int m ∧ m.natAbs ≤ 1000 := by
      have := List.mem_of_getElem? hd
      simp only [List.mem_cons, List.not_mem_nil, or_false] at this
      rcases this with rfl | rfl | rfl | rfl | rfl <;> exact ⟨_, rfl, by decide⟩
    have hk : k < 5 := (List.getElem?_eq_some_iff.mp hd).1
    have cm := cp_i m hm
    have ad := fun st => add_lst (st := st) (a := xs) (b := [.tup [.str "cut", .int m, oneD], .tup [.str "left", .int m, oneD], .tup [.str "wanted", .int m, .str "abcdefgh", oneD], .tup [.str "count", .int m, .int m, .int m]]) (by have := b.len; simp; omega)
    refine ⟨[some oneD, some (.lst (xs ++ [.tup [.str "cut", .int m, oneD], .tup [.str "left", .int m, oneD], .tup [.str "wanted", .int m, .str "abcdefgh", oneD], .tup [.str "count", .int m, .int m, .int m]])), o2, some (.int m)], st', ⟨rfl, _, _, rfl, BI.add b (by simp <;> omega) ?_⟩, ?_⟩
    · simpa using ⟨bo3 (cp_s _) cm one, bo3 (cp_s _) cm one, bo4 (cp_s _) cm (cp_s _) one, bo4 (cp_s _) cm cm cm⟩
    · simp [bF2, ad])
  have b2 : BI 28 x2 := b2
  obtain ⟨env3, st3, ⟨rfl, x3, o3', rfl, b3⟩, l3⟩ := forGo_inv (i := 3) (g := bF3) [.int 0, .int 1, .int 20, .int 21] (fun k env st' => st' = st2 ∧ ∃ xs o3, env = [some oneD, some (.lst xs), o2, o3] ∧ BI (28 + 3 * k) xs) [some oneD, some (.lst x2), o2, o3] st2 ⟨rfl, x2, o3, rfl, b2⟩ (fun k d hd env st' ⟨e0, xs, o3, e1, b⟩ => by
    subst e0; subst e1
    obtain ⟨m, rfl, hm⟩ : ∃ m : Int, d = .int m ∧ m.natAbs ≤ 1000 := by
      have := List.mem_of_getElem? hd
      simp only [List.mem_cons, List.not_mem_nil, or_false] at this
      rcases this with rfl | rfl | rfl | rfl <;> exact ⟨_, rfl, by decide⟩
    have hk : k < 4 := (List.getElem?_eq_some_iff.mp hd).1
    have cm := cp_i m hm
    have ad := fun st => add_lst (st := st) (a := xs) (b := [.tup [.str "windows", .int m, .int 20, oneD], .tup [.str "windows", .int 20, .int m, oneD], .tup [.str "marks", .int m, oneD]]) (by have := b.len; simp; omega)
    refine ⟨[some oneD, some (.lst (xs ++ [.tup [.str "windows", .int m, .int 20, oneD], .tup [.str "windows", .int 20, .int m, oneD], .tup [.str "marks", .int m, oneD]])), o2, some (.int m)], st', ⟨rfl, _, _, rfl, BI.add b (by simp <;> omega) ?_⟩, ?_⟩
    · simpa using ⟨bo4 (cp_s _) cm (cp_i 20 (by decide)) one, bo4 (cp_s _) (cp_i 20 (by decide)) cm one, bo3 (cp_s _) cm one⟩
    · simp [bF3, ad])
  have b3 : BI 40 x3 := b3
  have b4 : BI 45 (x3 ++ [.tup [.str "row", .int 59], .tup [.str "row", .int 60], .tup [.str "row", .int 0], .tup [.str "row", .int (-1)], .tup [.str "wanted", .int 1, .str "abcdefghi", oneD]]) := BI.add b3 (by simp) (by
    simpa using ⟨bo2 (cp_s _) (cp_i 59 (by decide)), bo2 (cp_s _) (cp_i 60 (by decide)), bo2 (cp_s _) (cp_i 0 (by decide)), bo2 (cp_s _) (cp_i (-1) (by decide)), bo4 (cp_s _) (cp_i 1 (by decide)) (cp_s _) one⟩)
  have ad3 := fun st => add_lst (st := st) (a := x3) (b := [.tup [.str "row", .int 59], .tup [.str "row", .int 60], .tup [.str "row", .int 0], .tup [.str "row", .int (-1)], .tup [.str "wanted", .int 1, .str "abcdefghi", oneD]]) (by have := b3.len; simp; omega)
  generalize x3 ++ [.tup [.str "row", .int 59], .tup [.str "row", .int 60], .tup [.str "row", .int 0], .tup [.str "row", .int (-1)], .tup [.str "wanted", .int 1, .str "abcdefghi", oneD]] = x4 at b4 ad3
  have b5 : BI 49 (x4 ++ [.tup [.str "wanted", .int 1, .str "", oneD], .tup [.str "broken", .tup [], .str "z"], .tup [.str "broken", .tup [], .str "Z"], .tup [.str "list", .tup []]]) := BI.add b4 (by simp) (by
    simpa using ⟨bo4 (cp_s _) (cp_i 1 (by decide)) (cp_s _) one, bo3 (cp_s _) cp_0 (cp_s _), bo3 (cp_s _) cp_0 (cp_s _), bo2 (cp_s _) cp_0⟩)
  have ad4 := fun st => add_lst (st := st) (a := x4) (b := [.tup [.str "wanted", .int 1, .str "", oneD], .tup [.str "broken", .tup [], .str "z"], .tup [.str "broken", .tup [], .str "Z"], .tup [.str "list", .tup []]]) (by have := b4.len; simp; omega)
  exact ⟨_, runF_ret (by simp [g_bo, l1, l2, l3, ad3, ad4]), b5.all⟩
/-! ## the law -/
theorem all_true : ∀ ys : List D, (∀ y ∈ ys, y = .bl true) → ∃ bs, bools? ys = some bs ∧ bs.all id = true
  | [], _ => ⟨[], rfl, rfl⟩
  | y :: ys, h => by
    obtain ⟨bs, e, a⟩ := all_true ys fun z hz => h z (by simp [hz])
    have := h y (by simp)
    subst this
    exact ⟨true :: bs, by simp [bools?, e], by simpa using a⟩
theorem dAll_true {ys : List D} (h : ∀ y ∈ ys, y = .bl true) (st : Store) : dAll [.lst ys] st = some (.bl true) := by
  obtain ⟨bs, e, a⟩ := all_true ys h
  simp only [dAll, e, Option.map_some, a]
theorem jd_all {i : Nat} {s0 : Store} {a b c : Option D} {fi : Ev → M (List D)} {xs : List D} {st st1 : Store} (hi : fi [a, b, c, none] st = .ok xs st1) (hx : ∀ x ∈ xs, Jd x) (h : PI i s0 st1) : ∃ ys st', eComp [3] fi (tgName 3) (fun _ => pure true) (eCall (fns 58 .l_judged) [(eVar 3)]) [a, b, c, none] st = .ok (.lst ys) st' ∧ (∀ st, dAll [.lst ys] st = some (.bl true)) ∧ PI i s0 st' := by
  obtain ⟨ys, s3, e3, h3, l3, a3⟩ := compGo_inv (i := 3) (env := [a, b, c, none]) (fe := eCall (fns 58 .l_judged) [(eVar 3)]) (PI i s0) (fun y => y = .bl true) xs [] st1 (fun d hd st h => by
    obtain ⟨e, he⟩ := hx d hd st
    exact ⟨.bl true, st ++ e, by simp [he], h.app e, rfl⟩) h
  exact ⟨ys, s3, eComp_of (vs := [3]) hi e3, dAll_true a3, h3⟩
def rB : Ev → M Fl := (sIf (tNot' (tVal (eCall (fns 58 .l_judged) [(eCall (fns 58 .l_spoilt) [(eVar 0), (eVar 1)])]))) (sRet (eC (.bl false))) sNop)
def rI : Ev → M (List D) := (iSeq (eLst [(eB dList [(eVar 1)]), (eLst [(eVar 1)]), (eOp dIdx (eVar 1) (eC (.int 0))), (eC .non), (eC (.int 7)), eDct0, (eTup []), (eTup [(eC (.str "list"))]), (eVar 1)]))
def rJ : Ev → M (List D) := (iSeq (eCall (fns 58 .l_borders) [(eTup [(eC (.str "list")), (eTup [(eC (.int 1))])])]))
theorem g_right : g_l_right (fns 58) = (sSeq (sAsg 1 (eCall (fns 58 .l_planned) [(eVar 0)])) (sSeq (sIf (tOr' (tNot' (tVal (eCall (fns 58 .l_judged) [(eVar 1)]))) (tNot' (tVal (eCall (fns 58 .l_reads_plan) [(eVar 1)])))) (sRet (eC (.bl false))) sNop) (sSeq (sFor (iRange (eC (.int 12))) (tgName 2) rB) (sSeq (sIf (tNot' (tVal (eB dAll [(eComp [3] rJ (tgName 3) (fun _ => pure true) (eCall (fns 58 .l_judged) [(eVar 3)]))]))) (sRet (eC (.bl false))) sNop) (sRet (eB dAll [(eComp [3] rI (tgName 3) (fun _ => pure true) (eCall (fns 58 .l_judged) [(eVar 3)]))])))))) := rfl
theorem right {i : Nat} {st : Store} (hi : i < st.length) (h : Pot i st) : ∃ st', fns 59 .l_right [.cell i] st = .ok (.bl true) st' ∧ ∀ k, k ≠ i → k < st.length → st'[k]? = st[k]? := by
  obtain ⟨g, s1, e1, mg, p1, k1⟩ := planned (n := 40) hi h
  simp only [Nat.reduceAdd] at e1
  have h1 : PI i st s1 := ⟨p1, k1⟩
  have gb : bk g ≤ 91900 := mg.bk
  have shg : Sh 6 17 g := mg.sh
  have jg : Jd g := judged shg (by decide) (by omega)
  obtain ⟨b, sb⟩ := plan_reads 17 g (by decide) shg
  have bt : b = true := by
    have a1 := sb.1 [] 57 (by decide)
    have a2 := mg.is [] 57 (by decide)
    rw [a1] at a2
    injection a2 with a3
    injection a3
  subst bt
  obtain ⟨x1, j1⟩ := jg s1
  have h2 := h1.app x1
  obtain ⟨x2, j2⟩ := sb.2 58 (by decide) (s1 ++ x1)
  have h3 := h2.app x2
  have rg : ∀ env st, iRange (eC (.int 12)) env st = .ok (rangeD 12) st := fun _ _ => rfl
  obtain ⟨env1, s4, ⟨h4, o2, rfl⟩, l1⟩ := forGo_inv (i := 2) (g := rB) (rangeD 12) (fun k env st' => PI i st st' ∧ ∃ o2, env = [some (.cell i), some g, o2, none]) [some (.cell i), some g, none, none] _ ⟨h3, none, rfl⟩ (fun k d hd env st' ⟨hh, o2, e⟩ => by
    subst e
    obtain ⟨c, s5, e5, ⟨c1, c2⟩, h5⟩ := spoilt (n := 39) (L := 6) (by decide) (by decide) 17 g st' shg hh
    simp only [Nat.reduceAdd, Nat.reduceMul] at e5 c1
    obtain ⟨x, jx⟩ := judged c1 (by decide) (by omega) s5
    exact ⟨[some (.cell i), some g, some d, none], s5 ++ x, ⟨h5.app x, _, rfl⟩, by simp [rB, e5, jx]⟩)
  obtain ⟨bs, eb, ab⟩ := borders (n := 57) (st := s4)
  have r1 : rJ [some (.cell i), some g, o2, none] s4 = .ok bs s4 := by
    unfold oneD at eb
    simp only [Nat.reduceAdd] at eb
    simp [rJ, eb]
  obtain ⟨ys, s5, c5, d5, h5⟩ := jd_all r1 (fun x hx => judged (ab x hx).sh (by decide) (by have := (ab x hx).bk; omega)) h4
  obtain ⟨w, l, rfl⟩ := mg.tup
  have dl : ∀ st, dList [.tup (.str w :: l)] st = some (.lst (.str w :: l)) := fun st => rfl
  have r2 : rI [some (.cell i), some (.tup (.str w :: l)), o2, none] s5 = .ok [.lst (.str w :: l), .lst [.tup (.str w :: l)], .str w, .non, .int 7, .dct0, .tup [], .tup [.str "list"], .tup (.str w :: l)] s5 := by
    simp [rI, dl]
  have shl : Sh 6 17 (.lst (.str w :: l)) := by
    have := shg
    simp only [Sh] at this ⊢
    exact this
  have bl : bk (.lst (.str w :: l)) ≤ 91900 := by rw [bk_lst]; rw [bk_tup] at gb; exact gb
  have shw : Sh 6 16 (.str w) := by
    have := shg
    simp only [Sh] at this
    have := this.2 (.str w) (by simp)
    exact this
  have bw : bk (.str w) ≤ 100 := by
    simp only [Sh] at shw
    rw [bk_str]
    exact shw.2
  obtain ⟨zs, s6, c6, d6, h6⟩ := jd_all r2 (fun x hx => by
    simp only [List.mem_cons, List.not_mem_nil, or_false] at hx
    rcases hx with rfl | rfl | rfl | rfl | rfl | rfl | rfl | rfl | rfl
    · exact judged shl (by decide) (by omega)
    · exact judged (L := 6) (k := 18) (by simp only [Sh]; exact ⟨by simp, fun x hx => by rw [List.mem_singleton.mp hx]; simp only [Sh] at shg ⊢; exact shg⟩) (by decide) (by rw [bk_lst]; simp only [bkL]; omega)
    · exact judged shw (by decide) (by omega)
    · exact judged (L := 0) (k := 0) (by simp [Sh]) (by decide) (by simp [bk])
    · exact judged (L := 0) (k := 0) (sh_i (by decide)) (by decide) (by simp [bk])
    · exact judged_dct
    · exact judged (L := 0) (k := 1) (by simp [Sh]) (by decide) (by simp [bk])
    · exact judged (L := 6) (k := 1) (sh_t1 (by decide) (sh_s _)) (by decide) (by simp [ssz "list" 4])
    · exact jg) h5
  refine ⟨s6, runF_ret ?_, h6.rest⟩
  simp only [List.append_assoc] at l1 j2
  simp [g_right, e1, j1, j2, rg, l1, c5, d5, c6, d6]
theorem pot {ns : List Int} {k : Nat} {st : Store} (h : st[0]? = some (.ro (ns.map D.int))) (hk : k ≤ 2) : ∃ c, fns 59 .l_pot [.cell 0, .int (k : Nat)] st = .ok (.cell st.length) (st ++ [c]) ∧ PotC c := by
  have cl : cellL st 0 = some (ns.map D.int) := by unfold cellL; rw [h]
  have ln : dLen [.cell 0] st = some (.int ns.length) := by simp [dLen, cl]
  obtain ⟨z, hz⟩ : ∃ z : Int, eIf (tVal (eOp dLt (eVar 1) (eB dLen [(eVar 0)]))) (eOp dIdx (eVar 0) (eVar 1)) (eC (.int 0)) [some (.cell 0), some (.int (k : Nat)), none] st = .ok (.int z) st := by
    by_cases hl : k < ns.length
    · refine ⟨ns[k], ?_⟩
      have ix : dIdx (.cell 0) (.int (k : Nat)) st = some (.int ns[k]) := dIdx_cn cl (by simp [hl])
      simp [ln, hl, ix]
    · exact ⟨0, by simp [ln, hl]⟩
  have m1 : ∀ st, dMod (.int z) (.int 2147483629) st = some (.int (z % 2147483629)) := fun st => dMod_of (by decide)
  have m2 : ∀ st, dMul (.int 977) (.int (k : Nat)) st = some (.int (977 * (k : Nat))) := fun st => dMul_of (mulOk_of (a := 10) (b := 2) (by decide) (by omega) (by decide) (by decide))
  have b1 := Int.emod_nonneg z (by decide : (2147483629 : Int) ≠ 0)
  have b2 := Int.emod_lt_of_pos z (by decide : (0 : Int) < 2147483629)
  by_cases hc : 1000000000000000000 ≤ z
  · refine ⟨.lst [.int (z - 1000000000000000000), .int (z % 2147483629 + 977 * (k : Nat) + 1)], runF_ret ?_, _, _, rfl, by omega, by omega⟩
    simp only [g_l_pot, sSeq_app, sAsg_app, List.map_cons, List.map_nil, List.length_cons, List.length_nil, Nat.reduceAdd, Nat.reduceSub, List.replicate, List.cons_append, List.nil_append]
    rw [hz]
    simp [p18, hc, m1, m2]
  · refine ⟨.lst [.int 0, .int (z % 2147483629 + 977 * (k : Nat) + 1)], runF_ret ?_, _, _, rfl, by omega, by omega⟩
    simp only [g_l_pot, sSeq_app, sAsg_app, List.map_cons, List.map_nil, List.length_cons, List.length_nil, Nat.reduceAdd, Nat.reduceSub, List.replicate, List.cons_append, List.nil_append]
    rw [hz]
    simp [p18, hc, m1, m2]
theorem tells_true : ∀ ns : List Int, ns.length ≤ 63 → (∀ z ∈ ns, Builtin.Int.intBits z ≤ 1048576) → ∃ st', fns 60 .law [.cell 0] [.ro (ns.map D.int)] = .ok (.bl true) st' := by
  intro ns _ _
  have ln : dLen [.cell 0] [.ro (ns.map D.int)] = some (.int ns.length) := by simp [dLen, cellL]
  obtain ⟨m, hm, em⟩ : ∃ m : Nat, m ≤ 3 ∧ eB dMax2 [(eC (.int 1)), (eB dMin2 [(eC (.int 3)), (eB dLen [(eVar 0)])])] [some (.cell 0), none] [.ro (ns.map D.int)] = .ok (.int (m : Nat)) [.ro (ns.map D.int)] := by
    refine ⟨max 1 (min 3 ns.length), by omega, ?_⟩
    simp [ln, dMin2, dMax2]
    split <;> split <;> omega
  have rg := iRange_at em (by omega) (by omega)
  have tn : ((m : Nat) : Int).toNat = m := by omega
  rw [tn] at rg
  obtain ⟨env, st', ⟨_, o, rfl⟩, e⟩ := forGo_inv (i := 1) (g := (sIf (tNot' (tVal (eCall (fns 59 .l_right) [(eCall (fns 59 .l_pot) [(eVar 0), (eVar 1)])]))) (sRet (eC (.bl false))) sNop)) (rangeD m) (fun k env st => st[0]? = some (.ro (ns.map D.int)) ∧ ∃ o, env = [some (.cell 0), o]) [some (.cell 0), none] [.ro (ns.map D.int)] ⟨rfl, none, rfl⟩ (fun k d hk env st ⟨h0, o, he⟩ => by
    subst he
    obtain ⟨hlt, rfl⟩ := rangeD_at hk
    obtain ⟨c, e1, pc⟩ := pot (k := k) h0 (by omega)
    have hl : 0 < st.length := (List.getElem?_eq_some_iff.mp h0).1
    obtain ⟨st', e2, hh⟩ := right (i := st.length) (st := st ++ [c]) (by simp) ⟨c, by rw [List.getElem?_append_right (Nat.le_refl _)]; simp, pc⟩
    refine ⟨[some (.cell 0), some (.int (k : Nat))], st', ⟨?_, _, rfl⟩, ?_⟩
    · rw [hh 0 (by omega) (by simp), List.getElem?_append_left hl]; exact h0
    · simp [e1, e2])
  exact ⟨st', runF_ret (by simp [g_law, rg, e])⟩
end K82
end

section
set_option Elab.async false
set_option linter.all false
set_option maxRecDepth 100000
set_option maxHeartbeats 4000000
namespace K82
open PySem PySem.Spec PyProof.Rows L2 G
def top (i : Nat) : Stmt := PySem.Challenge.pw_giftstreams_k82_what_is_a_plan.main.body.getD i (.Pass ⟨0, 0, 0, 0⟩)
abbrev nm : Fn → Str
  | .is_whole => "is_whole"
  | .is_rule => "is_rule"
  | .is_change => "is_change"
  | .is_test => "is_test"
  | .is_look => "is_look"
  | .is_between => "is_between"
  | .is_word => "is_word"
  | .are_numbers => "are_numbers"
  | .is_leaf => "is_leaf"
  | .is_joined => "is_joined"
  | .has_numbers => "has_numbers"
  | .is_plan => "is_plan"
  | .l_pot => "_law_pot"
  | .l_digit => "_law_digit"
  | .l_whole => "_law_whole"
  | .l_change => "_law_change"
  | .l_rule => "_law_rule"
  | .l_look => "_law_look"
  | .l_test => "_law_test"
  | .l_leaf => "_law_leaf"
  | .l_upon => "_law_upon"
  | .l_grove => "_law_grove"
  | .l_planned => "_law_planned"
  | .l_whole_one => "_law_whole_one"
  | .l_reads_rule => "_law_reads_rule"
  | .l_reads_look => "_law_reads_look"
  | .l_reads_test => "_law_reads_test"
  | .l_reads_part => "_law_reads_part"
  | .l_sorts => "_law_sorts"
  | .l_reads_plan => "_law_reads_plan"
  | .l_spoilt => "_law_spoilt"
  | .l_judged => "_law_judged"
  | .l_borders => "_law_borders"
  | .l_right => "_law_right"
  | .law => "law"
abbrev st : Fn → Stmt
  | .is_whole => top 1
  | .is_rule => top 3
  | .is_change => top 4
  | .is_test => top 5
  | .is_look => top 6
  | .is_between => top 14
  | .is_word => top 15
  | .are_numbers => top 16
  | .is_leaf => top 17
  | .is_joined => top 18
  | .has_numbers => top 19
  | .is_plan => top 20
  | .l_pot => top 22
  | .l_digit => top 23
  | .l_whole => top 24
  | .l_change => top 25
  | .l_rule => top 26
  | .l_look => top 27
  | .l_test => top 28
  | .l_leaf => top 29
  | .l_upon => top 30
  | .l_grove => top 31
  | .l_planned => top 32
  | .l_whole_one => top 33
  | .l_reads_rule => top 34
  | .l_reads_look => top 35
  | .l_reads_test => top 36
  | .l_reads_part => top 37
  | .l_sorts => top 38
  | .l_reads_plan => top 39
  | .l_spoilt => top 40
  | .l_judged => top 41
  | .l_borders => top 42
  | .l_right => top 43
  | .law => top 44
abbrev ps : Fn → List Str
  | .is_whole => ["thing"]
  | .is_rule => ["thing"]
  | .is_change => ["thing"]
  | .is_test => ["thing"]
  | .is_look => ["thing"]
  | .is_between => ["thing", "least", "most"]
  | .is_word => ["thing"]
  | .are_numbers => ["thing"]
  | .is_leaf => ["thing"]
  | .is_joined => ["thing"]
  | .has_numbers => ["thing"]
  | .is_plan => ["thing"]
  | .l_pot => ["_law_script", "_law_k"]
  | .l_digit => ["_law_pot_here", "_law_many"]
  | .l_whole => ["_law_pot_here", "_law_room"]
  | .l_change => ["_law_pot_here", "_law_room"]
  | .l_rule => ["_law_pot_here", "_law_room"]
  | .l_look => ["_law_pot_here", "_law_room", "_law_deep"]
  | .l_test => ["_law_pot_here", "_law_room", "_law_deep"]
  | .l_leaf => ["_law_pot_here", "_law_room"]
  | .l_upon => ["_law_pot_here", "_law_room", "_law_word", "_law_inner"]
  | .l_grove => ["_law_pot_here", "_law_room", "_law_deep"]
  | .l_planned => ["_law_pot_here"]
  | .l_whole_one => ["_law_thing"]
  | .l_reads_rule => ["_law_thing"]
  | .l_reads_look => ["_law_one"]
  | .l_reads_test => ["_law_thing"]
  | .l_reads_part => ["_law_sort", "_law_thing"]
  | .l_sorts => ["_law_word"]
  | .l_reads_plan => ["_law_thing"]
  | .l_spoilt => ["_law_pot_here", "_law_thing"]
  | .l_judged => ["_law_thing"]
  | .l_borders => ["_law_one"]
  | .l_right => ["_law_pot_here"]
  | .law => ["_law_script"]
def free : List Str := ["all", "bool", "divmod", "enumerate", "int", "isinstance", "len", "list", "max", "min", "range", "repr", "str", "sum", "tuple"]
structure FT (K : PySem.W.Frag) (mg : Str → Option Value) : Prop extends Facts Fn nm st free K mg where
  c_LEAVES : Con K mg "LEAVES" (.tup [.str "list", .str "broken", .str "count", .str "row"])
  c_LETTERS : Con K mg "LETTERS" (.str "abcdefghijklmnopqrstuvwxyz")
  c_MOST : Con K mg "MOST" (.int 200)
  c_MOST_JOINED : Con K mg "MOST_JOINED" (.int 6)
  c_MOST_ROWS : Con K mg "MOST_ROWS" (.int 60)
  c_WIDEST : Con K mg "WIDEST" (.int 20)
abbrev N_is_whole : List Str := ["thing"]
theorem sc_is_whole : FnScope N_is_whole ["thing"] (defScope (st .is_whole)) := ⟨rfl, rfl, rfl, by decide +kernel, rfl, by decide +kernel, by decide +kernel⟩
abbrev N_is_rule : List Str := ["thing", "one"]
theorem sc_is_rule : FnScope N_is_rule ["thing"] (defScope (st .is_rule)) := ⟨rfl, rfl, rfl, by decide +kernel, rfl, by decide +kernel, by decide +kernel⟩
abbrev N_is_change : List Str := ["thing"]
theorem sc_is_change : FnScope N_is_change ["thing"] (defScope (st .is_change)) := ⟨rfl, rfl, rfl, by decide +kernel, rfl, by decide +kernel, by decide +kernel⟩
abbrev N_is_test : List Str := ["thing", "one"]
theorem sc_is_test : FnScope N_is_test ["thing"] (defScope (st .is_test)) := ⟨rfl, rfl, rfl, by decide +kernel, rfl, by decide +kernel, by decide +kernel⟩
abbrev N_is_look : List Str := ["thing"]
theorem sc_is_look : FnScope N_is_look ["thing"] (defScope (st .is_look)) := ⟨rfl, rfl, rfl, by decide +kernel, rfl, by decide +kernel, by decide +kernel⟩
abbrev N_is_between : List Str := ["thing", "least", "most"]
theorem sc_is_between : FnScope N_is_between ["thing", "least", "most"] (defScope (st .is_between)) := ⟨rfl, rfl, rfl, by decide +kernel, rfl, by decide +kernel, by decide +kernel⟩
abbrev N_is_word : List Str := ["thing", "sign"]
theorem sc_is_word : FnScope N_is_word ["thing"] (defScope (st .is_word)) := ⟨rfl, rfl, rfl, by decide +kernel, rfl, by decide +kernel, by decide +kernel⟩
abbrev N_are_numbers : List Str := ["thing", "one"]
theorem sc_are_numbers : FnScope N_are_numbers ["thing"] (defScope (st .are_numbers)) := ⟨rfl, rfl, rfl, by decide +kernel, rfl, by decide +kernel, by decide +kernel⟩
abbrev N_is_leaf : List Str := ["thing"]
theorem sc_is_leaf : FnScope N_is_leaf ["thing"] (defScope (st .is_leaf)) := ⟨rfl, rfl, rfl, by decide +kernel, rfl, by decide +kernel, by decide +kernel⟩
abbrev N_is_joined : List Str := ["thing", "one"]
theorem sc_is_joined : FnScope N_is_joined ["thing"] (defScope (st .is_joined)) := ⟨rfl, rfl, rfl, by decide +kernel, rfl, by decide +kernel, by decide +kernel⟩
abbrev N_has_numbers : List Str := ["thing", "word", "between"]
theorem sc_has_numbers : FnScope N_has_numbers ["thing"] (defScope (st .has_numbers)) := ⟨rfl, rfl, rfl, by decide +kernel, rfl, by decide +kernel, by decide +kernel⟩
abbrev N_is_plan : List Str := ["thing"]
theorem sc_is_plan : FnScope N_is_plan ["thing"] (defScope (st .is_plan)) := ⟨rfl, rfl, rfl, by decide +kernel, rfl, by decide +kernel, by decide +kernel⟩
abbrev N_l_pot : List Str := ["_law_script", "_law_k", "_law_cell"]
theorem sc_l_pot : FnScope N_l_pot ["_law_script", "_law_k"] (defScope (st .l_pot)) := ⟨rfl, rfl, rfl, by decide +kernel, rfl, by decide +kernel, by decide +kernel⟩
abbrev N_l_digit : List Str := ["_law_pot_here", "_law_many", "_law_digit_here"]
theorem sc_l_digit : FnScope N_l_digit ["_law_pot_here", "_law_many"] (defScope (st .l_digit)) := ⟨rfl, rfl, rfl, by decide +kernel, rfl, by decide +kernel, by decide +kernel⟩
abbrev N_l_whole : List Str := ["_law_pot_here", "_law_room", "_law_great", "_law_turn"]
theorem sc_l_whole : FnScope N_l_whole ["_law_pot_here", "_law_room"] (defScope (st .l_whole)) := ⟨rfl, rfl, rfl, by decide +kernel, rfl, by decide +kernel, by decide +kernel⟩
abbrev N_l_change : List Str := ["_law_pot_here", "_law_room", "_law_kind"]
theorem sc_l_change : FnScope N_l_change ["_law_pot_here", "_law_room"] (defScope (st .l_change)) := ⟨rfl, rfl, rfl, by decide +kernel, rfl, by decide +kernel, by decide +kernel⟩
abbrev N_l_rule : List Str := ["_law_pot_here", "_law_room", "_law_k"]
theorem sc_l_rule : FnScope N_l_rule ["_law_pot_here", "_law_room"] (defScope (st .l_rule)) := ⟨rfl, rfl, rfl, by decide +kernel, rfl, by decide +kernel, by decide +kernel⟩
abbrev N_l_look : List Str := ["_law_pot_here", "_law_room", "_law_deep", "_law_kind", "_law_by"]
theorem sc_l_look : FnScope N_l_look ["_law_pot_here", "_law_room", "_law_deep"] (defScope (st .l_look)) := ⟨rfl, rfl, rfl, by decide +kernel, rfl, by decide +kernel, by decide +kernel⟩
abbrev N_l_test : List Str := ["_law_pot_here", "_law_room", "_law_deep", "_law_k"]
theorem sc_l_test : FnScope N_l_test ["_law_pot_here", "_law_room", "_law_deep"] (defScope (st .l_test)) := ⟨rfl, rfl, rfl, by decide +kernel, rfl, by decide +kernel, by decide +kernel⟩
abbrev N_l_leaf : List Str := ["_law_pot_here", "_law_room", "_law_kind", "_law_numbers", "_law_k"]
theorem sc_l_leaf : FnScope N_l_leaf ["_law_pot_here", "_law_room"] (defScope (st .l_leaf)) := ⟨rfl, rfl, rfl, by decide +kernel, rfl, by decide +kernel, by decide +kernel⟩
abbrev N_l_upon : List Str := ["_law_pot_here", "_law_room", "_law_word", "_law_inner", "_law_one", "_law_wide", "_law_size", "_law_stride", "_law_k"]
theorem sc_l_upon : FnScope N_l_upon ["_law_pot_here", "_law_room", "_law_word", "_law_inner"] (defScope (st .l_upon)) := ⟨rfl, rfl, rfl, by decide +kernel, rfl, by decide +kernel, by decide +kernel⟩
abbrev N_l_grove : List Str := ["_law_pot_here", "_law_room", "_law_deep", "_law_words", "_law_word", "_law_one", "_law_other", "_law_many", "_law_some", "_law_wide", "_law_k"]
theorem sc_l_grove : FnScope N_l_grove ["_law_pot_here", "_law_room", "_law_deep"] (defScope (st .l_grove)) := ⟨rfl, rfl, rfl, by decide +kernel, rfl, by decide +kernel, by decide +kernel⟩
abbrev N_l_planned : List Str := ["_law_pot_here", "_law_room"]
theorem sc_l_planned : FnScope N_l_planned ["_law_pot_here"] (defScope (st .l_planned)) := ⟨rfl, rfl, rfl, by decide +kernel, rfl, by decide +kernel, by decide +kernel⟩
abbrev N_l_whole_one : List Str := ["_law_thing"]
theorem sc_l_whole_one : FnScope N_l_whole_one ["_law_thing"] (defScope (st .l_whole_one)) := ⟨rfl, rfl, rfl, by decide +kernel, rfl, by decide +kernel, by decide +kernel⟩
abbrev N_l_reads_rule : List Str := ["_law_thing", "_law_one"]
theorem sc_l_reads_rule : FnScope N_l_reads_rule ["_law_thing"] (defScope (st .l_reads_rule)) := ⟨rfl, rfl, rfl, by decide +kernel, rfl, by decide +kernel, by decide +kernel⟩
abbrev N_l_reads_look : List Str := ["_law_one"]
theorem sc_l_reads_look : FnScope N_l_reads_look ["_law_one"] (defScope (st .l_reads_look)) := ⟨rfl, rfl, rfl, by decide +kernel, rfl, by decide +kernel, by decide +kernel⟩
abbrev N_l_reads_test : List Str := ["_law_thing", "_law_one"]
theorem sc_l_reads_test : FnScope N_l_reads_test ["_law_thing"] (defScope (st .l_reads_test)) := ⟨rfl, rfl, rfl, by decide +kernel, rfl, by decide +kernel, by decide +kernel⟩
abbrev N_l_reads_part : List Str := ["_law_sort", "_law_thing", "_law_small", "_law_least", "_law_most", "_law_sign", "_law_one"]
theorem sc_l_reads_part : FnScope N_l_reads_part ["_law_sort", "_law_thing"] (defScope (st .l_reads_part)) := ⟨rfl, rfl, rfl, by decide +kernel, rfl, by decide +kernel, by decide +kernel⟩
abbrev N_l_sorts : List Str := ["_law_word", "_law_sorts_here", "_law_others"]
theorem sc_l_sorts : FnScope N_l_sorts ["_law_word"] (defScope (st .l_sorts)) := ⟨rfl, rfl, rfl, by decide +kernel, rfl, by decide +kernel, by decide +kernel⟩
abbrev N_l_reads_plan : List Str := ["_law_thing", "_law_sorts_here", "_law_k", "_law_sort"]
theorem sc_l_reads_plan : FnScope N_l_reads_plan ["_law_thing"] (defScope (st .l_reads_plan)) := ⟨rfl, rfl, rfl, by decide +kernel, rfl, by decide +kernel, by decide +kernel⟩
abbrev N_l_spoilt : List Str := ["_law_pot_here", "_law_thing", "_law_odd", "_law_other", "_law_way", "_law_at"]
theorem sc_l_spoilt : FnScope N_l_spoilt ["_law_pot_here", "_law_thing"] (defScope (st .l_spoilt)) := ⟨rfl, rfl, rfl, by decide +kernel, rfl, by decide +kernel, by decide +kernel⟩
abbrev N_l_judged : List Str := ["_law_thing", "_law_kept", "_law_found"]
theorem sc_l_judged : FnScope N_l_judged ["_law_thing"] (defScope (st .l_judged)) := ⟨rfl, rfl, rfl, by decide +kernel, rfl, by decide +kernel, by decide +kernel⟩
abbrev N_l_borders : List Str := ["_law_one", "_law_found", "_law_many", "_law_n"]
theorem sc_l_borders : FnScope N_l_borders ["_law_one"] (defScope (st .l_borders)) := ⟨rfl, rfl, rfl, by decide +kernel, rfl, by decide +kernel, by decide +kernel⟩
abbrev N_l_right : List Str := ["_law_pot_here", "_law_good", "_law_turn", "_law_one"]
theorem sc_l_right : FnScope N_l_right ["_law_pot_here"] (defScope (st .l_right)) := ⟨rfl, rfl, rfl, by decide +kernel, rfl, by decide +kernel, by decide +kernel⟩
abbrev N_law : List Str := ["_law_script", "_law_k"]
theorem sc_law : FnScope N_law ["_law_script"] (defScope (st .law)) := ⟨rfl, rfl, rfl, by decide +kernel, rfl, by decide +kernel, by decide +kernel⟩
section
variable {P : Program} {w : World} {K : PySem.W.Frag} {mg : Str → Option Value} {base : Heap}
theorem bd_is_whole {fd : FuncData} (FD : FunD K (nm .is_whole) (nm .is_whole) (defArgs (st .is_whole)) (defBody (st .is_whole)) (defScope (st .is_whole)) [] [] (He.ga K (nm .is_whole)) fd) : Binds K fd (ps .is_whole) [] := FD.bindsN fun _ _ _ _ _ _ us hl => match us, hl with | [_], _ => rfl
theorem ok_is_whole (T : FT K mg) {n : Nat} (ih : ∀ y, CalM P w K mg base n (nm y) (ps y) (fns n y)) : CalM P w K mg base (n + 1) (nm .is_whole) (ps .is_whole) (fns (n + 1) .is_whole) := by
  refine calm_of T.toFacts .is_whole sc_is_whole (by decide) (fun fd FD => bd_is_whole FD) fun cdv A outer s H E gd hr => ?_
  have hu := hr.units
  have hu5 := room65 hr
  have hu1 := room1 hr
  have tk : Takes (cxOf (L2.CX P w) P w K mg base N_is_whole (nm .is_whole) (defScope (st .is_whole)) (He.ga K (nm .is_whole)) cdv A outer s H E) (fun cls d _ H => E cls d H) := takes_of rfl rfl rfl rfl
  have po : PassesOwn (model P w) (cxOf (L2.CX P w) P w K mg base N_is_whole (nm .is_whole) (defScope (st .is_whole)) (He.ga K (nm .is_whole)) cdv A outer s H E).A (cxOf (L2.CX P w) P w K mg base N_is_whole (nm .is_whole) (defScope (st .is_whole)) (He.ga K (nm .is_whole)) cdv A outer s H E).env (cxOf (L2.CX P w) P w K mg base N_is_whole (nm .is_whole) (defScope (st .is_whole)) (He.ga K (nm .is_whole)) cdv A outer s H E).xe := passes_of rfl
  exact (dss_one (ds_ret (de_and (de_isi ty_int (dv 0) rfl (T.fr "isinstance" (by decide +kernel)) rfl (T.fr "int" (by decide +kernel)) (by decide +kernel)) (de_one (de_not (de_isi ty_bool (dv 0) rfl (T.fr "isinstance" (by decide +kernel)) rfl (T.fr "bool" (by decide +kernel)) (by decide +kernel)))))))
theorem bd_is_rule {fd : FuncData} (FD : FunD K (nm .is_rule) (nm .is_rule) (defArgs (st .is_rule)) (defBody (st .is_rule)) (defScope (st .is_rule)) [] [] (He.ga K (nm .is_rule)) fd) : Binds K fd (ps .is_rule) [] := FD.bindsN fun _ _ _ _ _ _ us hl => match us, hl with | [_], _ => rfl
theorem ok_is_rule (T : FT K mg) {n : Nat} (ih : ∀ y, CalM P w K mg base n (nm y) (ps y) (fns n y)) : CalM P w K mg base (n + 1) (nm .is_rule) (ps .is_rule) (fns (n + 1) .is_rule) := by
  refine calm_of T.toFacts .is_rule sc_is_rule (by decide) (fun fd FD => bd_is_rule FD) fun cdv A outer s H E gd hr => ?_
  have hu := hr.units
  have hu5 := room65 hr
  have hu1 := room1 hr
  have tk : Takes (cxOf (L2.CX P w) P w K mg base N_is_rule (nm .is_rule) (defScope (st .is_rule)) (He.ga K (nm .is_rule)) cdv A outer s H E) (fun cls d _ H => E cls d H) := takes_of rfl rfl rfl rfl
  have po : PassesOwn (model P w) (cxOf (L2.CX P w) P w K mg base N_is_rule (nm .is_rule) (defScope (st .is_rule)) (He.ga K (nm .is_rule)) cdv A outer s H E).A (cxOf (L2.CX P w) P w K mg base N_is_rule (nm .is_rule) (defScope (st .is_rule)) (He.ga K (nm .is_rule)) cdv A outer s H E).env (cxOf (L2.CX P w) P w K mg base N_is_rule (nm .is_rule) (defScope (st .is_rule)) (He.ga K (nm .is_rule)) cdv A outer s H E).xe := passes_of rfl
  exact (dss_one (ds_ret (de_and (de_isi ty_tuple (dv 0) rfl (T.fr "isinstance" (by decide +kernel)) rfl (T.fr "tuple" (by decide +kernel)) (by decide +kernel)) (de_one (de_callB (cd_all rfl) rfl (T.fr "all" (by decide +kernel)) (by decide +kernel) (da_cons (de_comp (own := [("one", 1)]) rfl sc_is_rule.nd (di_seq (dv 0)) (blkOk_by (own := [("one", 1)]) (N := N_is_rule) (sc := defScope (st .is_rule)) (by decide +kernel)) (fun _ _ _ _ _ => (pg_name (i := 1) sc_is_rule.nd rfl (by first | exact Or.inl rfl | exact Or.inr rfl))) (tgok_name _ 1) (by decide) (fun _ _ _ _ _ => (dcall (ih .is_change) gd hr takes0 rfl rfl (da_cons (dv 1) da_nil)))) da_nil))))))
theorem bd_is_change {fd : FuncData} (FD : FunD K (nm .is_change) (nm .is_change) (defArgs (st .is_change)) (defBody (st .is_change)) (defScope (st .is_change)) [] [] (He.ga K (nm .is_change)) fd) : Binds K fd (ps .is_change) [] := FD.bindsN fun _ _ _ _ _ _ us hl => match us, hl with | [_], _ => rfl
theorem ok_is_change (T : FT K mg) {n : Nat} (ih : ∀ y, CalM P w K mg base n (nm y) (ps y) (fns n y)) : CalM P w K mg base (n + 1) (nm .is_change) (ps .is_change) (fns (n + 1) .is_change) := by
  refine calm_of T.toFacts .is_change sc_is_change (by decide) (fun fd FD => bd_is_change FD) fun cdv A outer s H E gd hr => ?_
  have hu := hr.units
  have hu5 := room65 hr
  have hu1 := room1 hr
  have tk : Takes (cxOf (L2.CX P w) P w K mg base N_is_change (nm .is_change) (defScope (st .is_change)) (He.ga K (nm .is_change)) cdv A outer s H E) (fun cls d _ H => E cls d H) := takes_of rfl rfl rfl rfl
  have po : PassesOwn (model P w) (cxOf (L2.CX P w) P w K mg base N_is_change (nm .is_change) (defScope (st .is_change)) (He.ga K (nm .is_change)) cdv A outer s H E).A (cxOf (L2.CX P w) P w K mg base N_is_change (nm .is_change) (defScope (st .is_change)) (He.ga K (nm .is_change)) cdv A outer s H E).env (cxOf (L2.CX P w) P w K mg base N_is_change (nm .is_change) (defScope (st .is_change)) (He.ga K (nm .is_change)) cdv A outer s H E).xe := passes_of rfl
  exact (dss_cons (ds_if (dt_w (dw_or (dt_not (dt_val (de_isi ty_tuple (dv 0) rfl (T.fr "isinstance" (by decide +kernel)) rfl (T.fr "tuple" (by decide +kernel)) (by decide +kernel)))) (dw_or1 (dt_cmp (od_eq hu) (de_callB cd_len rfl (T.fr "len" (by decide +kernel)) (by decide +kernel) (da_cons (dv 0) da_nil)) de_int)))) (dss_one (ds_ret de_bl)) dss_nil) (dss_cons (ds_if (dt_cmp (od_eq hu) (de_callB cd_len rfl (T.fr "len" (by decide +kernel)) (by decide +kernel) (da_cons (dv 0) da_nil)) de_int) (dss_one (ds_ret (de_cmp (od_in hu5) (de_ix (dv 0) de_int) (de_tup (da_cons de_str (da_cons de_str da_nil)))))) dss_nil) (dss_cons (ds_if (dt_w (dw_or (dt_cmp od_gt (de_callB cd_len rfl (T.fr "len" (by decide +kernel)) (by decide +kernel) (da_cons (dv 0) da_nil)) de_int) (dw_or1 (dt_not (dt_val (dcall (ih .is_whole) gd hr tk rfl rfl (da_cons (de_ix (dv 0) de_int) da_nil))))))) (dss_one (ds_ret de_bl)) dss_nil) (dss_one (ds_ret (de_or (de_cmp (od_in hu5) (de_ix (dv 0) de_int) (de_tup (da_cons de_str (da_cons de_str da_nil)))) (de_one (de_and (de_cmp (od_eq hu) (de_ix (dv 0) de_int) de_str) (de_one (de_cmp od_gt (de_ix (dv 0) de_int) de_int))))))))))
theorem bd_is_test {fd : FuncData} (FD : FunD K (nm .is_test) (nm .is_test) (defArgs (st .is_test)) (defBody (st .is_test)) (defScope (st .is_test)) [] [] (He.ga K (nm .is_test)) fd) : Binds K fd (ps .is_test) [] := FD.bindsN fun _ _ _ _ _ _ us hl => match us, hl with | [_], _ => rfl
theorem ok_is_test (T : FT K mg) {n : Nat} (ih : ∀ y, CalM P w K mg base n (nm y) (ps y) (fns n y)) : CalM P w K mg base (n + 1) (nm .is_test) (ps .is_test) (fns (n + 1) .is_test) := by
  refine calm_of T.toFacts .is_test sc_is_test (by decide) (fun fd FD => bd_is_test FD) fun cdv A outer s H E gd hr => ?_
  have hu := hr.units
  have hu5 := room65 hr
  have hu1 := room1 hr
  have tk : Takes (cxOf (L2.CX P w) P w K mg base N_is_test (nm .is_test) (defScope (st .is_test)) (He.ga K (nm .is_test)) cdv A outer s H E) (fun cls d _ H => E cls d H) := takes_of rfl rfl rfl rfl
  have po : PassesOwn (model P w) (cxOf (L2.CX P w) P w K mg base N_is_test (nm .is_test) (defScope (st .is_test)) (He.ga K (nm .is_test)) cdv A outer s H E).A (cxOf (L2.CX P w) P w K mg base N_is_test (nm .is_test) (defScope (st .is_test)) (He.ga K (nm .is_test)) cdv A outer s H E).env (cxOf (L2.CX P w) P w K mg base N_is_test (nm .is_test) (defScope (st .is_test)) (He.ga K (nm .is_test)) cdv A outer s H E).xe := passes_of rfl
  exact (dss_one (ds_ret (de_and (de_isi ty_tuple (dv 0) rfl (T.fr "isinstance" (by decide +kernel)) rfl (T.fr "tuple" (by decide +kernel)) (by decide +kernel)) (de_one (de_callB (cd_all rfl) rfl (T.fr "all" (by decide +kernel)) (by decide +kernel) (da_cons (de_comp (own := [("one", 1)]) rfl sc_is_test.nd (di_seq (dv 0)) (blkOk_by (own := [("one", 1)]) (N := N_is_test) (sc := defScope (st .is_test)) (by decide +kernel)) (fun _ _ _ _ _ => (pg_name (i := 1) sc_is_test.nd rfl (by first | exact Or.inl rfl | exact Or.inr rfl))) (tgok_name _ 1) (by decide) (fun _ _ _ _ _ => (dcall (ih .is_look) gd hr takes0 rfl rfl (da_cons (dv 1) da_nil)))) da_nil))))))
theorem bd_is_look {fd : FuncData} (FD : FunD K (nm .is_look) (nm .is_look) (defArgs (st .is_look)) (defBody (st .is_look)) (defScope (st .is_look)) [] [] (He.ga K (nm .is_look)) fd) : Binds K fd (ps .is_look) [] := FD.bindsN fun _ _ _ _ _ _ us hl => match us, hl with | [_], _ => rfl
theorem ok_is_look (T : FT K mg) {n : Nat} (ih : ∀ y, CalM P w K mg base n (nm y) (ps y) (fns n y)) : CalM P w K mg base (n + 1) (nm .is_look) (ps .is_look) (fns (n + 1) .is_look) := by
  refine calm_of T.toFacts .is_look sc_is_look (by decide) (fun fd FD => bd_is_look FD) fun cdv A outer s H E gd hr => ?_
  have hu := hr.units
  have hu5 := room65 hr
  have hu1 := room1 hr
  have tk : Takes (cxOf (L2.CX P w) P w K mg base N_is_look (nm .is_look) (defScope (st .is_look)) (He.ga K (nm .is_look)) cdv A outer s H E) (fun cls d _ H => E cls d H) := takes_of rfl rfl rfl rfl
  have po : PassesOwn (model P w) (cxOf (L2.CX P w) P w K mg base N_is_look (nm .is_look) (defScope (st .is_look)) (He.ga K (nm .is_look)) cdv A outer s H E).A (cxOf (L2.CX P w) P w K mg base N_is_look (nm .is_look) (defScope (st .is_look)) (He.ga K (nm .is_look)) cdv A outer s H E).env (cxOf (L2.CX P w) P w K mg base N_is_look (nm .is_look) (defScope (st .is_look)) (He.ga K (nm .is_look)) cdv A outer s H E).xe := passes_of rfl
  exact (dss_cons (ds_if (dt_w (dw_or (dt_not (dt_val (de_isi ty_tuple (dv 0) rfl (T.fr "isinstance" (by decide +kernel)) rfl (T.fr "tuple" (by decide +kernel)) (by decide +kernel)))) (dw_or1 (dt_not (dt_chain od_le od_le de_int (de_callB cd_len rfl (T.fr "len" (by decide +kernel)) (by decide +kernel) (da_cons (dv 0) da_nil)) de_int))))) (dss_one (ds_ret de_bl)) dss_nil) (dss_cons (ds_if (dt_cmp (od_eq hu) (de_callB cd_len rfl (T.fr "len" (by decide +kernel)) (by decide +kernel) (da_cons (dv 0) da_nil)) de_int) (dss_one (ds_ret (de_and (de_cmp (od_eq hu) (de_ix (dv 0) de_int) de_str) (de_one (dcall (ih .is_whole) gd hr tk rfl rfl (da_cons (de_ix (dv 0) de_int) da_nil)))))) dss_nil) (dss_cons (ds_if (dt_cmp (od_eq hu) (de_ix (dv 0) de_int) de_str) (dss_one (ds_ret (de_and (dcall (ih .is_rule) gd hr tk rfl rfl (da_cons (de_ix (dv 0) de_int) da_nil)) (de_one (dcall (ih .is_test) gd hr tk rfl rfl (da_cons (de_ix (dv 0) de_int) da_nil)))))) dss_nil) (dss_one (ds_ret (de_and (de_cmp (od_eq hu) (de_ix (dv 0) de_int) de_str) (de_and (dcall (ih .is_whole) gd hr tk rfl rfl (da_cons (de_ix (dv 0) de_int) da_nil)) (de_and (dcall (ih .is_whole) gd hr tk rfl rfl (da_cons (de_ix (dv 0) de_int) da_nil)) (de_one (de_chain od_le od_lt de_int (de_ix (dv 0) de_int) (de_ix (dv 0) de_int)))))))))))
theorem bd_is_between {fd : FuncData} (FD : FunD K (nm .is_between) (nm .is_between) (defArgs (st .is_between)) (defBody (st .is_between)) (defScope (st .is_between)) [] [] (He.ga K (nm .is_between)) fd) : Binds K fd (ps .is_between) [] := FD.bindsN fun _ _ _ _ _ _ us hl => match us, hl with | [_, _, _], _ => rfl
theorem ok_is_between (T : FT K mg) {n : Nat} (ih : ∀ y, CalM P w K mg base n (nm y) (ps y) (fns n y)) : CalM P w K mg base (n + 1) (nm .is_between) (ps .is_between) (fns (n + 1) .is_between) := by
  refine calm_of T.toFacts .is_between sc_is_between (by decide) (fun fd FD => bd_is_between FD) fun cdv A outer s H E gd hr => ?_
  have hu := hr.units
  have hu5 := room65 hr
  have hu1 := room1 hr
  have tk : Takes (cxOf (L2.CX P w) P w K mg base N_is_between (nm .is_between) (defScope (st .is_between)) (He.ga K (nm .is_between)) cdv A outer s H E) (fun cls d _ H => E cls d H) := takes_of rfl rfl rfl rfl
  have po : PassesOwn (model P w) (cxOf (L2.CX P w) P w K mg base N_is_between (nm .is_between) (defScope (st .is_between)) (He.ga K (nm .is_between)) cdv A outer s H E).A (cxOf (L2.CX P w) P w K mg base N_is_between (nm .is_between) (defScope (st .is_between)) (He.ga K (nm .is_between)) cdv A outer s H E).env (cxOf (L2.CX P w) P w K mg base N_is_between (nm .is_between) (defScope (st .is_between)) (He.ga K (nm .is_between)) cdv A outer s H E).xe := passes_of rfl
  exact (dss_one (ds_ret (de_and (dcall (ih .is_whole) gd hr tk rfl rfl (da_cons (dv 0) da_nil)) (de_one (de_chain od_le od_le (dv 1) (dv 0) (dv 2))))))
theorem bd_is_word {fd : FuncData} (FD : FunD K (nm .is_word) (nm .is_word) (defArgs (st .is_word)) (defBody (st .is_word)) (defScope (st .is_word)) [] [] (He.ga K (nm .is_word)) fd) : Binds K fd (ps .is_word) [] := FD.bindsN fun _ _ _ _ _ _ us hl => match us, hl with | [_], _ => rfl
theorem ok_is_word (T : FT K mg) {n : Nat} (ih : ∀ y, CalM P w K mg base n (nm y) (ps y) (fns n y)) : CalM P w K mg base (n + 1) (nm .is_word) (ps .is_word) (fns (n + 1) .is_word) := by
  refine calm_of T.toFacts .is_word sc_is_word (by decide) (fun fd FD => bd_is_word FD) fun cdv A outer s H E gd hr => ?_
  have hu := hr.units
  have hu5 := room65 hr
  have hu1 := room1 hr
  have tk : Takes (cxOf (L2.CX P w) P w K mg base N_is_word (nm .is_word) (defScope (st .is_word)) (He.ga K (nm .is_word)) cdv A outer s H E) (fun cls d _ H => E cls d H) := takes_of rfl rfl rfl rfl
  have po : PassesOwn (model P w) (cxOf (L2.CX P w) P w K mg base N_is_word (nm .is_word) (defScope (st .is_word)) (He.ga K (nm .is_word)) cdv A outer s H E).A (cxOf (L2.CX P w) P w K mg base N_is_word (nm .is_word) (defScope (st .is_word)) (He.ga K (nm .is_word)) cdv A outer s H E).env (cxOf (L2.CX P w) P w K mg base N_is_word (nm .is_word) (defScope (st .is_word)) (He.ga K (nm .is_word)) cdv A outer s H E).xe := passes_of rfl
  exact (dss_one (ds_ret (de_and (de_isi ty_str (dv 0) rfl (T.fr "isinstance" (by decide +kernel)) rfl (T.fr "str" (by decide +kernel)) (by decide +kernel)) (de_and (de_chain od_le od_le de_int (de_callB cd_len rfl (T.fr "len" (by decide +kernel)) (by decide +kernel) (da_cons (dv 0) da_nil)) de_int) (de_one (de_callB (cd_all rfl) rfl (T.fr "all" (by decide +kernel)) (by decide +kernel) (da_cons (de_comp (own := [("sign", 1)]) rfl sc_is_word.nd (di_chars (dv 0)) (blkOk_by (own := [("sign", 1)]) (N := N_is_word) (sc := defScope (st .is_word)) (by decide +kernel)) (fun _ _ _ _ _ => (pg_name (i := 1) sc_is_word.nd rfl (by first | exact Or.inl rfl | exact Or.inr rfl))) (tgok_name _ 1) (by decide) (fun _ _ _ _ _ => (de_cmp od_inS (dv 1) (de_con rfl T.c_LETTERS)))) da_nil)))))))
theorem bd_are_numbers {fd : FuncData} (FD : FunD K (nm .are_numbers) (nm .are_numbers) (defArgs (st .are_numbers)) (defBody (st .are_numbers)) (defScope (st .are_numbers)) [] [] (He.ga K (nm .are_numbers)) fd) : Binds K fd (ps .are_numbers) [] := FD.bindsN fun _ _ _ _ _ _ us hl => match us, hl with | [_], _ => rfl
theorem ok_are_numbers (T : FT K mg) {n : Nat} (ih : ∀ y, CalM P w K mg base n (nm y) (ps y) (fns n y)) : CalM P w K mg base (n + 1) (nm .are_numbers) (ps .are_numbers) (fns (n + 1) .are_numbers) := by
  refine calm_of T.toFacts .are_numbers sc_are_numbers (by decide) (fun fd FD => bd_are_numbers FD) fun cdv A outer s H E gd hr => ?_
  have hu := hr.units
  have hu5 := room65 hr
  have hu1 := room1 hr
  have tk : Takes (cxOf (L2.CX P w) P w K mg base N_are_numbers (nm .are_numbers) (defScope (st .are_numbers)) (He.ga K (nm .are_numbers)) cdv A outer s H E) (fun cls d _ H => E cls d H) := takes_of rfl rfl rfl rfl
  have po : PassesOwn (model P w) (cxOf (L2.CX P w) P w K mg base N_are_numbers (nm .are_numbers) (defScope (st .are_numbers)) (He.ga K (nm .are_numbers)) cdv A outer s H E).A (cxOf (L2.CX P w) P w K mg base N_are_numbers (nm .are_numbers) (defScope (st .are_numbers)) (He.ga K (nm .are_numbers)) cdv A outer s H E).env (cxOf (L2.CX P w) P w K mg base N_are_numbers (nm .are_numbers) (defScope (st .are_numbers)) (He.ga K (nm .are_numbers)) cdv A outer s H E).xe := passes_of rfl
  exact (dss_one (ds_ret (de_and (de_isi ty_tuple (dv 0) rfl (T.fr "isinstance" (by decide +kernel)) rfl (T.fr "tuple" (by decide +kernel)) (by decide +kernel)) (de_one (de_callB (cd_all rfl) rfl (T.fr "all" (by decide +kernel)) (by decide +kernel) (da_cons (de_comp (own := [("one", 1)]) rfl sc_are_numbers.nd (di_seq (dv 0)) (blkOk_by (own := [("one", 1)]) (N := N_are_numbers) (sc := defScope (st .are_numbers)) (by decide +kernel)) (fun _ _ _ _ _ => (pg_name (i := 1) sc_are_numbers.nd rfl (by first | exact Or.inl rfl | exact Or.inr rfl))) (tgok_name _ 1) (by decide) (fun _ _ _ _ _ => (dcall (ih .is_whole) gd hr takes0 rfl rfl (da_cons (dv 1) da_nil)))) da_nil))))))
theorem bd_is_leaf {fd : FuncData} (FD : FunD K (nm .is_leaf) (nm .is_leaf) (defArgs (st .is_leaf)) (defBody (st .is_leaf)) (defScope (st .is_leaf)) [] [] (He.ga K (nm .is_leaf)) fd) : Binds K fd (ps .is_leaf) [] := FD.bindsN fun _ _ _ _ _ _ us hl => match us, hl with | [_], _ => rfl
theorem ok_is_leaf (T : FT K mg) {n : Nat} (ih : ∀ y, CalM P w K mg base n (nm y) (ps y) (fns n y)) : CalM P w K mg base (n + 1) (nm .is_leaf) (ps .is_leaf) (fns (n + 1) .is_leaf) := by
  refine calm_of T.toFacts .is_leaf sc_is_leaf (by decide) (fun fd FD => bd_is_leaf FD) fun cdv A outer s H E gd hr => ?_
  have hu := hr.units
  have hu5 := room65 hr
  have hu1 := room1 hr
  have tk : Takes (cxOf (L2.CX P w) P w K mg base N_is_leaf (nm .is_leaf) (defScope (st .is_leaf)) (He.ga K (nm .is_leaf)) cdv A outer s H E) (fun cls d _ H => E cls d H) := takes_of rfl rfl rfl rfl
  have po : PassesOwn (model P w) (cxOf (L2.CX P w) P w K mg base N_is_leaf (nm .is_leaf) (defScope (st .is_leaf)) (He.ga K (nm .is_leaf)) cdv A outer s H E).A (cxOf (L2.CX P w) P w K mg base N_is_leaf (nm .is_leaf) (defScope (st .is_leaf)) (He.ga K (nm .is_leaf)) cdv A outer s H E).env (cxOf (L2.CX P w) P w K mg base N_is_leaf (nm .is_leaf) (defScope (st .is_leaf)) (He.ga K (nm .is_leaf)) cdv A outer s H E).xe := passes_of rfl
  exact (dss_cons (ds_if (dt_cmp (od_eq hu) (de_ix (dv 0) de_int) de_str) (dss_one (ds_ret (de_and (de_cmp (od_eq hu) (de_callB cd_len rfl (T.fr "len" (by decide +kernel)) (by decide +kernel) (da_cons (dv 0) da_nil)) de_int) (de_one (dcall (ih .are_numbers) gd hr tk rfl rfl (da_cons (de_ix (dv 0) de_int) da_nil)))))) dss_nil) (dss_cons (ds_if (dt_cmp (od_eq hu) (de_ix (dv 0) de_int) de_str) (dss_one (ds_ret (de_and (de_cmp (od_eq hu) (de_callB cd_len rfl (T.fr "len" (by decide +kernel)) (by decide +kernel) (da_cons (dv 0) da_nil)) de_int) (de_and (dcall (ih .are_numbers) gd hr tk rfl rfl (da_cons (de_ix (dv 0) de_int) da_nil)) (de_one (dcall (ih .is_word) gd hr tk rfl rfl (da_cons (de_ix (dv 0) de_int) da_nil))))))) dss_nil) (dss_cons (ds_if (dt_cmp (od_eq hu) (de_ix (dv 0) de_int) de_str) (dss_one (ds_ret (de_and (de_cmp (od_eq hu) (de_callB cd_len rfl (T.fr "len" (by decide +kernel)) (by decide +kernel) (da_cons (dv 0) da_nil)) de_int) (de_one (dcall (ih .is_between) gd hr tk rfl rfl (da_cons (de_ix (dv 0) de_int) (da_cons de_int (da_cons (de_op od_sub (de_con rfl T.c_MOST_ROWS) de_int) da_nil)))))))) dss_nil) (dss_one (ds_ret (de_and (de_cmp (od_eq hu) (de_callB cd_len rfl (T.fr "len" (by decide +kernel)) (by decide +kernel) (da_cons (dv 0) da_nil)) de_int) (de_and (dcall (ih .is_whole) gd hr tk rfl rfl (da_cons (de_ix (dv 0) de_int) da_nil)) (de_and (dcall (ih .is_whole) gd hr tk rfl rfl (da_cons (de_ix (dv 0) de_int) da_nil)) (de_one (dcall (ih .is_between) gd hr tk rfl rfl (da_cons (de_ix (dv 0) de_int) (da_cons de_int (da_cons (de_con rfl T.c_MOST) da_nil)))))))))))))
theorem bd_is_joined {fd : FuncData} (FD : FunD K (nm .is_joined) (nm .is_joined) (defArgs (st .is_joined)) (defBody (st .is_joined)) (defScope (st .is_joined)) [] [] (He.ga K (nm .is_joined)) fd) : Binds K fd (ps .is_joined) [] := FD.bindsN fun _ _ _ _ _ _ us hl => match us, hl with | [_], _ => rfl
theorem ok_is_joined (T : FT K mg) {n : Nat} (ih : ∀ y, CalM P w K mg base n (nm y) (ps y) (fns n y)) : CalM P w K mg base (n + 1) (nm .is_joined) (ps .is_joined) (fns (n + 1) .is_joined) := by
  refine calm_of T.toFacts .is_joined sc_is_joined (by decide) (fun fd FD => bd_is_joined FD) fun cdv A outer s H E gd hr => ?_
  have hu := hr.units
  have hu5 := room65 hr
  have hu1 := room1 hr
  have tk : Takes (cxOf (L2.CX P w) P w K mg base N_is_joined (nm .is_joined) (defScope (st .is_joined)) (He.ga K (nm .is_joined)) cdv A outer s H E) (fun cls d _ H => E cls d H) := takes_of rfl rfl rfl rfl
  have po : PassesOwn (model P w) (cxOf (L2.CX P w) P w K mg base N_is_joined (nm .is_joined) (defScope (st .is_joined)) (He.ga K (nm .is_joined)) cdv A outer s H E).A (cxOf (L2.CX P w) P w K mg base N_is_joined (nm .is_joined) (defScope (st .is_joined)) (He.ga K (nm .is_joined)) cdv A outer s H E).env (cxOf (L2.CX P w) P w K mg base N_is_joined (nm .is_joined) (defScope (st .is_joined)) (He.ga K (nm .is_joined)) cdv A outer s H E).xe := passes_of rfl
  exact (dss_cons (ds_if (dt_w (dw_or (dt_cmp (od_ne hu) (de_callB cd_len rfl (T.fr "len" (by decide +kernel)) (by decide +kernel) (da_cons (dv 0) da_nil)) de_int) (dw_or (dt_not (dt_val (de_isi ty_tuple (de_ix (dv 0) de_int) rfl (T.fr "isinstance" (by decide +kernel)) rfl (T.fr "tuple" (by decide +kernel)) (by decide +kernel)))) (dw_or1 (dt_cmp od_gt (de_callB cd_len rfl (T.fr "len" (by decide +kernel)) (by decide +kernel) (da_cons (de_ix (dv 0) de_int) da_nil)) (de_con rfl T.c_MOST_JOINED)))))) (dss_one (ds_ret de_bl)) dss_nil) (dss_one (ds_ret (de_and (de_or (de_cmp (od_eq hu) (de_ix (dv 0) de_int) de_str) (de_one (de_cmp (od_ne hu) (de_ix (dv 0) de_int) (de_tup da_nil)))) (de_one (de_callB (cd_all rfl) rfl (T.fr "all" (by decide +kernel)) (by decide +kernel) (da_cons (de_comp (own := [("one", 1)]) rfl sc_is_joined.nd (di_seq (de_ix (dv 0) de_int)) (blkOk_by (own := [("one", 1)]) (N := N_is_joined) (sc := defScope (st .is_joined)) (by decide +kernel)) (fun _ _ _ _ _ => (pg_name (i := 1) sc_is_joined.nd rfl (by first | exact Or.inl rfl | exact Or.inr rfl))) (tgok_name _ 1) (by decide) (fun _ _ _ _ _ => (dcall (ih .is_plan) gd hr takes0 rfl rfl (da_cons (dv 1) da_nil)))) da_nil)))))))
theorem bd_has_numbers {fd : FuncData} (FD : FunD K (nm .has_numbers) (nm .has_numbers) (defArgs (st .has_numbers)) (defBody (st .has_numbers)) (defScope (st .has_numbers)) [] [] (He.ga K (nm .has_numbers)) fd) : Binds K fd (ps .has_numbers) [] := FD.bindsN fun _ _ _ _ _ _ us hl => match us, hl with | [_], _ => rfl
theorem ok_has_numbers (T : FT K mg) {n : Nat} (ih : ∀ y, CalM P w K mg base n (nm y) (ps y) (fns n y)) : CalM P w K mg base (n + 1) (nm .has_numbers) (ps .has_numbers) (fns (n + 1) .has_numbers) := by
  refine calm_of T.toFacts .has_numbers sc_has_numbers (by decide) (fun fd FD => bd_has_numbers FD) fun cdv A outer s H E gd hr => ?_
  have hu := hr.units
  have hu5 := room65 hr
  have hu1 := room1 hr
  have tk : Takes (cxOf (L2.CX P w) P w K mg base N_has_numbers (nm .has_numbers) (defScope (st .has_numbers)) (He.ga K (nm .has_numbers)) cdv A outer s H E) (fun cls d _ H => E cls d H) := takes_of rfl rfl rfl rfl
  have po : PassesOwn (model P w) (cxOf (L2.CX P w) P w K mg base N_has_numbers (nm .has_numbers) (defScope (st .has_numbers)) (He.ga K (nm .has_numbers)) cdv A outer s H E).A (cxOf (L2.CX P w) P w K mg base N_has_numbers (nm .has_numbers) (defScope (st .has_numbers)) (He.ga K (nm .has_numbers)) cdv A outer s H E).env (cxOf (L2.CX P w) P w K mg base N_has_numbers (nm .has_numbers) (defScope (st .has_numbers)) (He.ga K (nm .has_numbers)) cdv A outer s H E).xe := passes_of rfl
  exact (dss_cons (ds_par 1 2 rfl sc_has_numbers.nd rfl rfl (by decide) rfl rfl (de_ix (dv 0) de_int) (de_sl (dv 0) (dp_at de_int) (dp_at (de_un ud_neg de_int)))) (dss_cons (ds_if (dt_cmp (od_eq hu) (dv 1) de_str) (dss_one (ds_ret (de_cmp (od_eq hu) (dv 2) (de_tup da_nil)))) dss_nil) (dss_cons (ds_if (dt_cmp (od_eq hu) (dv 1) de_str) (dss_one (ds_ret (de_and (de_cmp (od_eq hu) (de_callB cd_len rfl (T.fr "len" (by decide +kernel)) (by decide +kernel) (da_cons (dv 2) da_nil)) de_int) (de_and (dcall (ih .is_between) gd hr tk rfl rfl (da_cons (de_ix (dv 2) de_int) (da_cons de_int (da_cons (de_con rfl T.c_WIDEST) da_nil)))) (de_one (dcall (ih .is_between) gd hr tk rfl rfl (da_cons (de_ix (dv 2) de_int) (da_cons de_int (da_cons (de_con rfl T.c_WIDEST) da_nil))))))))) dss_nil) (dss_cons (ds_if (dt_cmp (od_eq hu) (dv 1) de_str) (dss_one (ds_ret (de_and (de_cmp (od_eq hu) (de_callB cd_len rfl (T.fr "len" (by decide +kernel)) (by decide +kernel) (da_cons (dv 2) da_nil)) de_int) (de_and (dcall (ih .is_between) gd hr tk rfl rfl (da_cons (de_ix (dv 2) de_int) (da_cons de_int (da_cons (de_con rfl T.c_MOST) da_nil)))) (de_one (dcall (ih .is_word) gd hr tk rfl rfl (da_cons (de_ix (dv 2) de_int) da_nil))))))) dss_nil) (dss_cons (ds_if (dt_cmp (od_ne hu) (de_callB cd_len rfl (T.fr "len" (by decide +kernel)) (by decide +kernel) (da_cons (dv 2) da_nil)) de_int) (dss_one (ds_ret de_bl)) dss_nil) (dss_cons (ds_if (dt_cmp (od_eq hu) (dv 1) de_str) (dss_one (ds_ret (dcall (ih .is_rule) gd hr tk rfl rfl (da_cons (de_ix (dv 2) de_int) da_nil)))) dss_nil) (dss_cons (ds_if (dt_cmp (od_in hu5) (dv 1) (de_tup (da_cons de_str (da_cons de_str da_nil)))) (dss_one (ds_ret (dcall (ih .is_test) gd hr tk rfl rfl (da_cons (de_ix (dv 2) de_int) da_nil)))) dss_nil) (dss_cons (ds_if (dt_cmp (od_in hu5) (dv 1) (de_tup (da_cons de_str (da_cons de_str da_nil)))) (dss_one (ds_ret (dcall (ih .is_between) gd hr tk rfl rfl (da_cons (de_ix (dv 2) de_int) (da_cons de_int (da_cons (de_con rfl T.c_MOST) da_nil)))))) dss_nil) (dss_cons (ds_if (dt_cmp (od_eq hu) (dv 1) de_str) (dss_one (ds_ret (de_and (dcall (ih .is_whole) gd hr tk rfl rfl (da_cons (de_ix (dv 2) de_int) da_nil)) (de_one (de_cmp od_gt (de_ix (dv 2) de_int) de_int))))) dss_nil) (dss_one (ds_ret (de_and (de_cmp (od_eq hu) (dv 1) de_str) (de_one (dcall (ih .is_plan) gd hr tk rfl rfl (da_cons (de_ix (dv 2) de_int) da_nil)))))))))))))))
theorem bd_is_plan {fd : FuncData} (FD : FunD K (nm .is_plan) (nm .is_plan) (defArgs (st .is_plan)) (defBody (st .is_plan)) (defScope (st .is_plan)) [] [] (He.ga K (nm .is_plan)) fd) : Binds K fd (ps .is_plan) [] := FD.bindsN fun _ _ _ _ _ _ us hl => match us, hl with | [_], _ => rfl
theorem ok_is_plan (T : FT K mg) {n : Nat} (ih : ∀ y, CalM P w K mg base n (nm y) (ps y) (fns n y)) : CalM P w K mg base (n + 1) (nm .is_plan) (ps .is_plan) (fns (n + 1) .is_plan) := by
  refine calm_of T.toFacts .is_plan sc_is_plan (by decide) (fun fd FD => bd_is_plan FD) fun cdv A outer s H E gd hr => ?_
  have hu := hr.units
  have hu5 := room65 hr
  have hu1 := room1 hr
  have tk : Takes (cxOf (L2.CX P w) P w K mg base N_is_plan (nm .is_plan) (defScope (st .is_plan)) (He.ga K (nm .is_plan)) cdv A outer s H E) (fun cls d _ H => E cls d H) := takes_of rfl rfl rfl rfl
  have po : PassesOwn (model P w) (cxOf (L2.CX P w) P w K mg base N_is_plan (nm .is_plan) (defScope (st .is_plan)) (He.ga K (nm .is_plan)) cdv A outer s H E).A (cxOf (L2.CX P w) P w K mg base N_is_plan (nm .is_plan) (defScope (st .is_plan)) (He.ga K (nm .is_plan)) cdv A outer s H E).env (cxOf (L2.CX P w) P w K mg base N_is_plan (nm .is_plan) (defScope (st .is_plan)) (He.ga K (nm .is_plan)) cdv A outer s H E).xe := passes_of rfl
  exact (dss_cons (ds_if (dt_w (dw_or (dt_not (dt_val (de_isi ty_tuple (dv 0) rfl (T.fr "isinstance" (by decide +kernel)) rfl (T.fr "tuple" (by decide +kernel)) (by decide +kernel)))) (dw_or (dt_cmp od_lt (de_callB cd_len rfl (T.fr "len" (by decide +kernel)) (by decide +kernel) (da_cons (dv 0) da_nil)) de_int) (dw_or1 (dt_not (dt_val (de_isi ty_str (de_ix (dv 0) de_int) rfl (T.fr "isinstance" (by decide +kernel)) rfl (T.fr "str" (by decide +kernel)) (by decide +kernel)))))))) (dss_one (ds_ret de_bl)) dss_nil) (dss_cons (ds_if (dt_cmp (od_in hu5) (de_ix (dv 0) de_int) (de_con rfl T.c_LEAVES)) (dss_one (ds_ret (dcall (ih .is_leaf) gd hr tk rfl rfl (da_cons (dv 0) da_nil)))) dss_nil) (dss_cons (ds_if (dt_cmp (od_in hu5) (de_ix (dv 0) de_int) (de_tup (da_cons de_str (da_cons de_str da_nil)))) (dss_one (ds_ret (dcall (ih .is_joined) gd hr tk rfl rfl (da_cons (dv 0) da_nil)))) dss_nil) (dss_one (ds_ret (de_and (dcall (ih .has_numbers) gd hr tk rfl rfl (da_cons (dv 0) da_nil)) (de_one (dcall (ih .is_plan) gd hr tk rfl rfl (da_cons (de_ix (dv 0) (de_un ud_neg de_int)) da_nil)))))))))
theorem bd_l_pot {fd : FuncData} (FD : FunD K (nm .l_pot) (nm .l_pot) (defArgs (st .l_pot)) (defBody (st .l_pot)) (defScope (st .l_pot)) [] [] (He.ga K (nm .l_pot)) fd) : Binds K fd (ps .l_pot) [] := FD.bindsN fun _ _ _ _ _ _ us hl => match us, hl with | [_, _], _ => rfl
theorem ok_l_pot (T : FT K mg) {n : Nat} (ih : ∀ y, CalM P w K mg base n (nm y) (ps y) (fns n y)) : CalM P w K mg base (n + 1) (nm .l_pot) (ps .l_pot) (fns (n + 1) .l_pot) := by
  refine calm_of T.toFacts .l_pot sc_l_pot (by decide) (fun fd FD => bd_l_pot FD) fun cdv A outer s H E gd hr => ?_
  have hu := hr.units
  have hu5 := room65 hr
  have hu1 := room1 hr
  have tk : Takes (cxOf (L2.CX P w) P w K mg base N_l_pot (nm .l_pot) (defScope (st .l_pot)) (He.ga K (nm .l_pot)) cdv A outer s H E) (fun cls d _ H => E cls d H) := takes_of rfl rfl rfl rfl
  have po : PassesOwn (model P w) (cxOf (L2.CX P w) P w K mg base N_l_pot (nm .l_pot) (defScope (st .l_pot)) (He.ga K (nm .l_pot)) cdv A outer s H E).A (cxOf (L2.CX P w) P w K mg base N_l_pot (nm .l_pot) (defScope (st .l_pot)) (He.ga K (nm .l_pot)) cdv A outer s H E).env (cxOf (L2.CX P w) P w K mg base N_l_pot (nm .l_pot) (defScope (st .l_pot)) (He.ga K (nm .l_pot)) cdv A outer s H E).xe := passes_of rfl
  exact (dss_cons (ds_set 2 sc_l_pot.nd rfl (by first | exact Or.inl rfl | exact Or.inr rfl) (de_if (dt_cmp od_lt (dv 1) (de_callB cd_len rfl (T.fr "len" (by decide +kernel)) (by decide +kernel) (da_cons (dv 0) da_nil))) (de_ix (dv 0) (dv 1)) de_int)) (dss_cons (ds_if (dt_cmp od_ge (dv 2) (de_op od_pow de_int de_int)) (dss_one (ds_ret (de_newL (da_cons (de_op od_sub (dv 2) (de_op od_pow de_int de_int)) (da_cons (de_op od_add (de_op od_add (de_op od_mod (dv 2) de_int) (de_op od_mul de_int (dv 1))) de_int) da_nil))))) dss_nil) (dss_one (ds_ret (de_newL (da_cons de_int (da_cons (de_op od_add (de_op od_add (de_op od_mod (dv 2) de_int) (de_op od_mul de_int (dv 1))) de_int) da_nil)))))))
theorem bd_l_digit {fd : FuncData} (FD : FunD K (nm .l_digit) (nm .l_digit) (defArgs (st .l_digit)) (defBody (st .l_digit)) (defScope (st .l_digit)) [] [] (He.ga K (nm .l_digit)) fd) : Binds K fd (ps .l_digit) [] := FD.bindsN fun _ _ _ _ _ _ us hl => match us, hl with | [_, _], _ => rfl
theorem ok_l_digit (T : FT K mg) {n : Nat} (ih : ∀ y, CalM P w K mg base n (nm y) (ps y) (fns n y)) : CalM P w K mg base (n + 1) (nm .l_digit) (ps .l_digit) (fns (n + 1) .l_digit) := by
  refine calm_of T.toFacts .l_digit sc_l_digit (by decide) (fun fd FD => bd_l_digit FD) fun cdv A outer s H E gd hr => ?_
  have hu := hr.units
  have hu5 := room65 hr
  have hu1 := room1 hr
  have tk : Takes (cxOf (L2.CX P w) P w K mg base N_l_digit (nm .l_digit) (defScope (st .l_digit)) (He.ga K (nm .l_digit)) cdv A outer s H E) (fun cls d _ H => E cls d H) := takes_of rfl rfl rfl rfl
  have po : PassesOwn (model P w) (cxOf (L2.CX P w) P w K mg base N_l_digit (nm .l_digit) (defScope (st .l_digit)) (He.ga K (nm .l_digit)) cdv A outer s H E).A (cxOf (L2.CX P w) P w K mg base N_l_digit (nm .l_digit) (defScope (st .l_digit)) (He.ga K (nm .l_digit)) cdv A outer s H E).env (cxOf (L2.CX P w) P w K mg base N_l_digit (nm .l_digit) (defScope (st .l_digit)) (He.ga K (nm .l_digit)) cdv A outer s H E).xe := passes_of rfl
  exact (dss_cons (ds_if (dt_cmp od_gt (de_ix (dv 0) de_int) de_int) (dss_cons (ds_asg (de_callB cd_divmod rfl (T.fr "divmod" (by decide +kernel)) (by decide +kernel) (da_cons (de_ix (dv 0) de_int) (da_cons (dv 1) da_nil))) (dg_pair rfl (dg_sub (dv 0) de_int) (dg_name 2 sc_l_digit.nd rfl (by first | exact Or.inl rfl | exact Or.inr rfl)))) (dss_one (ds_ret (dv 2)))) dss_nil) (dss_cons (ds_asg (de_op od_mod (de_op od_add (de_op od_mul (de_ix (dv 0) de_int) de_int) de_int) de_int) (dg_sub (dv 0) de_int)) (dss_one (ds_ret (de_op od_mod (de_op od_div (de_op od_mod (de_op od_mul (de_ix (dv 0) de_int) (de_ix (dv 0) de_int)) de_int) de_int) (dv 1))))))
theorem bd_l_whole {fd : FuncData} (FD : FunD K (nm .l_whole) (nm .l_whole) (defArgs (st .l_whole)) (defBody (st .l_whole)) (defScope (st .l_whole)) [] [] (He.ga K (nm .l_whole)) fd) : Binds K fd (ps .l_whole) [] := FD.bindsN fun _ _ _ _ _ _ us hl => match us, hl with | [_, _], _ => rfl
theorem ok_l_whole (T : FT K mg) {n : Nat} (ih : ∀ y, CalM P w K mg base n (nm y) (ps y) (fns n y)) : CalM P w K mg base (n + 1) (nm .l_whole) (ps .l_whole) (fns (n + 1) .l_whole) := by
  refine calm_of T.toFacts .l_whole sc_l_whole (by decide) (fun fd FD => bd_l_whole FD) fun cdv A outer s H E gd hr => ?_
  have hu := hr.units
  have hu5 := room65 hr
  have hu1 := room1 hr
  have tk : Takes (cxOf (L2.CX P w) P w K mg base N_l_whole (nm .l_whole) (defScope (st .l_whole)) (He.ga K (nm .l_whole)) cdv A outer s H E) (fun cls d _ H => E cls d H) := takes_of rfl rfl rfl rfl
  have po : PassesOwn (model P w) (cxOf (L2.CX P w) P w K mg base N_l_whole (nm .l_whole) (defScope (st .l_whole)) (He.ga K (nm .l_whole)) cdv A outer s H E).A (cxOf (L2.CX P w) P w K mg base N_l_whole (nm .l_whole) (defScope (st .l_whole)) (He.ga K (nm .l_whole)) cdv A outer s H E).env (cxOf (L2.CX P w) P w K mg base N_l_whole (nm .l_whole) (defScope (st .l_whole)) (He.ga K (nm .l_whole)) cdv A outer s H E).xe := passes_of rfl
  exact (dss_cons (ds_if (dt_w (dw_or (dt_cmp od_lt (dcall (ih .l_digit) gd hr tk rfl rfl (da_cons (dv 0) (da_cons de_int da_nil))) de_int) (dw_or1 (dt_cmp (od_eq hu) (de_dget hu1 (dv 1) de_str) de_int)))) (dss_one (ds_ret (de_op od_sub (dcall (ih .l_digit) gd hr tk rfl rfl (da_cons (dv 0) (da_cons de_int da_nil))) de_int))) dss_nil) (dss_cons (ds_dput hu1 (dv 1) de_str (de_op od_sub (de_dget hu1 (dv 1) de_str) de_int)) (dss_cons (ds_set 2 sc_l_whole.nd rfl (by first | exact Or.inl rfl | exact Or.inr rfl) de_int) (dss_cons (ds_for po rfl (di_range rfl (T.fr "range" (by decide +kernel)) de_int) (pg_name (i := 3) sc_l_whole.nd rfl (by first | exact Or.inl rfl | exact Or.inr rfl)) (tgok_name _ 3) (dss_one (ds_set 2 sc_l_whole.nd rfl (by first | exact Or.inl rfl | exact Or.inr rfl) (de_op od_add (de_op od_mul (dv 2) (de_op od_pow de_int de_int)) (dcall (ih .l_digit) gd hr tk rfl rfl (da_cons (dv 0) (da_cons (de_op od_pow de_int de_int) da_nil))))))) (dss_one (ds_ret (de_ix (de_lst (da_cons (dv 2) (da_cons (de_un ud_neg (dv 2)) da_nil))) (dcall (ih .l_digit) gd hr tk rfl rfl (da_cons (dv 0) (da_cons de_int da_nil))))))))))
theorem bd_l_change {fd : FuncData} (FD : FunD K (nm .l_change) (nm .l_change) (defArgs (st .l_change)) (defBody (st .l_change)) (defScope (st .l_change)) [] [] (He.ga K (nm .l_change)) fd) : Binds K fd (ps .l_change) [] := FD.bindsN fun _ _ _ _ _ _ us hl => match us, hl with | [_, _], _ => rfl
theorem ok_l_change (T : FT K mg) {n : Nat} (ih : ∀ y, CalM P w K mg base n (nm y) (ps y) (fns n y)) : CalM P w K mg base (n + 1) (nm .l_change) (ps .l_change) (fns (n + 1) .l_change) := by
  refine calm_of T.toFacts .l_change sc_l_change (by decide) (fun fd FD => bd_l_change FD) fun cdv A outer s H E gd hr => ?_
  have hu := hr.units
  have hu5 := room65 hr
  have hu1 := room1 hr
  have tk : Takes (cxOf (L2.CX P w) P w K mg base N_l_change (nm .l_change) (defScope (st .l_change)) (He.ga K (nm .l_change)) cdv A outer s H E) (fun cls d _ H => E cls d H) := takes_of rfl rfl rfl rfl
  have po : PassesOwn (model P w) (cxOf (L2.CX P w) P w K mg base N_l_change (nm .l_change) (defScope (st .l_change)) (He.ga K (nm .l_change)) cdv A outer s H E).A (cxOf (L2.CX P w) P w K mg base N_l_change (nm .l_change) (defScope (st .l_change)) (He.ga K (nm .l_change)) cdv A outer s H E).env (cxOf (L2.CX P w) P w K mg base N_l_change (nm .l_change) (defScope (st .l_change)) (He.ga K (nm .l_change)) cdv A outer s H E).xe := passes_of rfl
  exact (dss_cons (ds_set 2 sc_l_change.nd rfl (by first | exact Or.inl rfl | exact Or.inr rfl) (dcall (ih .l_digit) gd hr tk rfl rfl (da_cons (dv 0) (da_cons de_int da_nil)))) (dss_cons (ds_if (dt_cmp od_lt (dv 2) de_int) (dss_one (ds_ret (de_tup (da_cons (de_ix (de_lst (da_cons de_str (da_cons de_str da_nil))) (dv 2)) (da_cons (dcall (ih .l_whole) gd hr tk rfl rfl (da_cons (dv 0) (da_cons (dv 1) da_nil))) da_nil))))) dss_nil) (dss_cons (ds_if (dt_cmp (od_eq hu) (dv 2) de_int) (dss_one (ds_ret (de_tup (da_cons de_str (da_cons (de_op od_add de_int (dcall (ih .l_digit) gd hr tk rfl rfl (da_cons (dv 0) (da_cons (de_ix (de_lst (da_cons de_int (da_cons (de_op od_pow de_int de_int) da_nil))) (dcall (ih .l_digit) gd hr tk rfl rfl (da_cons (dv 0) (da_cons de_int da_nil)))) da_nil)))) da_nil))))) dss_nil) (dss_one (ds_ret (de_ix (de_lst (da_cons (de_tup (da_cons de_str da_nil)) (da_cons (de_tup (da_cons de_str da_nil)) da_nil))) (de_op od_sub (dv 2) de_int)))))))
theorem bd_l_rule {fd : FuncData} (FD : FunD K (nm .l_rule) (nm .l_rule) (defArgs (st .l_rule)) (defBody (st .l_rule)) (defScope (st .l_rule)) [] [] (He.ga K (nm .l_rule)) fd) : Binds K fd (ps .l_rule) [] := FD.bindsN fun _ _ _ _ _ _ us hl => match us, hl with | [_, _], _ => rfl
theorem ok_l_rule (T : FT K mg) {n : Nat} (ih : ∀ y, CalM P w K mg base n (nm y) (ps y) (fns n y)) : CalM P w K mg base (n + 1) (nm .l_rule) (ps .l_rule) (fns (n + 1) .l_rule) := by
  refine calm_of T.toFacts .l_rule sc_l_rule (by decide) (fun fd FD => bd_l_rule FD) fun cdv A outer s H E gd hr => ?_
  have hu := hr.units
  have hu5 := room65 hr
  have hu1 := room1 hr
  have tk : Takes (cxOf (L2.CX P w) P w K mg base N_l_rule (nm .l_rule) (defScope (st .l_rule)) (He.ga K (nm .l_rule)) cdv A outer s H E) (fun cls d _ H => E cls d H) := takes_of rfl rfl rfl rfl
  have po : PassesOwn (model P w) (cxOf (L2.CX P w) P w K mg base N_l_rule (nm .l_rule) (defScope (st .l_rule)) (He.ga K (nm .l_rule)) cdv A outer s H E).A (cxOf (L2.CX P w) P w K mg base N_l_rule (nm .l_rule) (defScope (st .l_rule)) (He.ga K (nm .l_rule)) cdv A outer s H E).env (cxOf (L2.CX P w) P w K mg base N_l_rule (nm .l_rule) (defScope (st .l_rule)) (He.ga K (nm .l_rule)) cdv A outer s H E).xe := passes_of rfl
  exact (dss_one (ds_ret (de_callTy cd_tuple rfl (T.fr "tuple" (by decide +kernel)) (by decide +kernel) (da_cons (de_comp (own := [("_law_k", 2)]) rfl sc_l_rule.nd (di_range rfl (T.fr "range" (by decide +kernel)) (dcall (ih .l_digit) gd hr tk rfl rfl (da_cons (dv 0) (da_cons de_int da_nil)))) (blkOk_by (own := [("_law_k", 2)]) (N := N_l_rule) (sc := defScope (st .l_rule)) (by decide +kernel)) (fun _ _ _ _ _ => (pg_name (i := 2) sc_l_rule.nd rfl (by first | exact Or.inl rfl | exact Or.inr rfl))) (tgok_name _ 2) (by decide) (fun _ _ _ _ _ => (dcall (ih .l_change) gd hr takes0 rfl rfl (da_cons (dv 0) (da_cons (dv 1) da_nil))))) da_nil))))
theorem bd_l_look {fd : FuncData} (FD : FunD K (nm .l_look) (nm .l_look) (defArgs (st .l_look)) (defBody (st .l_look)) (defScope (st .l_look)) [] [] (He.ga K (nm .l_look)) fd) : Binds K fd (ps .l_look) [] := FD.bindsN fun _ _ _ _ _ _ us hl => match us, hl with | [_, _, _], _ => rfl
theorem ok_l_look (T : FT K mg) {n : Nat} (ih : ∀ y, CalM P w K mg base n (nm y) (ps y) (fns n y)) : CalM P w K mg base (n + 1) (nm .l_look) (ps .l_look) (fns (n + 1) .l_look) := by
  refine calm_of T.toFacts .l_look sc_l_look (by decide) (fun fd FD => bd_l_look FD) fun cdv A outer s H E gd hr => ?_
  have hu := hr.units
  have hu5 := room65 hr
  have hu1 := room1 hr
  have tk : Takes (cxOf (L2.CX P w) P w K mg base N_l_look (nm .l_look) (defScope (st .l_look)) (He.ga K (nm .l_look)) cdv A outer s H E) (fun cls d _ H => E cls d H) := takes_of rfl rfl rfl rfl
  have po : PassesOwn (model P w) (cxOf (L2.CX P w) P w K mg base N_l_look (nm .l_look) (defScope (st .l_look)) (He.ga K (nm .l_look)) cdv A outer s H E).A (cxOf (L2.CX P w) P w K mg base N_l_look (nm .l_look) (defScope (st .l_look)) (He.ga K (nm .l_look)) cdv A outer s H E).env (cxOf (L2.CX P w) P w K mg base N_l_look (nm .l_look) (defScope (st .l_look)) (He.ga K (nm .l_look)) cdv A outer s H E).xe := passes_of rfl
  exact (dss_cons (ds_set 3 sc_l_look.nd rfl (by first | exact Or.inl rfl | exact Or.inr rfl) (dcall (ih .l_digit) gd hr tk rfl rfl (da_cons (dv 0) (da_cons de_int da_nil)))) (dss_cons (ds_if (dt_cmp od_lt (dv 3) de_int) (dss_cons (ds_set 4 sc_l_look.nd rfl (by first | exact Or.inl rfl | exact Or.inr rfl) (de_op od_add de_int (dcall (ih .l_digit) gd hr tk rfl rfl (da_cons (dv 0) (da_cons de_int da_nil))))) (dss_one (ds_ret (de_tup (da_cons de_str (da_cons (dv 4) (da_cons (dcall (ih .l_digit) gd hr tk rfl rfl (da_cons (dv 0) (da_cons (dv 4) da_nil))) da_nil))))))) dss_nil) (dss_cons (ds_if (dt_w (dw_or (dt_cmp (od_eq hu) (dv 3) de_int) (dw_or1 (dt_cmp (od_eq hu) (dv 2) de_int)))) (dss_one (ds_ret (de_tup (da_cons de_str (da_cons (dcall (ih .l_whole) gd hr tk rfl rfl (da_cons (dv 0) (da_cons (dv 1) da_nil))) da_nil))))) dss_nil) (dss_one (ds_ret (de_tup (da_cons de_str (da_cons (dcall (ih .l_rule) gd hr tk rfl rfl (da_cons (dv 0) (da_cons (dv 1) da_nil))) (da_cons (dcall (ih .l_test) gd hr tk rfl rfl (da_cons (dv 0) (da_cons (dv 1) (da_cons (de_op od_sub (dv 2) de_int) da_nil)))) da_nil)))))))))
theorem bd_l_test {fd : FuncData} (FD : FunD K (nm .l_test) (nm .l_test) (defArgs (st .l_test)) (defBody (st .l_test)) (defScope (st .l_test)) [] [] (He.ga K (nm .l_test)) fd) : Binds K fd (ps .l_test) [] := FD.bindsN fun _ _ _ _ _ _ us hl => match us, hl with | [_, _, _], _ => rfl
theorem ok_l_test (T : FT K mg) {n : Nat} (ih : ∀ y, CalM P w K mg base n (nm y) (ps y) (fns n y)) : CalM P w K mg base (n + 1) (nm .l_test) (ps .l_test) (fns (n + 1) .l_test) := by
  refine calm_of T.toFacts .l_test sc_l_test (by decide) (fun fd FD => bd_l_test FD) fun cdv A outer s H E gd hr => ?_
  have hu := hr.units
  have hu5 := room65 hr
  have hu1 := room1 hr
  have tk : Takes (cxOf (L2.CX P w) P w K mg base N_l_test (nm .l_test) (defScope (st .l_test)) (He.ga K (nm .l_test)) cdv A outer s H E) (fun cls d _ H => E cls d H) := takes_of rfl rfl rfl rfl
  have po : PassesOwn (model P w) (cxOf (L2.CX P w) P w K mg base N_l_test (nm .l_test) (defScope (st .l_test)) (He.ga K (nm .l_test)) cdv A outer s H E).A (cxOf (L2.CX P w) P w K mg base N_l_test (nm .l_test) (defScope (st .l_test)) (He.ga K (nm .l_test)) cdv A outer s H E).env (cxOf (L2.CX P w) P w K mg base N_l_test (nm .l_test) (defScope (st .l_test)) (He.ga K (nm .l_test)) cdv A outer s H E).xe := passes_of rfl
  exact (dss_one (ds_ret (de_callTy cd_tuple rfl (T.fr "tuple" (by decide +kernel)) (by decide +kernel) (da_cons (de_comp (own := [("_law_k", 3)]) rfl sc_l_test.nd (di_range rfl (T.fr "range" (by decide +kernel)) (dcall (ih .l_digit) gd hr tk rfl rfl (da_cons (dv 0) (da_cons de_int da_nil)))) (blkOk_by (own := [("_law_k", 3)]) (N := N_l_test) (sc := defScope (st .l_test)) (by decide +kernel)) (fun _ _ _ _ _ => (pg_name (i := 3) sc_l_test.nd rfl (by first | exact Or.inl rfl | exact Or.inr rfl))) (tgok_name _ 3) (by decide) (fun _ _ _ _ _ => (dcall (ih .l_look) gd hr takes0 rfl rfl (da_cons (dv 0) (da_cons (dv 1) (da_cons (dv 2) da_nil)))))) da_nil))))
theorem bd_l_leaf {fd : FuncData} (FD : FunD K (nm .l_leaf) (nm .l_leaf) (defArgs (st .l_leaf)) (defBody (st .l_leaf)) (defScope (st .l_leaf)) [] [] (He.ga K (nm .l_leaf)) fd) : Binds K fd (ps .l_leaf) [] := FD.bindsN fun _ _ _ _ _ _ us hl => match us, hl with | [_, _], _ => rfl
theorem ok_l_leaf (T : FT K mg) {n : Nat} (ih : ∀ y, CalM P w K mg base n (nm y) (ps y) (fns n y)) : CalM P w K mg base (n + 1) (nm .l_leaf) (ps .l_leaf) (fns (n + 1) .l_leaf) := by
  refine calm_of T.toFacts .l_leaf sc_l_leaf (by decide) (fun fd FD => bd_l_leaf FD) fun cdv A outer s H E gd hr => ?_
  have hu := hr.units
  have hu5 := room65 hr
  have hu1 := room1 hr
  have tk : Takes (cxOf (L2.CX P w) P w K mg base N_l_leaf (nm .l_leaf) (defScope (st .l_leaf)) (He.ga K (nm .l_leaf)) cdv A outer s H E) (fun cls d _ H => E cls d H) := takes_of rfl rfl rfl rfl
  have po : PassesOwn (model P w) (cxOf (L2.CX P w) P w K mg base N_l_leaf (nm .l_leaf) (defScope (st .l_leaf)) (He.ga K (nm .l_leaf)) cdv A outer s H E).A (cxOf (L2.CX P w) P w K mg base N_l_leaf (nm .l_leaf) (defScope (st .l_leaf)) (He.ga K (nm .l_leaf)) cdv A outer s H E).env (cxOf (L2.CX P w) P w K mg base N_l_leaf (nm .l_leaf) (defScope (st .l_leaf)) (He.ga K (nm .l_leaf)) cdv A outer s H E).xe := passes_of rfl
  exact (dss_cons (ds_set 2 sc_l_leaf.nd rfl (by first | exact Or.inl rfl | exact Or.inr rfl) (dcall (ih .l_digit) gd hr tk rfl rfl (da_cons (dv 0) (da_cons de_int da_nil)))) (dss_cons (ds_set 3 sc_l_leaf.nd rfl (by first | exact Or.inl rfl | exact Or.inr rfl) (de_callTy cd_tuple rfl (T.fr "tuple" (by decide +kernel)) (by decide +kernel) (da_cons (de_comp (own := [("_law_k", 4)]) rfl sc_l_leaf.nd (di_range rfl (T.fr "range" (by decide +kernel)) (dcall (ih .l_digit) gd hr tk rfl rfl (da_cons (dv 0) (da_cons de_int da_nil)))) (blkOk_by (own := [("_law_k", 4)]) (N := N_l_leaf) (sc := defScope (st .l_leaf)) (by decide +kernel)) (fun _ _ _ _ _ => (pg_name (i := 4) sc_l_leaf.nd rfl (by first | exact Or.inl rfl | exact Or.inr rfl))) (tgok_name _ 4) (by decide) (fun _ _ _ _ _ => (dcall (ih .l_whole) gd hr takes0 rfl rfl (da_cons (dv 0) (da_cons (dv 1) da_nil))))) da_nil))) (dss_cons (ds_if (dt_cmp (od_eq hu) (dv 2) de_int) (dss_one (ds_ret (de_tup (da_cons de_str (da_cons (dv 3) (da_cons (de_ix (de_lst (da_cons de_str (da_cons de_str (da_cons de_str da_nil)))) (dcall (ih .l_digit) gd hr tk rfl rfl (da_cons (dv 0) (da_cons de_int da_nil)))) da_nil)))))) dss_nil) (dss_cons (ds_if (dt_cmp (od_eq hu) (dv 2) de_int) (dss_one (ds_ret (de_tup (da_cons de_str (da_cons (dcall (ih .l_whole) gd hr tk rfl rfl (da_cons (dv 0) (da_cons (dv 1) da_nil))) (da_cons (dcall (ih .l_whole) gd hr tk rfl rfl (da_cons (dv 0) (da_cons (dv 1) da_nil))) (da_cons (dcall (ih .l_digit) gd hr tk rfl rfl (da_cons (dv 0) (da_cons de_int da_nil))) da_nil))))))) dss_nil) (dss_cons (ds_if (dt_w (dw_and (dt_cmp od_gt (dv 2) de_int) (dw_and1 (dt_cmp od_lt (de_dget hu1 (dv 1) de_str) de_int)))) (dss_cons (ds_dput hu1 (dv 1) de_str (de_op od_add (de_dget hu1 (dv 1) de_str) de_int)) (dss_one (ds_ret (de_tup (da_cons de_str (da_cons (de_op od_sub (de_dget hu1 (dv 1) de_str) de_int) da_nil)))))) dss_nil) (dss_one (ds_ret (de_tup (da_cons de_str (da_cons (dv 3) da_nil))))))))))
theorem bd_l_upon {fd : FuncData} (FD : FunD K (nm .l_upon) (nm .l_upon) (defArgs (st .l_upon)) (defBody (st .l_upon)) (defScope (st .l_upon)) [] [] (He.ga K (nm .l_upon)) fd) : Binds K fd (ps .l_upon) [] := FD.bindsN fun _ _ _ _ _ _ us hl => match us, hl with | [_, _, _, _], _ => rfl
theorem ok_l_upon (T : FT K mg) {n : Nat} (ih : ∀ y, CalM P w K mg base n (nm y) (ps y) (fns n y)) : CalM P w K mg base (n + 1) (nm .l_upon) (ps .l_upon) (fns (n + 1) .l_upon) := by
  refine calm_of T.toFacts .l_upon sc_l_upon (by decide) (fun fd FD => bd_l_upon FD) fun cdv A outer s H E gd hr => ?_
  have hu := hr.units
  have hu5 := room65 hr
  have hu1 := room1 hr
  have tk : Takes (cxOf (L2.CX P w) P w K mg base N_l_upon (nm .l_upon) (defScope (st .l_upon)) (He.ga K (nm .l_upon)) cdv A outer s H E) (fun cls d _ H => E cls d H) := takes_of rfl rfl rfl rfl
  have po : PassesOwn (model P w) (cxOf (L2.CX P w) P w K mg base N_l_upon (nm .l_upon) (defScope (st .l_upon)) (He.ga K (nm .l_upon)) cdv A outer s H E).A (cxOf (L2.CX P w) P w K mg base N_l_upon (nm .l_upon) (defScope (st .l_upon)) (He.ga K (nm .l_upon)) cdv A outer s H E).env (cxOf (L2.CX P w) P w K mg base N_l_upon (nm .l_upon) (defScope (st .l_upon)) (He.ga K (nm .l_upon)) cdv A outer s H E).xe := passes_of rfl
  exact (dss_cons (ds_asg (dv 3) (dg_pair rfl (dg_name 4 sc_l_upon.nd rfl (by first | exact Or.inl rfl | exact Or.inr rfl)) (dg_name 5 sc_l_upon.nd rfl (by first | exact Or.inl rfl | exact Or.inr rfl)))) (dss_cons (ds_if (dt_cmp (od_eq hu) (dv 2) de_str) (dss_one (ds_ret (de_tup (da_cons (de_tup (da_cons (dv 2) (da_cons (dcall (ih .l_rule) gd hr tk rfl rfl (da_cons (dv 0) (da_cons (dv 1) da_nil))) (da_cons (dv 4) da_nil)))) (da_cons (dv 5) da_nil))))) dss_nil) (dss_cons (ds_if (dt_cmp (od_in hu5) (dv 2) (de_tup (da_cons de_str (da_cons de_str da_nil)))) (dss_one (ds_ret (de_tup (da_cons (de_tup (da_cons (dv 2) (da_cons (dcall (ih .l_test) gd hr tk rfl rfl (da_cons (dv 0) (da_cons (dv 1) (da_cons de_int da_nil)))) (da_cons (dv 4) da_nil)))) (da_cons (dv 5) da_nil))))) dss_nil) (dss_cons (ds_if (dt_cmp (od_in hu5) (dv 2) (de_tup (da_cons de_str (da_cons de_str da_nil)))) (dss_one (ds_ret (de_tup (da_cons (de_tup (da_cons (dv 2) (da_cons (dcall (ih .l_digit) gd hr tk rfl rfl (da_cons (dv 0) (da_cons (de_ix (de_lst (da_cons de_int (da_cons de_int (da_cons de_int da_nil)))) (dcall (ih .l_digit) gd hr tk rfl rfl (da_cons (dv 0) (da_cons de_int da_nil)))) da_nil))) (da_cons (dv 4) da_nil)))) (da_cons (dv 5) da_nil))))) dss_nil) (dss_cons (ds_if (dt_cmp (od_eq hu) (dv 2) de_str) (dss_one (ds_ret (de_tup (da_cons (de_tup (da_cons (dv 2) (da_cons (de_op od_add de_int (dcall (ih .l_digit) gd hr tk rfl rfl (da_cons (dv 0) (da_cons (de_ix (de_lst (da_cons de_int (da_cons (de_op od_pow de_int de_int) da_nil))) (dcall (ih .l_digit) gd hr tk rfl rfl (da_cons (dv 0) (da_cons de_int da_nil)))) da_nil)))) (da_cons (dv 4) da_nil)))) (da_cons de_int da_nil))))) dss_nil) (dss_cons (ds_if (dt_cmp (od_eq hu) (dv 2) de_str) (dss_one (ds_ret (de_tup (da_cons (de_tup (da_cons (dv 2) (da_cons (dcall (ih .l_digit) gd hr tk rfl rfl (da_cons (dv 0) (da_cons (de_ix (de_lst (da_cons de_int (da_cons de_int da_nil))) (dcall (ih .l_digit) gd hr tk rfl rfl (da_cons (dv 0) (da_cons de_int da_nil)))) da_nil))) (da_cons (de_ix (de_lst (da_cons de_str (da_cons de_str da_nil))) (dcall (ih .l_digit) gd hr tk rfl rfl (da_cons (dv 0) (da_cons de_int da_nil)))) (da_cons (dv 4) da_nil))))) (da_cons (dv 5) da_nil))))) dss_nil) (dss_cons (ds_if (dt_cmp (od_eq hu) (dv 2) de_str) (dss_cons (ds_asg (de_comp (own := [("_law_k", 8)]) rfl sc_l_upon.nd (di_range rfl (T.fr "range" (by decide +kernel)) de_int) (blkOk_by (own := [("_law_k", 8)]) (N := N_l_upon) (sc := defScope (st .l_upon)) (by decide +kernel)) (fun _ _ _ _ _ => (pg_name (i := 8) sc_l_upon.nd rfl (by first | exact Or.inl rfl | exact Or.inr rfl))) (tgok_name _ 8) (by decide) (fun _ _ _ _ _ => (de_op od_add de_int (dcall (ih .l_digit) gd hr takes0 rfl rfl (da_cons (dv 0) (da_cons (de_ix (de_lst (da_cons de_int (da_cons de_int (da_cons de_int da_nil)))) (dcall (ih .l_digit) gd hr takes0 rfl rfl (da_cons (dv 0) (da_cons de_int da_nil)))) da_nil)))))) (dg_pairL rfl (dg_name 6 sc_l_upon.nd rfl (by first | exact Or.inl rfl | exact Or.inr rfl)) (dg_name 7 sc_l_upon.nd rfl (by first | exact Or.inl rfl | exact Or.inr rfl)))) (dss_cons (ds_set 6 sc_l_upon.nd rfl (by first | exact Or.inl rfl | exact Or.inr rfl) (de_if (dt_cmp od_le (de_op od_mul (dv 6) (dv 5)) de_int) (dv 6) de_int)) (dss_one (ds_ret (de_tup (da_cons (de_tup (da_cons (dv 2) (da_cons (dv 6) (da_cons (dv 7) (da_cons (dv 4) da_nil))))) (da_cons (de_op od_mul (dv 6) (dv 5)) da_nil))))))) dss_nil) (dss_one (ds_ret (de_tup (da_cons (de_tup (da_cons de_str (da_cons (dv 4) da_nil))) (da_cons (dv 5) da_nil))))))))))))
theorem bd_l_grove {fd : FuncData} (FD : FunD K (nm .l_grove) (nm .l_grove) (defArgs (st .l_grove)) (defBody (st .l_grove)) (defScope (st .l_grove)) [] [] (He.ga K (nm .l_grove)) fd) : Binds K fd (ps .l_grove) [] := FD.bindsN fun _ _ _ _ _ _ us hl => match us, hl with | [_, _, _], _ => rfl
theorem ok_l_grove (T : FT K mg) {n : Nat} (ih : ∀ y, CalM P w K mg base n (nm y) (ps y) (fns n y)) : CalM P w K mg base (n + 1) (nm .l_grove) (ps .l_grove) (fns (n + 1) .l_grove) := by
  refine calm_of T.toFacts .l_grove sc_l_grove (by decide) (fun fd FD => bd_l_grove FD) fun cdv A outer s H E gd hr => ?_
  have hu := hr.units
  have hu5 := room65 hr
  have hu1 := room1 hr
  have tk : Takes (cxOf (L2.CX P w) P w K mg base N_l_grove (nm .l_grove) (defScope (st .l_grove)) (He.ga K (nm .l_grove)) cdv A outer s H E) (fun cls d _ H => E cls d H) := takes_of rfl rfl rfl rfl
  have po : PassesOwn (model P w) (cxOf (L2.CX P w) P w K mg base N_l_grove (nm .l_grove) (defScope (st .l_grove)) (He.ga K (nm .l_grove)) cdv A outer s H E).A (cxOf (L2.CX P w) P w K mg base N_l_grove (nm .l_grove) (defScope (st .l_grove)) (He.ga K (nm .l_grove)) cdv A outer s H E).env (cxOf (L2.CX P w) P w K mg base N_l_grove (nm .l_grove) (defScope (st .l_grove)) (He.ga K (nm .l_grove)) cdv A outer s H E).xe := passes_of rfl
  exact (dss_cons (ds_set 3 sc_l_grove.nd rfl (by first | exact Or.inl rfl | exact Or.inr rfl) (de_lst (da_cons de_str (da_cons de_str (da_cons de_str (da_cons de_str (da_cons de_str (da_cons de_str (da_cons de_str (da_cons de_str (da_cons de_str (da_cons de_str (da_cons de_str (da_cons de_str (da_cons de_str da_nil))))))))))))))) (dss_cons (ds_set 3 sc_l_grove.nd rfl (by first | exact Or.inl rfl | exact Or.inr rfl) (de_op od_add (dv 3) (de_lst (da_cons de_str (da_cons de_str (da_cons de_str (da_cons de_str (da_cons de_str (da_cons de_str (da_cons de_str (da_cons de_str (da_cons de_str da_nil)))))))))))) (dss_cons (ds_set 4 sc_l_grove.nd rfl (by first | exact Or.inl rfl | exact Or.inr rfl) (de_ix (dv 3) (dcall (ih .l_digit) gd hr tk rfl rfl (da_cons (dv 0) (da_cons de_int da_nil))))) (dss_cons (ds_if (dt_w (dw_or (dt_cmp (od_eq hu) (dv 2) de_int) (dw_or (dt_cmp od_lt (de_dget hu1 (dv 1) de_str) de_int) (dw_or1 (dt_cmp (od_eq hu) (dv 4) de_str))))) (dss_one (ds_ret (de_tup (da_cons (dcall (ih .l_leaf) gd hr tk rfl rfl (da_cons (dv 0) (da_cons (dv 1) da_nil))) (da_cons de_int da_nil))))) dss_nil) (dss_cons (ds_dput hu1 (dv 1) de_str (de_op od_sub (de_dget hu1 (dv 1) de_str) de_int)) (dss_cons (ds_if (dt_cmp (od_eq hu) (dv 4) de_str) (dss_cons (ds_asg (de_comp (own := [("_law_k", 10)]) rfl sc_l_grove.nd (di_range rfl (T.fr "range" (by decide +kernel)) de_int) (blkOk_by (own := [("_law_k", 10)]) (N := N_l_grove) (sc := defScope (st .l_grove)) (by decide +kernel)) (fun _ _ _ _ _ => (pg_name (i := 10) sc_l_grove.nd rfl (by first | exact Or.inl rfl | exact Or.inr rfl))) (tgok_name _ 10) (by decide) (fun _ _ _ _ _ => (dcall (ih .l_grove) gd hr takes0 rfl rfl (da_cons (dv 0) (da_cons (dv 1) (da_cons (de_op od_sub (dv 2) de_int) da_nil)))))) (dg_pairL rfl (dg_name 5 sc_l_grove.nd rfl (by first | exact Or.inl rfl | exact Or.inr rfl)) (dg_name 6 sc_l_grove.nd rfl (by first | exact Or.inl rfl | exact Or.inr rfl)))) (dss_one (ds_ret (de_tup (da_cons (de_tup (da_cons (dv 4) (da_cons (de_ix (dv 5) de_int) (da_cons (de_ix (dv 6) de_int) da_nil)))) (da_cons (de_callB (cd_max2 rfl) rfl (T.fr "max" (by decide +kernel)) (by decide +kernel) (da_cons (de_ix (dv 5) de_int) (da_cons (de_ix (dv 6) de_int) da_nil))) da_nil)))))) dss_nil) (dss_cons (ds_if (dt_cmp (od_in hu5) (dv 4) (de_tup (da_cons de_str (da_cons de_str da_nil)))) (dss_cons (ds_set 7 sc_l_grove.nd rfl (by first | exact Or.inl rfl | exact Or.inr rfl) (de_if (dt_cmp (od_eq hu) (dv 4) de_str) (dcall (ih .l_digit) gd hr tk rfl rfl (da_cons (dv 0) (da_cons de_int da_nil))) (de_op od_add de_int (dcall (ih .l_digit) gd hr tk rfl rfl (da_cons (dv 0) (da_cons de_int da_nil)))))) (dss_cons (ds_setComp 8 (own := [("_law_k", 10)]) rfl sc_l_grove.nd rfl rfl (sw_true rfl rfl rfl (by decide +kernel)) (di_range rfl (T.fr "range" (by decide +kernel)) (dv 7)) (blkOk_by (own := [("_law_k", 10)]) (N := N_l_grove) (sc := defScope (st .l_grove)) (by decide +kernel)) (fun _ _ _ _ _ => (pg_name (i := 10) sc_l_grove.nd rfl (by first | exact Or.inl rfl | exact Or.inr rfl))) (tgok_name _ 10) (by decide) (fun _ _ _ _ _ => (dcall (ih .l_grove) gd hr takes0 rfl rfl (da_cons (dv 0) (da_cons (dv 1) (da_cons (de_op od_sub (dv 2) de_int) da_nil)))))) (dss_cons (ds_set 9 sc_l_grove.nd rfl (by first | exact Or.inl rfl | exact Or.inr rfl) (de_if (dt_cmp (od_eq hu) (dv 4) de_str) (de_callB (cd_maxL rfl) rfl (T.fr "max" (by decide +kernel)) (by decide +kernel) (da_cons (de_op od_add (de_lst (da_cons de_int da_nil)) (de_comp (own := [("_law_one", 5)]) rfl sc_l_grove.nd (di_seq (dv 8)) (blkOk_by (own := [("_law_one", 5)]) (N := N_l_grove) (sc := defScope (st .l_grove)) (by decide +kernel)) (fun _ _ _ _ _ => (pg_name (i := 5) sc_l_grove.nd rfl (by first | exact Or.inl rfl | exact Or.inr rfl))) (tgok_name _ 5) (by decide) (fun _ _ _ _ _ => (de_ix (dv 5) de_int)))) da_nil)) (de_callB (cd_sum rfl) rfl (T.fr "sum" (by decide +kernel)) (by decide +kernel) (da_cons (de_comp (own := [("_law_one", 5)]) rfl sc_l_grove.nd (di_seq (dv 8)) (blkOk_by (own := [("_law_one", 5)]) (N := N_l_grove) (sc := defScope (st .l_grove)) (by decide +kernel)) (fun _ _ _ _ _ => (pg_name (i := 5) sc_l_grove.nd rfl (by first | exact Or.inl rfl | exact Or.inr rfl))) (tgok_name _ 5) (by decide) (fun _ _ _ _ _ => (de_ix (dv 5) de_int))) da_nil)))) (dss_cons (ds_if (dt_cmp od_gt (dv 9) de_int) (dss_one (ds_ret (de_ix (dv 8) de_int))) dss_nil) (dss_one (ds_ret (de_tup (da_cons (de_tup (da_cons (dv 4) (da_cons (de_callTy cd_tuple rfl (T.fr "tuple" (by decide +kernel)) (by decide +kernel) (da_cons (de_comp (own := [("_law_one", 5)]) rfl sc_l_grove.nd (di_seq (dv 8)) (blkOk_by (own := [("_law_one", 5)]) (N := N_l_grove) (sc := defScope (st .l_grove)) (by decide +kernel)) (fun _ _ _ _ _ => (pg_name (i := 5) sc_l_grove.nd rfl (by first | exact Or.inl rfl | exact Or.inr rfl))) (tgok_name _ 5) (by decide) (fun _ _ _ _ _ => (de_ix (dv 5) de_int))) da_nil)) da_nil))) (da_cons (dv 9) da_nil))))))))) dss_nil) (dss_one (ds_ret (dcall (ih .l_upon) gd hr tk rfl rfl (da_cons (dv 0) (da_cons (dv 1) (da_cons (dv 4) (da_cons (dcall (ih .l_grove) gd hr tk rfl rfl (da_cons (dv 0) (da_cons (dv 1) (da_cons (de_op od_sub (dv 2) de_int) da_nil)))) da_nil))))))))))))))
theorem bd_l_planned {fd : FuncData} (FD : FunD K (nm .l_planned) (nm .l_planned) (defArgs (st .l_planned)) (defBody (st .l_planned)) (defScope (st .l_planned)) [] [] (He.ga K (nm .l_planned)) fd) : Binds K fd (ps .l_planned) [] := FD.bindsN fun _ _ _ _ _ _ us hl => match us, hl with | [_], _ => rfl
theorem ok_l_planned (T : FT K mg) {n : Nat} (ih : ∀ y, CalM P w K mg base n (nm y) (ps y) (fns n y)) : CalM P w K mg base (n + 1) (nm .l_planned) (ps .l_planned) (fns (n + 1) .l_planned) := by
  refine calm_of T.toFacts .l_planned sc_l_planned (by decide) (fun fd FD => bd_l_planned FD) fun cdv A outer s H E gd hr => ?_
  have hu := hr.units
  have hu5 := room65 hr
  have hu1 := room1 hr
  have tk : Takes (cxOf (L2.CX P w) P w K mg base N_l_planned (nm .l_planned) (defScope (st .l_planned)) (He.ga K (nm .l_planned)) cdv A outer s H E) (fun cls d _ H => E cls d H) := takes_of rfl rfl rfl rfl
  have po : PassesOwn (model P w) (cxOf (L2.CX P w) P w K mg base N_l_planned (nm .l_planned) (defScope (st .l_planned)) (He.ga K (nm .l_planned)) cdv A outer s H E).A (cxOf (L2.CX P w) P w K mg base N_l_planned (nm .l_planned) (defScope (st .l_planned)) (He.ga K (nm .l_planned)) cdv A outer s H E).env (cxOf (L2.CX P w) P w K mg base N_l_planned (nm .l_planned) (defScope (st .l_planned)) (He.ga K (nm .l_planned)) cdv A outer s H E).xe := passes_of rfl
  exact (dss_cons (ds_set 1 sc_l_planned.nd rfl (by first | exact Or.inl rfl | exact Or.inr rfl) (de_newD (dk_cons (de_op od_add de_int (dcall (ih .l_digit) gd hr tk rfl rfl (da_cons (dv 0) (da_cons de_int da_nil)))) (dk_cons de_int (dk_cons de_int dk_nil))) (by decide) (by decide) (by simp) (by decide) (by decide) (by decide +kernel))) (dss_one (ds_ret (de_ix (dcall (ih .l_grove) gd hr tk rfl rfl (da_cons (dv 0) (da_cons (dv 1) (da_cons de_int da_nil)))) de_int))))
theorem bd_l_whole_one {fd : FuncData} (FD : FunD K (nm .l_whole_one) (nm .l_whole_one) (defArgs (st .l_whole_one)) (defBody (st .l_whole_one)) (defScope (st .l_whole_one)) [] [] (He.ga K (nm .l_whole_one)) fd) : Binds K fd (ps .l_whole_one) [] := FD.bindsN fun _ _ _ _ _ _ us hl => match us, hl with | [_], _ => rfl
theorem ok_l_whole_one (T : FT K mg) {n : Nat} (ih : ∀ y, CalM P w K mg base n (nm y) (ps y) (fns n y)) : CalM P w K mg base (n + 1) (nm .l_whole_one) (ps .l_whole_one) (fns (n + 1) .l_whole_one) := by
  refine calm_of T.toFacts .l_whole_one sc_l_whole_one (by decide) (fun fd FD => bd_l_whole_one FD) fun cdv A outer s H E gd hr => ?_
  have hu := hr.units
  have hu5 := room65 hr
  have hu1 := room1 hr
  have tk : Takes (cxOf (L2.CX P w) P w K mg base N_l_whole_one (nm .l_whole_one) (defScope (st .l_whole_one)) (He.ga K (nm .l_whole_one)) cdv A outer s H E) (fun cls d _ H => E cls d H) := takes_of rfl rfl rfl rfl
  have po : PassesOwn (model P w) (cxOf (L2.CX P w) P w K mg base N_l_whole_one (nm .l_whole_one) (defScope (st .l_whole_one)) (He.ga K (nm .l_whole_one)) cdv A outer s H E).A (cxOf (L2.CX P w) P w K mg base N_l_whole_one (nm .l_whole_one) (defScope (st .l_whole_one)) (He.ga K (nm .l_whole_one)) cdv A outer s H E).env (cxOf (L2.CX P w) P w K mg base N_l_whole_one (nm .l_whole_one) (defScope (st .l_whole_one)) (He.ga K (nm .l_whole_one)) cdv A outer s H E).xe := passes_of rfl
  exact (dss_one (ds_ret (de_and (de_isi ty_int (dv 0) rfl (T.fr "isinstance" (by decide +kernel)) rfl (T.fr "int" (by decide +kernel)) (by decide +kernel)) (de_one (de_not (de_isi ty_bool (dv 0) rfl (T.fr "isinstance" (by decide +kernel)) rfl (T.fr "bool" (by decide +kernel)) (by decide +kernel)))))))
theorem bd_l_reads_rule {fd : FuncData} (FD : FunD K (nm .l_reads_rule) (nm .l_reads_rule) (defArgs (st .l_reads_rule)) (defBody (st .l_reads_rule)) (defScope (st .l_reads_rule)) [] [] (He.ga K (nm .l_reads_rule)) fd) : Binds K fd (ps .l_reads_rule) [] := FD.bindsN fun _ _ _ _ _ _ us hl => match us, hl with | [_], _ => rfl
theorem ok_l_reads_rule (T : FT K mg) {n : Nat} (ih : ∀ y, CalM P w K mg base n (nm y) (ps y) (fns n y)) : CalM P w K mg base (n + 1) (nm .l_reads_rule) (ps .l_reads_rule) (fns (n + 1) .l_reads_rule) := by
  refine calm_of T.toFacts .l_reads_rule sc_l_reads_rule (by decide) (fun fd FD => bd_l_reads_rule FD) fun cdv A outer s H E gd hr => ?_
  have hu := hr.units
  have hu5 := room65 hr
  have hu1 := room1 hr
  have tk : Takes (cxOf (L2.CX P w) P w K mg base N_l_reads_rule (nm .l_reads_rule) (defScope (st .l_reads_rule)) (He.ga K (nm .l_reads_rule)) cdv A outer s H E) (fun cls d _ H => E cls d H) := takes_of rfl rfl rfl rfl
  have po : PassesOwn (model P w) (cxOf (L2.CX P w) P w K mg base N_l_reads_rule (nm .l_reads_rule) (defScope (st .l_reads_rule)) (He.ga K (nm .l_reads_rule)) cdv A outer s H E).A (cxOf (L2.CX P w) P w K mg base N_l_reads_rule (nm .l_reads_rule) (defScope (st .l_reads_rule)) (He.ga K (nm .l_reads_rule)) cdv A outer s H E).env (cxOf (L2.CX P w) P w K mg base N_l_reads_rule (nm .l_reads_rule) (defScope (st .l_reads_rule)) (He.ga K (nm .l_reads_rule)) cdv A outer s H E).xe := passes_of rfl
  exact (dss_cons (ds_if (dt_not (dt_val (de_isi ty_tuple (dv 0) rfl (T.fr "isinstance" (by decide +kernel)) rfl (T.fr "tuple" (by decide +kernel)) (by decide +kernel)))) (dss_one (ds_ret de_bl)) dss_nil) (dss_cons (ds_for po rfl (di_seq (dv 0)) (pg_name (i := 1) sc_l_reads_rule.nd rfl (by first | exact Or.inl rfl | exact Or.inr rfl)) (tgok_name _ 1) (dss_cons (ds_if (dt_w (dw_or (dt_not (dt_val (de_isi ty_tuple (dv 1) rfl (T.fr "isinstance" (by decide +kernel)) rfl (T.fr "tuple" (by decide +kernel)) (by decide +kernel)))) (dw_or (dt_not (dt_chain od_le od_le de_int (de_callB cd_len rfl (T.fr "len" (by decide +kernel)) (by decide +kernel) (da_cons (dv 1) da_nil)) de_int)) (dw_or1 (dt_not (dt_val (de_isi ty_str (de_ix (dv 1) de_int) rfl (T.fr "isinstance" (by decide +kernel)) rfl (T.fr "str" (by decide +kernel)) (by decide +kernel)))))))) (dss_one (ds_ret de_bl)) dss_nil) (dss_cons (ds_if (dt_cmp (od_notIn hu5) (de_ix (dv 1) de_int) (de_if (dt_cmp (od_eq hu) (de_callB cd_len rfl (T.fr "len" (by decide +kernel)) (by decide +kernel) (da_cons (dv 1) da_nil)) de_int) (de_lst (da_cons de_str (da_cons de_str da_nil))) (de_lst (da_cons de_str (da_cons de_str (da_cons de_str da_nil)))))) (dss_one (ds_ret de_bl)) dss_nil) (dss_one (ds_if (dt_w (dw_and (dt_cmp (od_eq hu) (de_callB cd_len rfl (T.fr "len" (by decide +kernel)) (by decide +kernel) (da_cons (dv 1) da_nil)) de_int) (dw_and1 (dt_w (dw_or (dt_not (dt_val (dcall (ih .l_whole_one) gd hr tk rfl rfl (da_cons (de_ix (dv 1) de_int) da_nil)))) (dw_or1 (dt_w (dw_and (dt_cmp (od_eq hu) (de_ix (dv 1) de_int) de_str) (dw_and1 (dt_cmp od_lt (de_ix (dv 1) de_int) de_int)))))))))) (dss_one (ds_ret de_bl)) dss_nil))))) (dss_one (ds_ret de_bl))))
theorem bd_l_reads_look {fd : FuncData} (FD : FunD K (nm .l_reads_look) (nm .l_reads_look) (defArgs (st .l_reads_look)) (defBody (st .l_reads_look)) (defScope (st .l_reads_look)) [] [] (He.ga K (nm .l_reads_look)) fd) : Binds K fd (ps .l_reads_look) [] := FD.bindsN fun _ _ _ _ _ _ us hl => match us, hl with | [_], _ => rfl
theorem ok_l_reads_look (T : FT K mg) {n : Nat} (ih : ∀ y, CalM P w K mg base n (nm y) (ps y) (fns n y)) : CalM P w K mg base (n + 1) (nm .l_reads_look) (ps .l_reads_look) (fns (n + 1) .l_reads_look) := by
  refine calm_of T.toFacts .l_reads_look sc_l_reads_look (by decide) (fun fd FD => bd_l_reads_look FD) fun cdv A outer s H E gd hr => ?_
  have hu := hr.units
  have hu5 := room65 hr
  have hu1 := room1 hr
  have tk : Takes (cxOf (L2.CX P w) P w K mg base N_l_reads_look (nm .l_reads_look) (defScope (st .l_reads_look)) (He.ga K (nm .l_reads_look)) cdv A outer s H E) (fun cls d _ H => E cls d H) := takes_of rfl rfl rfl rfl
  have po : PassesOwn (model P w) (cxOf (L2.CX P w) P w K mg base N_l_reads_look (nm .l_reads_look) (defScope (st .l_reads_look)) (He.ga K (nm .l_reads_look)) cdv A outer s H E).A (cxOf (L2.CX P w) P w K mg base N_l_reads_look (nm .l_reads_look) (defScope (st .l_reads_look)) (He.ga K (nm .l_reads_look)) cdv A outer s H E).env (cxOf (L2.CX P w) P w K mg base N_l_reads_look (nm .l_reads_look) (defScope (st .l_reads_look)) (He.ga K (nm .l_reads_look)) cdv A outer s H E).xe := passes_of rfl
  exact (dss_cons (ds_if (dt_w (dw_or (dt_not (dt_val (de_isi ty_tuple (dv 0) rfl (T.fr "isinstance" (by decide +kernel)) rfl (T.fr "tuple" (by decide +kernel)) (by decide +kernel)))) (dw_or (dt_cmp (od_notIn hu5) (de_callB cd_len rfl (T.fr "len" (by decide +kernel)) (by decide +kernel) (da_cons (dv 0) da_nil)) (de_tup (da_cons de_int (da_cons de_int da_nil)))) (dw_or1 (dt_not (dt_val (de_isi ty_str (de_ix (dv 0) de_int) rfl (T.fr "isinstance" (by decide +kernel)) rfl (T.fr "str" (by decide +kernel)) (by decide +kernel)))))))) (dss_one (ds_ret de_bl)) dss_nil) (dss_cons (ds_if (dt_cmp (od_eq hu) (de_callB cd_len rfl (T.fr "len" (by decide +kernel)) (by decide +kernel) (da_cons (dv 0) da_nil)) de_int) (dss_one (ds_ret (de_and (de_cmp (od_eq hu) (de_ix (dv 0) de_int) de_str) (de_one (dcall (ih .l_whole_one) gd hr tk rfl rfl (da_cons (de_ix (dv 0) de_int) da_nil)))))) dss_nil) (dss_cons (ds_if (dt_cmp (od_eq hu) (de_ix (dv 0) de_int) de_str) (dss_one (ds_ret (de_and (dcall (ih .l_reads_rule) gd hr tk rfl rfl (da_cons (de_ix (dv 0) de_int) da_nil)) (de_one (dcall (ih .l_reads_test) gd hr tk rfl rfl (da_cons (de_ix (dv 0) de_int) da_nil)))))) dss_nil) (dss_cons (ds_if (dt_w (dw_or (dt_cmp (od_ne hu) (de_ix (dv 0) de_int) de_str) (dw_or (dt_not (dt_val (dcall (ih .l_whole_one) gd hr tk rfl rfl (da_cons (de_ix (dv 0) de_int) da_nil)))) (dw_or1 (dt_not (dt_val (dcall (ih .l_whole_one) gd hr tk rfl rfl (da_cons (de_ix (dv 0) de_int) da_nil)))))))) (dss_one (ds_ret de_bl)) dss_nil) (dss_one (ds_ret (de_chain od_le od_lt de_int (de_ix (dv 0) de_int) (de_ix (dv 0) de_int))))))))
theorem bd_l_reads_test {fd : FuncData} (FD : FunD K (nm .l_reads_test) (nm .l_reads_test) (defArgs (st .l_reads_test)) (defBody (st .l_reads_test)) (defScope (st .l_reads_test)) [] [] (He.ga K (nm .l_reads_test)) fd) : Binds K fd (ps .l_reads_test) [] := FD.bindsN fun _ _ _ _ _ _ us hl => match us, hl with | [_], _ => rfl
theorem ok_l_reads_test (T : FT K mg) {n : Nat} (ih : ∀ y, CalM P w K mg base n (nm y) (ps y) (fns n y)) : CalM P w K mg base (n + 1) (nm .l_reads_test) (ps .l_reads_test) (fns (n + 1) .l_reads_test) := by
  refine calm_of T.toFacts .l_reads_test sc_l_reads_test (by decide) (fun fd FD => bd_l_reads_test FD) fun cdv A outer s H E gd hr => ?_
  have hu := hr.units
  have hu5 := room65 hr
  have hu1 := room1 hr
  have tk : Takes (cxOf (L2.CX P w) P w K mg base N_l_reads_test (nm .l_reads_test) (defScope (st .l_reads_test)) (He.ga K (nm .l_reads_test)) cdv A outer s H E) (fun cls d _ H => E cls d H) := takes_of rfl rfl rfl rfl
  have po : PassesOwn (model P w) (cxOf (L2.CX P w) P w K mg base N_l_reads_test (nm .l_reads_test) (defScope (st .l_reads_test)) (He.ga K (nm .l_reads_test)) cdv A outer s H E).A (cxOf (L2.CX P w) P w K mg base N_l_reads_test (nm .l_reads_test) (defScope (st .l_reads_test)) (He.ga K (nm .l_reads_test)) cdv A outer s H E).env (cxOf (L2.CX P w) P w K mg base N_l_reads_test (nm .l_reads_test) (defScope (st .l_reads_test)) (He.ga K (nm .l_reads_test)) cdv A outer s H E).xe := passes_of rfl
  exact (dss_one (ds_ret (de_and (de_isi ty_tuple (dv 0) rfl (T.fr "isinstance" (by decide +kernel)) rfl (T.fr "tuple" (by decide +kernel)) (by decide +kernel)) (de_one (de_cmp (od_eq hu) (de_compIf (own := [("_law_one", 1)]) rfl sc_l_reads_test.nd (di_seq (dv 0)) (blkOk_by (own := [("_law_one", 1)]) (N := N_l_reads_test) (sc := defScope (st .l_reads_test)) (by decide +kernel)) (fun _ _ _ _ _ => (pg_name (i := 1) sc_l_reads_test.nd rfl (by first | exact Or.inl rfl | exact Or.inr rfl))) (tgok_name _ 1) (by decide) (fun _ _ _ _ _ => (dt_not (dt_val (dcall (ih .l_reads_look) gd hr takes0 rfl rfl (da_cons (dv 1) da_nil))))) (fun _ _ _ _ _ => (dv 1))) (de_lst da_nil))))))
theorem bd_l_reads_part {fd : FuncData} (FD : FunD K (nm .l_reads_part) (nm .l_reads_part) (defArgs (st .l_reads_part)) (defBody (st .l_reads_part)) (defScope (st .l_reads_part)) [] [] (He.ga K (nm .l_reads_part)) fd) : Binds K fd (ps .l_reads_part) [] := FD.bindsN fun _ _ _ _ _ _ us hl => match us, hl with | [_, _], _ => rfl
theorem ok_l_reads_part (T : FT K mg) {n : Nat} (ih : ∀ y, CalM P w K mg base n (nm y) (ps y) (fns n y)) : CalM P w K mg base (n + 1) (nm .l_reads_part) (ps .l_reads_part) (fns (n + 1) .l_reads_part) := by
  refine calm_of T.toFacts .l_reads_part sc_l_reads_part (by decide) (fun fd FD => bd_l_reads_part FD) fun cdv A outer s H E gd hr => ?_
  have hu := hr.units
  have hu5 := room65 hr
  have hu1 := room1 hr
  have tk : Takes (cxOf (L2.CX P w) P w K mg base N_l_reads_part (nm .l_reads_part) (defScope (st .l_reads_part)) (He.ga K (nm .l_reads_part)) cdv A outer s H E) (fun cls d _ H => E cls d H) := takes_of rfl rfl rfl rfl
  have po : PassesOwn (model P w) (cxOf (L2.CX P w) P w K mg base N_l_reads_part (nm .l_reads_part) (defScope (st .l_reads_part)) (He.ga K (nm .l_reads_part)) cdv A outer s H E).A (cxOf (L2.CX P w) P w K mg base N_l_reads_part (nm .l_reads_part) (defScope (st .l_reads_part)) (He.ga K (nm .l_reads_part)) cdv A outer s H E).env (cxOf (L2.CX P w) P w K mg base N_l_reads_part (nm .l_reads_part) (defScope (st .l_reads_part)) (He.ga K (nm .l_reads_part)) cdv A outer s H E).xe := passes_of rfl
  exact (dss_cons (ds_if (dt_cmp (od_eq hu) (dv 0) de_str) (dss_one (ds_ret (dcall (ih .l_reads_plan) gd hr tk rfl rfl (da_cons (dv 1) da_nil)))) dss_nil) (dss_cons (ds_if (dt_cmp (od_eq hu) (dv 0) de_str) (dss_one (ds_ret (dcall (ih .l_reads_rule) gd hr tk rfl rfl (da_cons (dv 1) da_nil)))) dss_nil) (dss_cons (ds_if (dt_cmp (od_eq hu) (dv 0) de_str) (dss_one (ds_ret (dcall (ih .l_reads_test) gd hr tk rfl rfl (da_cons (dv 1) da_nil)))) dss_nil) (dss_cons (ds_if (dt_cmp (od_eq hu) (dv 0) de_str) (dss_cons (ds_set 2 sc_l_reads_part.nd rfl (by first | exact Or.inl rfl | exact Or.inr rfl) de_str) (dss_one (ds_ret (de_and (de_isi ty_str (dv 1) rfl (T.fr "isinstance" (by decide +kernel)) rfl (T.fr "str" (by decide +kernel)) (by decide +kernel)) (de_and (de_chain od_le od_le de_int (de_callB cd_len rfl (T.fr "len" (by decide +kernel)) (by decide +kernel) (da_cons (dv 1) da_nil)) de_int) (de_one (de_cmp (od_eq hu) (de_compIf (own := [("_law_sign", 5)]) rfl sc_l_reads_part.nd (di_chars (dv 1)) (blkOk_by (own := [("_law_sign", 5)]) (N := N_l_reads_part) (sc := defScope (st .l_reads_part)) (by decide +kernel)) (fun _ _ _ _ _ => (pg_name (i := 5) sc_l_reads_part.nd rfl (by first | exact Or.inl rfl | exact Or.inr rfl))) (tgok_name _ 5) (by decide) (fun _ _ _ _ _ => (dt_cmp od_notInS (dv 5) (dv 2))) (fun _ _ _ _ _ => (dv 5))) (de_lst da_nil)))))))) dss_nil) (dss_cons (ds_if (dt_cmp (od_in hu5) (dv 0) (de_tup (da_cons de_str (da_cons de_str (da_cons de_str da_nil))))) (dss_cons (ds_if (dt_not (dt_val (de_isi ty_tuple (dv 1) rfl (T.fr "isinstance" (by decide +kernel)) rfl (T.fr "tuple" (by decide +kernel)) (by decide +kernel)))) (dss_one (ds_ret de_bl)) dss_nil) (dss_cons (ds_if (dt_cmp (od_eq hu) (dv 0) de_str) (dss_one (ds_ret (de_cmp (od_eq hu) (de_compIf (own := [("_law_one", 6)]) rfl sc_l_reads_part.nd (di_seq (dv 1)) (blkOk_by (own := [("_law_one", 6)]) (N := N_l_reads_part) (sc := defScope (st .l_reads_part)) (by decide +kernel)) (fun _ _ _ _ _ => (pg_name (i := 6) sc_l_reads_part.nd rfl (by first | exact Or.inl rfl | exact Or.inr rfl))) (tgok_name _ 6) (by decide) (fun _ _ _ _ _ => (dt_not (dt_val (dcall (ih .l_whole_one) gd hr takes0 rfl rfl (da_cons (dv 6) da_nil))))) (fun _ _ _ _ _ => (dv 6))) (de_lst da_nil)))) dss_nil) (dss_cons (ds_if (dt_w (dw_or (dt_cmp od_gt (de_callB cd_len rfl (T.fr "len" (by decide +kernel)) (by decide +kernel) (da_cons (dv 1) da_nil)) de_int) (dw_or1 (dt_w (dw_and (dt_cmp (od_eq hu) (dv 0) de_str) (dw_and1 (dt_cmp (od_eq hu) (dv 1) (de_tup da_nil)))))))) (dss_one (ds_ret de_bl)) dss_nil) (dss_one (ds_ret (de_cmp (od_eq hu) (de_compIf (own := [("_law_one", 6)]) rfl sc_l_reads_part.nd (di_seq (dv 1)) (blkOk_by (own := [("_law_one", 6)]) (N := N_l_reads_part) (sc := defScope (st .l_reads_part)) (by decide +kernel)) (fun _ _ _ _ _ => (pg_name (i := 6) sc_l_reads_part.nd rfl (by first | exact Or.inl rfl | exact Or.inr rfl))) (tgok_name _ 6) (by decide) (fun _ _ _ _ _ => (dt_not (dt_val (dcall (ih .l_reads_plan) gd hr takes0 rfl rfl (da_cons (dv 6) da_nil))))) (fun _ _ _ _ _ => (dv 6))) (de_lst da_nil))))))) dss_nil) (dss_cons (ds_if (dt_not (dt_val (dcall (ih .l_whole_one) gd hr tk rfl rfl (da_cons (dv 1) da_nil)))) (dss_one (ds_ret de_bl)) dss_nil) (dss_cons (ds_if (dt_cmp (od_eq hu) (dv 0) de_str) (dss_one (ds_ret de_bl)) dss_nil) (dss_cons (ds_if (dt_cmp (od_eq hu) (dv 0) de_str) (dss_one (ds_ret (de_cmp od_gt (dv 1) de_int))) dss_nil) (dss_cons (ds_asg (de_dispGet hu1 (dk_cons (de_tup (da_cons de_int (da_cons de_int da_nil))) (dk_cons (de_tup (da_cons de_int (da_cons de_int da_nil))) (dk_cons (de_tup (da_cons de_int (da_cons de_int da_nil))) dk_nil))) (dv 0) (by decide) (by decide) (by simp) (by decide) (by decide) (by decide +kernel)) (dg_pair rfl (dg_name 3 sc_l_reads_part.nd rfl (by first | exact Or.inl rfl | exact Or.inr rfl)) (dg_name 4 sc_l_reads_part.nd rfl (by first | exact Or.inl rfl | exact Or.inr rfl)))) (dss_one (ds_ret (de_chain od_le od_le (dv 3) (dv 1) (dv 4)))))))))))))
theorem bd_l_sorts {fd : FuncData} (FD : FunD K (nm .l_sorts) (nm .l_sorts) (defArgs (st .l_sorts)) (defBody (st .l_sorts)) (defScope (st .l_sorts)) [] [] (He.ga K (nm .l_sorts)) fd) : Binds K fd (ps .l_sorts) [] := FD.bindsN fun _ _ _ _ _ _ us hl => match us, hl with | [_], _ => rfl
theorem ok_l_sorts (T : FT K mg) {n : Nat} (ih : ∀ y, CalM P w K mg base n (nm y) (ps y) (fns n y)) : CalM P w K mg base (n + 1) (nm .l_sorts) (ps .l_sorts) (fns (n + 1) .l_sorts) := by
  refine calm_of T.toFacts .l_sorts sc_l_sorts (by decide) (fun fd FD => bd_l_sorts FD) fun cdv A outer s H E gd hr => ?_
  have hu := hr.units
  have hu5 := room65 hr
  have hu1 := room1 hr
  have tk : Takes (cxOf (L2.CX P w) P w K mg base N_l_sorts (nm .l_sorts) (defScope (st .l_sorts)) (He.ga K (nm .l_sorts)) cdv A outer s H E) (fun cls d _ H => E cls d H) := takes_of rfl rfl rfl rfl
  have po : PassesOwn (model P w) (cxOf (L2.CX P w) P w K mg base N_l_sorts (nm .l_sorts) (defScope (st .l_sorts)) (He.ga K (nm .l_sorts)) cdv A outer s H E).A (cxOf (L2.CX P w) P w K mg base N_l_sorts (nm .l_sorts) (defScope (st .l_sorts)) (He.ga K (nm .l_sorts)) cdv A outer s H E).env (cxOf (L2.CX P w) P w K mg base N_l_sorts (nm .l_sorts) (defScope (st .l_sorts)) (He.ga K (nm .l_sorts)) cdv A outer s H E).xe := passes_of rfl
  exact (dss_cons (ds_set 1 sc_l_sorts.nd rfl (by first | exact Or.inl rfl | exact Or.inr rfl) (de_newD (dk_cons de_str (dk_cons de_str (dk_cons de_str (dk_cons de_str (dk_cons de_str dk_nil))))) (by decide) (by decide) (by simp) (by decide) (by decide) (by decide +kernel))) (dss_cons (ds_if (dt_cmp (od_in hu5) (dv 0) (de_tup (da_cons de_str (da_cons de_str da_nil)))) (dss_one (ds_ret (de_lst (da_cons de_str (da_cons de_str da_nil))))) dss_nil) (dss_cons (ds_if (dt_cmp (od_in hu5) (dv 0) (de_tup (da_cons de_str (da_cons de_str da_nil)))) (dss_one (ds_ret (de_lst (da_cons de_str (da_cons de_str da_nil))))) dss_nil) (dss_cons (ds_if (dt_cmp (od_in hu5) (dv 0) (de_tup (da_cons de_str (da_cons de_str da_nil)))) (dss_one (ds_ret (de_lst (da_cons (de_ix (de_lst (da_cons de_str (da_cons de_str da_nil))) (de_callTy cd_intB rfl (T.fr "int" (by decide +kernel)) (by decide +kernel) (da_cons (de_cmp (od_eq hu) (dv 0) de_str) da_nil))) da_nil)))) dss_nil) (dss_cons (ds_set 2 sc_l_sorts.nd rfl (by first | exact Or.inl rfl | exact Or.inr rfl) (de_newD (dk_cons de_str (dk_cons de_str (dk_cons de_str (dk_cons de_str dk_nil)))) (by decide) (by decide) (by simp) (by decide) (by decide) (by decide +kernel))) (dss_cons (ds_if (dt_cmp (od_eq hu) (dv 0) de_str) (dss_one (ds_ret (de_lst (da_cons de_str (da_cons de_str (da_cons de_str da_nil)))))) dss_nil) (dss_one (ds_ret (de_split (de_get2 hu1 (dv 1) (dv 0) (de_get2 hu1 (dv 2) (dv 0) de_str ⟨rfl, rfl, rfl, rfl⟩) ⟨rfl, rfl, rfl, rfl⟩) de_str)))))))))
theorem bd_l_reads_plan {fd : FuncData} (FD : FunD K (nm .l_reads_plan) (nm .l_reads_plan) (defArgs (st .l_reads_plan)) (defBody (st .l_reads_plan)) (defScope (st .l_reads_plan)) [] [] (He.ga K (nm .l_reads_plan)) fd) : Binds K fd (ps .l_reads_plan) [] := FD.bindsN fun _ _ _ _ _ _ us hl => match us, hl with | [_], _ => rfl
theorem ok_l_reads_plan (T : FT K mg) {n : Nat} (ih : ∀ y, CalM P w K mg base n (nm y) (ps y) (fns n y)) : CalM P w K mg base (n + 1) (nm .l_reads_plan) (ps .l_reads_plan) (fns (n + 1) .l_reads_plan) := by
  refine calm_of T.toFacts .l_reads_plan sc_l_reads_plan (by decide) (fun fd FD => bd_l_reads_plan FD) fun cdv A outer s H E gd hr => ?_
  have hu := hr.units
  have hu5 := room65 hr
  have hu1 := room1 hr
  have tk : Takes (cxOf (L2.CX P w) P w K mg base N_l_reads_plan (nm .l_reads_plan) (defScope (st .l_reads_plan)) (He.ga K (nm .l_reads_plan)) cdv A outer s H E) (fun cls d _ H => E cls d H) := takes_of rfl rfl rfl rfl
  have po : PassesOwn (model P w) (cxOf (L2.CX P w) P w K mg base N_l_reads_plan (nm .l_reads_plan) (defScope (st .l_reads_plan)) (He.ga K (nm .l_reads_plan)) cdv A outer s H E).A (cxOf (L2.CX P w) P w K mg base N_l_reads_plan (nm .l_reads_plan) (defScope (st .l_reads_plan)) (He.ga K (nm .l_reads_plan)) cdv A outer s H E).env (cxOf (L2.CX P w) P w K mg base N_l_reads_plan (nm .l_reads_plan) (defScope (st .l_reads_plan)) (He.ga K (nm .l_reads_plan)) cdv A outer s H E).xe := passes_of rfl
  exact (dss_cons (ds_if (dt_w (dw_or (dt_not (dt_val (de_isi ty_tuple (dv 0) rfl (T.fr "isinstance" (by decide +kernel)) rfl (T.fr "tuple" (by decide +kernel)) (by decide +kernel)))) (dw_or (dt_cmp od_lt (de_callB cd_len rfl (T.fr "len" (by decide +kernel)) (by decide +kernel) (da_cons (dv 0) da_nil)) de_int) (dw_or1 (dt_not (dt_val (de_isi ty_str (de_ix (dv 0) de_int) rfl (T.fr "isinstance" (by decide +kernel)) rfl (T.fr "str" (by decide +kernel)) (by decide +kernel)))))))) (dss_one (ds_ret de_bl)) dss_nil) (dss_cons (ds_set 1 sc_l_reads_plan.nd rfl (by first | exact Or.inl rfl | exact Or.inr rfl) (dcall (ih .l_sorts) gd hr tk rfl rfl (da_cons (de_ix (dv 0) de_int) da_nil))) (dss_cons (ds_if (dt_w (dw_or (dt_cmp (od_eq hu) (dv 1) (de_lst (da_cons de_str da_nil))) (dw_or1 (dt_cmp (od_ne hu) (de_callB cd_len rfl (T.fr "len" (by decide +kernel)) (by decide +kernel) (da_cons (dv 1) da_nil)) (de_op od_sub (de_callB cd_len rfl (T.fr "len" (by decide +kernel)) (by decide +kernel) (da_cons (dv 0) da_nil)) de_int))))) (dss_one (ds_ret de_bl)) dss_nil) (dss_one (ds_ret (de_cmp (od_eq hu) (de_compIf (own := [("_law_k", 2), ("_law_sort", 3)]) rfl sc_l_reads_plan.nd (di_enum rfl (T.fr "enumerate" (by decide +kernel)) (dv 1)) (blkOk_by (own := [("_law_k", 2), ("_law_sort", 3)]) (N := N_l_reads_plan) (sc := defScope (st .l_reads_plan)) (by decide +kernel)) (fun _ _ _ _ _ => (pg_tup rfl (pgs_cons (pg_name (i := 2) sc_l_reads_plan.nd rfl (by first | exact Or.inl rfl | exact Or.inr rfl)) (pgs_cons (pg_name (i := 3) sc_l_reads_plan.nd rfl (by first | exact Or.inl rfl | exact Or.inr rfl)) pgs_nil)))) (tgok_pair _ 2 3) (by decide) (fun _ _ _ _ _ => (dt_not (dt_val (dcall (ih .l_reads_part) gd hr takes0 rfl rfl (da_cons (dv 3) (da_cons (de_ix (dv 0) (de_op od_add (dv 2) de_int)) da_nil)))))) (fun _ _ _ _ _ => (dv 2))) (de_lst da_nil)))))))
theorem bd_l_spoilt {fd : FuncData} (FD : FunD K (nm .l_spoilt) (nm .l_spoilt) (defArgs (st .l_spoilt)) (defBody (st .l_spoilt)) (defScope (st .l_spoilt)) [] [] (He.ga K (nm .l_spoilt)) fd) : Binds K fd (ps .l_spoilt) [] := FD.bindsN fun _ _ _ _ _ _ us hl => match us, hl with | [_, _], _ => rfl
theorem ok_l_spoilt (T : FT K mg) {n : Nat} (ih : ∀ y, CalM P w K mg base n (nm y) (ps y) (fns n y)) : CalM P w K mg base (n + 1) (nm .l_spoilt) (ps .l_spoilt) (fns (n + 1) .l_spoilt) := by
  refine calm_of T.toFacts .l_spoilt sc_l_spoilt (by decide) (fun fd FD => bd_l_spoilt FD) fun cdv A outer s H E gd hr => ?_
  have hu := hr.units
  have hu5 := room65 hr
  have hu1 := room1 hr
  have tk : Takes (cxOf (L2.CX P w) P w K mg base N_l_spoilt (nm .l_spoilt) (defScope (st .l_spoilt)) (He.ga K (nm .l_spoilt)) cdv A outer s H E) (fun cls d _ H => E cls d H) := takes_of rfl rfl rfl rfl
  have po : PassesOwn (model P w) (cxOf (L2.CX P w) P w K mg base N_l_spoilt (nm .l_spoilt) (defScope (st .l_spoilt)) (He.ga K (nm .l_spoilt)) cdv A outer s H E).A (cxOf (L2.CX P w) P w K mg base N_l_spoilt (nm .l_spoilt) (defScope (st .l_spoilt)) (He.ga K (nm .l_spoilt)) cdv A outer s H E).env (cxOf (L2.CX P w) P w K mg base N_l_spoilt (nm .l_spoilt) (defScope (st .l_spoilt)) (He.ga K (nm .l_spoilt)) cdv A outer s H E).xe := passes_of rfl
  exact (dss_cons (ds_set 2 sc_l_spoilt.nd rfl (by first | exact Or.inl rfl | exact Or.inr rfl) (de_lst (da_cons de_non (da_cons de_bl (da_cons de_bl (da_cons de_int (da_cons (de_un ud_neg de_int) (da_cons de_int (da_cons de_int (da_cons de_int (da_cons de_int (da_cons de_int (da_cons (de_op od_pow de_int de_int) (da_cons de_str (da_cons de_str (da_cons de_str (da_cons de_str (da_cons de_str (da_cons de_str (da_cons de_str da_nil)))))))))))))))))))) (dss_cons (ds_set 2 sc_l_spoilt.nd rfl (by first | exact Or.inl rfl | exact Or.inr rfl) (de_op od_add (dv 2) (de_lst (da_cons de_str (da_cons de_str (da_cons de_str (da_cons de_str (da_cons de_str (da_cons de_str (da_cons de_str (da_cons de_str (da_cons de_str (da_cons de_str (da_cons de_str (da_cons de_str da_nil))))))))))))))) (dss_cons (ds_set 2 sc_l_spoilt.nd rfl (by first | exact Or.inl rfl | exact Or.inr rfl) (de_op od_add (dv 2) (de_lst (da_cons de_str (da_cons de_str (da_cons de_str (da_cons (de_tup da_nil) (da_cons (de_lst da_nil) (da_cons (de_tup (da_cons de_str da_nil)) (da_cons (de_tup (da_cons de_str (da_cons (de_tup (da_cons de_int da_nil)) da_nil))) (da_cons (de_tup (da_cons de_str (da_cons de_int da_nil))) (da_cons (de_tup (da_cons (de_tup (da_cons de_str (da_cons de_int da_nil))) da_nil)) da_nil)))))))))))) (dss_cons (ds_set 2 sc_l_spoilt.nd rfl (by first | exact Or.inl rfl | exact Or.inr rfl) (de_op od_add (dv 2) (de_lst (da_cons (de_tup (da_cons de_str (da_cons (de_tup da_nil) da_nil))) (da_cons de_str da_nil))))) (dss_cons (ds_set 3 sc_l_spoilt.nd rfl (by first | exact Or.inl rfl | exact Or.inr rfl) (de_ix (dv 2) (dcall (ih .l_digit) gd hr tk rfl rfl (da_cons (dv 0) (da_cons (de_callB cd_len rfl (T.fr "len" (by decide +kernel)) (by decide +kernel) (da_cons (dv 2) da_nil)) da_nil))))) (dss_cons (ds_set 4 sc_l_spoilt.nd rfl (by first | exact Or.inl rfl | exact Or.inr rfl) (dcall (ih .l_digit) gd hr tk rfl rfl (da_cons (dv 0) (da_cons de_int da_nil)))) (dss_cons (ds_if (dt_w (dw_or (dt_not (dt_val (de_isi ty_tuple (dv 1) rfl (T.fr "isinstance" (by decide +kernel)) rfl (T.fr "tuple" (by decide +kernel)) (by decide +kernel)))) (dw_or1 (dt_w (dw_and (dt_cmp (od_eq hu) (dv 4) de_int) (dw_and1 (dt_cmp (od_eq hu) (dcall (ih .l_digit) gd hr tk rfl rfl (da_cons (dv 0) (da_cons de_int da_nil))) de_int))))))) (dss_one (ds_ret (dv 3))) dss_nil) (dss_cons (ds_set 5 sc_l_spoilt.nd rfl (by first | exact Or.inl rfl | exact Or.inr rfl) (dcall (ih .l_digit) gd hr tk rfl rfl (da_cons (dv 0) (da_cons (de_op od_add (de_callB cd_len rfl (T.fr "len" (by decide +kernel)) (by decide +kernel) (da_cons (dv 1) da_nil)) de_int) da_nil)))) (dss_cons (ds_if (dt_w (dw_and (dt_cmp (od_eq hu) (dv 4) de_int) (dw_and1 (dt_cmp od_lt (dv 5) (de_callB cd_len rfl (T.fr "len" (by decide +kernel)) (by decide +kernel) (da_cons (dv 1) da_nil)))))) (dss_one (ds_ret (de_op od_add (de_sl (dv 1) dp_no (dp_at (dv 5))) (de_sl (dv 1) (dp_at (de_op od_add (dv 5) de_int)) dp_no)))) dss_nil) (dss_cons (ds_if (dt_w (dw_or (dt_cmp (od_eq hu) (dv 4) de_int) (dw_or1 (dt_cmp (od_eq hu) (dv 5) (de_callB cd_len rfl (T.fr "len" (by decide +kernel)) (by decide +kernel) (da_cons (dv 1) da_nil)))))) (dss_one (ds_ret (de_op od_add (de_op od_add (de_sl (dv 1) dp_no (dp_at (dv 5))) (de_tup (da_cons (dv 3) da_nil))) (de_sl (dv 1) (dp_at (dv 5)) dp_no)))) dss_nil) (dss_one (ds_ret (de_op od_add (de_op od_add (de_sl (dv 1) dp_no (dp_at (dv 5))) (de_tup (da_cons (dcall (ih .l_spoilt) gd hr tk rfl rfl (da_cons (dv 0) (da_cons (de_ix (dv 1) (dv 5)) da_nil))) da_nil))) (de_sl (dv 1) (dp_at (de_op od_add (dv 5) de_int)) dp_no))))))))))))))
theorem bd_l_judged {fd : FuncData} (FD : FunD K (nm .l_judged) (nm .l_judged) (defArgs (st .l_judged)) (defBody (st .l_judged)) (defScope (st .l_judged)) [] [] (He.ga K (nm .l_judged)) fd) : Binds K fd (ps .l_judged) [] := FD.bindsN fun _ _ _ _ _ _ us hl => match us, hl with | [_], _ => rfl
theorem ok_l_judged (T : FT K mg) {n : Nat} (ih : ∀ y, CalM P w K mg base n (nm y) (ps y) (fns n y)) : CalM P w K mg base (n + 1) (nm .l_judged) (ps .l_judged) (fns (n + 1) .l_judged) := by
  refine calm_of T.toFacts .l_judged sc_l_judged (by decide) (fun fd FD => bd_l_judged FD) fun cdv A outer s H E gd hr => ?_
  have hu := hr.units
  have hu5 := room65 hr
  have hu1 := room1 hr
  have tk : Takes (cxOf (L2.CX P w) P w K mg base N_l_judged (nm .l_judged) (defScope (st .l_judged)) (He.ga K (nm .l_judged)) cdv A outer s H E) (fun cls d _ H => E cls d H) := takes_of rfl rfl rfl rfl
  have po : PassesOwn (model P w) (cxOf (L2.CX P w) P w K mg base N_l_judged (nm .l_judged) (defScope (st .l_judged)) (He.ga K (nm .l_judged)) cdv A outer s H E).A (cxOf (L2.CX P w) P w K mg base N_l_judged (nm .l_judged) (defScope (st .l_judged)) (He.ga K (nm .l_judged)) cdv A outer s H E).env (cxOf (L2.CX P w) P w K mg base N_l_judged (nm .l_judged) (defScope (st .l_judged)) (He.ga K (nm .l_judged)) cdv A outer s H E).xe := passes_of rfl
  exact (dss_cons (ds_set 1 sc_l_judged.nd rfl (by first | exact Or.inl rfl | exact Or.inr rfl) (de_callB (cd_reprA gd hu) rfl (T.fr "repr" (by decide +kernel)) (by decide +kernel) (da_cons (dv 0) da_nil))) (dss_cons (ds_set 2 sc_l_judged.nd rfl (by first | exact Or.inl rfl | exact Or.inr rfl) (dcall (ih .is_plan) gd hr tk rfl rfl (da_cons (dv 0) da_nil))) (dss_one (ds_ret (de_and (de_isi ty_bool (dv 2) rfl (T.fr "isinstance" (by decide +kernel)) rfl (T.fr "bool" (by decide +kernel)) (by decide +kernel)) (de_and (de_cmp (od_eq hu) (dv 2) (dcall (ih .l_reads_plan) gd hr tk rfl rfl (da_cons (dv 0) da_nil))) (de_one (de_cmp od_eqS (de_callB (cd_reprA gd hu) rfl (T.fr "repr" (by decide +kernel)) (by decide +kernel) (da_cons (dv 0) da_nil)) (dv 1)))))))))
theorem bd_l_borders {fd : FuncData} (FD : FunD K (nm .l_borders) (nm .l_borders) (defArgs (st .l_borders)) (defBody (st .l_borders)) (defScope (st .l_borders)) [] [] (He.ga K (nm .l_borders)) fd) : Binds K fd (ps .l_borders) [] := FD.bindsN fun _ _ _ _ _ _ us hl => match us, hl with | [_], _ => rfl
theorem ok_l_borders (T : FT K mg) {n : Nat} (ih : ∀ y, CalM P w K mg base n (nm y) (ps y) (fns n y)) : CalM P w K mg base (n + 1) (nm .l_borders) (ps .l_borders) (fns (n + 1) .l_borders) := by
  refine calm_of T.toFacts .l_borders sc_l_borders (by decide) (fun fd FD => bd_l_borders FD) fun cdv A outer s H E gd hr => ?_
  have hu := hr.units
  have hu5 := room65 hr
  have hu1 := room1 hr
  have tk : Takes (cxOf (L2.CX P w) P w K mg base N_l_borders (nm .l_borders) (defScope (st .l_borders)) (He.ga K (nm .l_borders)) cdv A outer s H E) (fun cls d _ H => E cls d H) := takes_of rfl rfl rfl rfl
  have po : PassesOwn (model P w) (cxOf (L2.CX P w) P w K mg base N_l_borders (nm .l_borders) (defScope (st .l_borders)) (He.ga K (nm .l_borders)) cdv A outer s H E).A (cxOf (L2.CX P w) P w K mg base N_l_borders (nm .l_borders) (defScope (st .l_borders)) (He.ga K (nm .l_borders)) cdv A outer s H E).env (cxOf (L2.CX P w) P w K mg base N_l_borders (nm .l_borders) (defScope (st .l_borders)) (He.ga K (nm .l_borders)) cdv A outer s H E).xe := passes_of rfl
  exact (dss_cons (ds_set 1 sc_l_borders.nd rfl (by first | exact Or.inl rfl | exact Or.inr rfl) (de_lst da_nil)) (dss_cons (ds_for po rfl (di_seq (de_tup (da_cons de_int (da_cons de_int (da_cons de_int (da_cons de_int da_nil)))))) (pg_name (i := 2) sc_l_borders.nd rfl (by first | exact Or.inl rfl | exact Or.inr rfl)) (tgok_name _ 2) (dss_one (ds_set 1 sc_l_borders.nd rfl (by first | exact Or.inl rfl | exact Or.inr rfl) (de_op od_add (dv 1) (de_lst (da_cons (de_tup (da_cons de_str (da_cons (de_op od_mulT (de_tup (da_cons (dv 0) da_nil)) (dv 2)) da_nil))) (da_cons (de_tup (da_cons de_str (da_cons (de_op od_mulT (de_tup (da_cons (dv 0) da_nil)) (dv 2)) da_nil))) da_nil))))))) (dss_cons (ds_for po rfl (di_seq (de_tup (da_cons de_int (da_cons de_int (da_cons de_int (da_cons de_int (da_cons (de_un ud_neg de_int) da_nil))))))) (pg_name (i := 3) sc_l_borders.nd rfl (by first | exact Or.inl rfl | exact Or.inr rfl)) (tgok_name _ 3) (dss_one (ds_set 1 sc_l_borders.nd rfl (by first | exact Or.inl rfl | exact Or.inr rfl) (de_op od_add (dv 1) (de_lst (da_cons (de_tup (da_cons de_str (da_cons (dv 3) (da_cons (dv 0) da_nil)))) (da_cons (de_tup (da_cons de_str (da_cons (dv 3) (da_cons (dv 0) da_nil)))) (da_cons (de_tup (da_cons de_str (da_cons (dv 3) (da_cons de_str (da_cons (dv 0) da_nil))))) (da_cons (de_tup (da_cons de_str (da_cons (dv 3) (da_cons (dv 3) (da_cons (dv 3) da_nil))))) da_nil))))))))) (dss_cons (ds_for po rfl (di_seq (de_tup (da_cons de_int (da_cons de_int (da_cons de_int (da_cons de_int da_nil)))))) (pg_name (i := 3) sc_l_borders.nd rfl (by first | exact Or.inl rfl | exact Or.inr rfl)) (tgok_name _ 3) (dss_one (ds_set 1 sc_l_borders.nd rfl (by first | exact Or.inl rfl | exact Or.inr rfl) (de_op od_add (dv 1) (de_lst (da_cons (de_tup (da_cons de_str (da_cons (dv 3) (da_cons de_int (da_cons (dv 0) da_nil))))) (da_cons (de_tup (da_cons de_str (da_cons de_int (da_cons (dv 3) (da_cons (dv 0) da_nil))))) (da_cons (de_tup (da_cons de_str (da_cons (dv 3) (da_cons (dv 0) da_nil)))) da_nil)))))))) (dss_cons (ds_set 1 sc_l_borders.nd rfl (by first | exact Or.inl rfl | exact Or.inr rfl) (de_op od_add (dv 1) (de_lst (da_cons (de_tup (da_cons de_str (da_cons de_int da_nil))) (da_cons (de_tup (da_cons de_str (da_cons de_int da_nil))) (da_cons (de_tup (da_cons de_str (da_cons de_int da_nil))) (da_cons (de_tup (da_cons de_str (da_cons (de_un ud_neg de_int) da_nil))) (da_cons (de_tup (da_cons de_str (da_cons de_int (da_cons de_str (da_cons (dv 0) da_nil))))) da_nil)))))))) (dss_one (ds_ret (de_op od_add (dv 1) (de_lst (da_cons (de_tup (da_cons de_str (da_cons de_int (da_cons de_str (da_cons (dv 0) da_nil))))) (da_cons (de_tup (da_cons de_str (da_cons (de_tup da_nil) (da_cons de_str da_nil)))) (da_cons (de_tup (da_cons de_str (da_cons (de_tup da_nil) (da_cons de_str da_nil)))) (da_cons (de_tup (da_cons de_str (da_cons (de_tup da_nil) da_nil))) da_nil)))))))))))))
theorem bd_l_right {fd : FuncData} (FD : FunD K (nm .l_right) (nm .l_right) (defArgs (st .l_right)) (defBody (st .l_right)) (defScope (st .l_right)) [] [] (He.ga K (nm .l_right)) fd) : Binds K fd (ps .l_right) [] := FD.bindsN fun _ _ _ _ _ _ us hl => match us, hl with | [_], _ => rfl
theorem ok_l_right (T : FT K mg) {n : Nat} (ih : ∀ y, CalM P w K mg base n (nm y) (ps y) (fns n y)) : CalM P w K mg base (n + 1) (nm .l_right) (ps .l_right) (fns (n + 1) .l_right) := by
  refine calm_of T.toFacts .l_right sc_l_right (by decide) (fun fd FD => bd_l_right FD) fun cdv A outer s H E gd hr => ?_
  have hu := hr.units
  have hu5 := room65 hr
  have hu1 := room1 hr
  have tk : Takes (cxOf (L2.CX P w) P w K mg base N_l_right (nm .l_right) (defScope (st .l_right)) (He.ga K (nm .l_right)) cdv A outer s H E) (fun cls d _ H => E cls d H) := takes_of rfl rfl rfl rfl
  have po : PassesOwn (model P w) (cxOf (L2.CX P w) P w K mg base N_l_right (nm .l_right) (defScope (st .l_right)) (He.ga K (nm .l_right)) cdv A outer s H E).A (cxOf (L2.CX P w) P w K mg base N_l_right (nm .l_right) (defScope (st .l_right)) (He.ga K (nm .l_right)) cdv A outer s H E).env (cxOf (L2.CX P w) P w K mg base N_l_right (nm .l_right) (defScope (st .l_right)) (He.ga K (nm .l_right)) cdv A outer s H E).xe := passes_of rfl
  exact (dss_cons (ds_set 1 sc_l_right.nd rfl (by first | exact Or.inl rfl | exact Or.inr rfl) (dcall (ih .l_planned) gd hr tk rfl rfl (da_cons (dv 0) da_nil))) (dss_cons (ds_if (dt_w (dw_or (dt_not (dt_val (dcall (ih .l_judged) gd hr tk rfl rfl (da_cons (dv 1) da_nil)))) (dw_or1 (dt_not (dt_val (dcall (ih .l_reads_plan) gd hr tk rfl rfl (da_cons (dv 1) da_nil))))))) (dss_one (ds_ret de_bl)) dss_nil) (dss_cons (ds_for po rfl (di_range rfl (T.fr "range" (by decide +kernel)) de_int) (pg_name (i := 2) sc_l_right.nd rfl (by first | exact Or.inl rfl | exact Or.inr rfl)) (tgok_name _ 2) (dss_one (ds_if (dt_not (dt_val (dcall (ih .l_judged) gd hr tk rfl rfl (da_cons (dcall (ih .l_spoilt) gd hr tk rfl rfl (da_cons (dv 0) (da_cons (dv 1) da_nil))) da_nil)))) (dss_one (ds_ret de_bl)) dss_nil))) (dss_cons (ds_if (dt_not (dt_val (de_callB (cd_all rfl) rfl (T.fr "all" (by decide +kernel)) (by decide +kernel) (da_cons (de_comp (own := [("_law_one", 3)]) rfl sc_l_right.nd (di_seq (dcall (ih .l_borders) gd hr tk rfl rfl (da_cons (de_tup (da_cons de_str (da_cons (de_tup (da_cons de_int da_nil)) da_nil))) da_nil))) (blkOk_by (own := [("_law_one", 3)]) (N := N_l_right) (sc := defScope (st .l_right)) (by decide +kernel)) (fun _ _ _ _ _ => (pg_name (i := 3) sc_l_right.nd rfl (by first | exact Or.inl rfl | exact Or.inr rfl))) (tgok_name _ 3) (by decide) (fun _ _ _ _ _ => (dcall (ih .l_judged) gd hr takes0 rfl rfl (da_cons (dv 3) da_nil)))) da_nil)))) (dss_one (ds_ret de_bl)) dss_nil) (dss_one (ds_ret (de_callB (cd_all rfl) rfl (T.fr "all" (by decide +kernel)) (by decide +kernel) (da_cons (de_comp (own := [("_law_one", 3)]) rfl sc_l_right.nd (di_seq (de_lst (da_cons (de_callTy cd_list rfl (T.fr "list" (by decide +kernel)) (by decide +kernel) (da_cons (dv 1) da_nil)) (da_cons (de_lst (da_cons (dv 1) da_nil)) (da_cons (de_ix (dv 1) de_int) (da_cons de_non (da_cons de_int (da_cons de_dct0 (da_cons (de_tup da_nil) (da_cons (de_tup (da_cons de_str da_nil)) (da_cons (dv 1) da_nil))))))))))) (blkOk_by (own := [("_law_one", 3)]) (N := N_l_right) (sc := defScope (st .l_right)) (by decide +kernel)) (fun _ _ _ _ _ => (pg_name (i := 3) sc_l_right.nd rfl (by first | exact Or.inl rfl | exact Or.inr rfl))) (tgok_name _ 3) (by decide) (fun _ _ _ _ _ => (dcall (ih .l_judged) gd hr takes0 rfl rfl (da_cons (dv 3) da_nil)))) da_nil))))))))
theorem bd_law {fd : FuncData} (FD : FunD K (nm .law) (nm .law) (defArgs (st .law)) (defBody (st .law)) (defScope (st .law)) [] [] (He.ga K (nm .law)) fd) : Binds K fd (ps .law) [] := FD.bindsN fun _ _ _ _ _ _ us hl => match us, hl with | [_], _ => rfl
theorem ok_law (T : FT K mg) {n : Nat} (ih : ∀ y, CalM P w K mg base n (nm y) (ps y) (fns n y)) : CalM P w K mg base (n + 1) (nm .law) (ps .law) (fns (n + 1) .law) := by
  refine calm_of T.toFacts .law sc_law (by decide) (fun fd FD => bd_law FD) fun cdv A outer s H E gd hr => ?_
  have hu := hr.units
  have hu5 := room65 hr
  have hu1 := room1 hr
  have tk : Takes (cxOf (L2.CX P w) P w K mg base N_law (nm .law) (defScope (st .law)) (He.ga K (nm .law)) cdv A outer s H E) (fun cls d _ H => E cls d H) := takes_of rfl rfl rfl rfl
  have po : PassesOwn (model P w) (cxOf (L2.CX P w) P w K mg base N_law (nm .law) (defScope (st .law)) (He.ga K (nm .law)) cdv A outer s H E).A (cxOf (L2.CX P w) P w K mg base N_law (nm .law) (defScope (st .law)) (He.ga K (nm .law)) cdv A outer s H E).env (cxOf (L2.CX P w) P w K mg base N_law (nm .law) (defScope (st .law)) (He.ga K (nm .law)) cdv A outer s H E).xe := passes_of rfl
  exact (dss_cons (ds_for po rfl (di_range rfl (T.fr "range" (by decide +kernel)) (de_callB (cd_max2 rfl) rfl (T.fr "max" (by decide +kernel)) (by decide +kernel) (da_cons de_int (da_cons (de_callB (cd_min2 rfl) rfl (T.fr "min" (by decide +kernel)) (by decide +kernel) (da_cons de_int (da_cons (de_callB cd_len rfl (T.fr "len" (by decide +kernel)) (by decide +kernel) (da_cons (dv 0) da_nil)) da_nil))) da_nil)))) (pg_name (i := 1) sc_law.nd rfl (by first | exact Or.inl rfl | exact Or.inr rfl)) (tgok_name _ 1) (dss_one (ds_if (dt_not (dt_val (dcall (ih .l_right) gd hr tk rfl rfl (da_cons (dcall (ih .l_pot) gd hr tk rfl rfl (da_cons (dv 0) (da_cons (dv 1) da_nil))) da_nil)))) (dss_one (ds_ret de_bl)) dss_nil))) (dss_one (ds_ret de_bl)))
theorem fm_law (T : FT K mg) {n : Nat} (ih : ∀ y, CalM P w K mg base n (nm y) (ps y) (fns n y)) {fd : FuncData} (FD : FunD K (nm .law) (nm .law) (defArgs (st .law)) (defBody (st .law)) (defScope (st .law)) [] [] (He.ga K (nm .law)) fd) : FnM P w K mg base (n + 1) (He.ga K (nm .law)) fd (ps .law) (fns (n + 1) .law) := by
  refine fnm_of FD sc_law (by decide) fun cdv A outer s H E gd hr => ?_
  have hu := hr.units
  have hu5 := room65 hr
  have hu1 := room1 hr
  have tk : Takes (cxOf (L2.CX P w) P w K mg base N_law (nm .law) (defScope (st .law)) (He.ga K (nm .law)) cdv A outer s H E) (fun cls d _ H => E cls d H) := takes_of rfl rfl rfl rfl
  have po : PassesOwn (model P w) (cxOf (L2.CX P w) P w K mg base N_law (nm .law) (defScope (st .law)) (He.ga K (nm .law)) cdv A outer s H E).A (cxOf (L2.CX P w) P w K mg base N_law (nm .law) (defScope (st .law)) (He.ga K (nm .law)) cdv A outer s H E).env (cxOf (L2.CX P w) P w K mg base N_law (nm .law) (defScope (st .law)) (He.ga K (nm .law)) cdv A outer s H E).xe := passes_of rfl
  exact (dss_cons (ds_for po rfl (di_range rfl (T.fr "range" (by decide +kernel)) (de_callB (cd_max2 rfl) rfl (T.fr "max" (by decide +kernel)) (by decide +kernel) (da_cons de_int (da_cons (de_callB (cd_min2 rfl) rfl (T.fr "min" (by decide +kernel)) (by decide +kernel) (da_cons de_int (da_cons (de_callB cd_len rfl (T.fr "len" (by decide +kernel)) (by decide +kernel) (da_cons (dv 0) da_nil)) da_nil))) da_nil)))) (pg_name (i := 1) sc_law.nd rfl (by first | exact Or.inl rfl | exact Or.inr rfl)) (tgok_name _ 1) (dss_one (ds_if (dt_not (dt_val (dcall (ih .l_right) gd hr tk rfl rfl (da_cons (dcall (ih .l_pot) gd hr tk rfl rfl (da_cons (dv 0) (da_cons (dv 1) da_nil))) da_nil)))) (dss_one (ds_ret de_bl)) dss_nil))) (dss_one (ds_ret de_bl)))
theorem all_ok (T : FT K mg) : ∀ (n : Nat) (y : Fn), CalM P w K mg base n (nm y) (ps y) (fns n y)
  | 0, y => by
    obtain ⟨fd, FD⟩ := T.fd y
    cases y with
    | is_whole => exact calm_zero (T.mgf .is_whole) FD.kp (bd_is_whole FD)
    | is_rule => exact calm_zero (T.mgf .is_rule) FD.kp (bd_is_rule FD)
    | is_change => exact calm_zero (T.mgf .is_change) FD.kp (bd_is_change FD)
    | is_test => exact calm_zero (T.mgf .is_test) FD.kp (bd_is_test FD)
    | is_look => exact calm_zero (T.mgf .is_look) FD.kp (bd_is_look FD)
    | is_between => exact calm_zero (T.mgf .is_between) FD.kp (bd_is_between FD)
    | is_word => exact calm_zero (T.mgf .is_word) FD.kp (bd_is_word FD)
    | are_numbers => exact calm_zero (T.mgf .are_numbers) FD.kp (bd_are_numbers FD)
    | is_leaf => exact calm_zero (T.mgf .is_leaf) FD.kp (bd_is_leaf FD)
    | is_joined => exact calm_zero (T.mgf .is_joined) FD.kp (bd_is_joined FD)
    | has_numbers => exact calm_zero (T.mgf .has_numbers) FD.kp (bd_has_numbers FD)
    | is_plan => exact calm_zero (T.mgf .is_plan) FD.kp (bd_is_plan FD)
    | l_pot => exact calm_zero (T.mgf .l_pot) FD.kp (bd_l_pot FD)
    | l_digit => exact calm_zero (T.mgf .l_digit) FD.kp (bd_l_digit FD)
    | l_whole => exact calm_zero (T.mgf .l_whole) FD.kp (bd_l_whole FD)
    | l_change => exact calm_zero (T.mgf .l_change) FD.kp (bd_l_change FD)
    | l_rule => exact calm_zero (T.mgf .l_rule) FD.kp (bd_l_rule FD)
    | l_look => exact calm_zero (T.mgf .l_look) FD.kp (bd_l_look FD)
    | l_test => exact calm_zero (T.mgf .l_test) FD.kp (bd_l_test FD)
    | l_leaf => exact calm_zero (T.mgf .l_leaf) FD.kp (bd_l_leaf FD)
    | l_upon => exact calm_zero (T.mgf .l_upon) FD.kp (bd_l_upon FD)
    | l_grove => exact calm_zero (T.mgf .l_grove) FD.kp (bd_l_grove FD)
    | l_planned => exact calm_zero (T.mgf .l_planned) FD.kp (bd_l_planned FD)
    | l_whole_one => exact calm_zero (T.mgf .l_whole_one) FD.kp (bd_l_whole_one FD)
    | l_reads_rule => exact calm_zero (T.mgf .l_reads_rule) FD.kp (bd_l_reads_rule FD)
    | l_reads_look => exact calm_zero (T.mgf .l_reads_look) FD.kp (bd_l_reads_look FD)
    | l_reads_test => exact calm_zero (T.mgf .l_reads_test) FD.kp (bd_l_reads_test FD)
    | l_reads_part => exact calm_zero (T.mgf .l_reads_part) FD.kp (bd_l_reads_part FD)
    | l_sorts => exact calm_zero (T.mgf .l_sorts) FD.kp (bd_l_sorts FD)
    | l_reads_plan => exact calm_zero (T.mgf .l_reads_plan) FD.kp (bd_l_reads_plan FD)
    | l_spoilt => exact calm_zero (T.mgf .l_spoilt) FD.kp (bd_l_spoilt FD)
    | l_judged => exact calm_zero (T.mgf .l_judged) FD.kp (bd_l_judged FD)
    | l_borders => exact calm_zero (T.mgf .l_borders) FD.kp (bd_l_borders FD)
    | l_right => exact calm_zero (T.mgf .l_right) FD.kp (bd_l_right FD)
    | law => exact calm_zero (T.mgf .law) FD.kp (bd_law FD)
  | n + 1, y => by
    have ih := fun y => all_ok T n y
    cases y with
    | is_whole => exact ok_is_whole T ih
    | is_rule => exact ok_is_rule T ih
    | is_change => exact ok_is_change T ih
    | is_test => exact ok_is_test T ih
    | is_look => exact ok_is_look T ih
    | is_between => exact ok_is_between T ih
    | is_word => exact ok_is_word T ih
    | are_numbers => exact ok_are_numbers T ih
    | is_leaf => exact ok_is_leaf T ih
    | is_joined => exact ok_is_joined T ih
    | has_numbers => exact ok_has_numbers T ih
    | is_plan => exact ok_is_plan T ih
    | l_pot => exact ok_l_pot T ih
    | l_digit => exact ok_l_digit T ih
    | l_whole => exact ok_l_whole T ih
    | l_change => exact ok_l_change T ih
    | l_rule => exact ok_l_rule T ih
    | l_look => exact ok_l_look T ih
    | l_test => exact ok_l_test T ih
    | l_leaf => exact ok_l_leaf T ih
    | l_upon => exact ok_l_upon T ih
    | l_grove => exact ok_l_grove T ih
    | l_planned => exact ok_l_planned T ih
    | l_whole_one => exact ok_l_whole_one T ih
    | l_reads_rule => exact ok_l_reads_rule T ih
    | l_reads_look => exact ok_l_reads_look T ih
    | l_reads_test => exact ok_l_reads_test T ih
    | l_reads_part => exact ok_l_reads_part T ih
    | l_sorts => exact ok_l_sorts T ih
    | l_reads_plan => exact ok_l_reads_plan T ih
    | l_spoilt => exact ok_l_spoilt T ih
    | l_judged => exact ok_l_judged T ih
    | l_borders => exact ok_l_borders T ih
    | l_right => exact ok_l_right T ih
    | law => exact ok_law T ih
end
/-! ## the head -/
def dfn (y : Fn) : He.DefD := ⟨(nm y, none), nm y, nm y, defArgs (st y), defBody (st y), defScope (st y), [], []⟩
def fnl : List Fn := [.is_whole, .is_rule, .is_change, .is_test, .is_look, .is_between, .is_word, .are_numbers, .is_leaf, .is_joined, .has_numbers, .is_plan, .l_pot, .l_digit, .l_whole, .l_change, .l_rule, .l_look, .l_test, .l_leaf, .l_upon, .l_grove, .l_planned, .l_whole_one, .l_reads_rule, .l_reads_look, .l_reads_test, .l_reads_part, .l_sorts, .l_reads_plan, .l_spoilt, .l_judged, .l_borders, .l_right, .law]
def fn : List He.DefD := fnl.map dfn
def fac : List He.Fa := [.glo "LEAVES", .str "LETTERS" "abcdefghijklmnopqrstuvwxyz", .int "MOST" 200, .int "MOST_JOINED" 6, .int "MOST_ROWS" 60, .int "WIDEST" 20]
def fa : List He.Fa := (fnl.map fun y => He.Fa.glo (nm y)) ++ free.map He.Fa.free ++ fac
def exm (K : PySem.W.Frag) : Bool := He.tupB K "LEAVES" [.str "list", .str "broken", .str "count", .str "row"]
abbrev R : PySem.W.OpenRow := PySem.W.OpenLaw.row PySem.Challenge.rw_giftstreams_k82_what_is_a_plan
abbrev hk : PySem.W.Hook := hookM 4 fa fn exm
def ob (s : PySem.W.SharedT) : He.AlD × Bool := obsM 4 fa fn exm (HandSHeadRun.getT s)
theorem ob_eq (s : PySem.W.SharedT) : ob s = hk.obs s.abs := obsM_eq (HandSHeadRun.getT_eq s)
def names : List PySem.Str := (["is_whole", "is_rule", "is_change", "is_test", "is_look", "LETTERS", "LEAVES", "MOST", "MOST_ROWS", "WIDEST", "MOST_JOINED", "is_between", "is_word", "are_numbers", "is_leaf", "is_joined", "has_numbers", "is_plan", "_law_pot", "_law_digit", "_law_whole", "_law_change", "_law_rule", "_law_look", "_law_test", "_law_leaf", "_law_upon", "_law_grove", "_law_planned", "_law_whole_one"] : List PySem.Str) ++ (["_law_reads_rule", "_law_reads_look", "_law_reads_test", "_law_reads_part", "_law_sorts", "_law_reads_plan", "_law_spoilt", "_law_judged", "_law_borders", "_law_right"] : List PySem.Str)
theorem run (w : World) : HandSHeadRun.RunEq R (PySem.W.view R.prog [44]) hk ob 4000 names w := by
  intro os
  kernel_rfl
theorem mem_fnl (y : Fn) : y ∈ fnl := by cases y <;> simp [fnl]
theorem facts {K : PySem.W.Frag} {h : Heap} {mg : Str → Option Value} (X : K.In h) (G : h.Ns mainGlobals mg) (c : He.SaysD fa fn K) (cx : exm K = true) : FT K mg where
  mgf := fun y => by
    obtain ⟨i, hi⟩ := List.getElem?_of_mem (mem_fnl y)
    have hl : i < fnl.length := (List.getElem?_eq_some_iff.mp hi).1
    refine He.glo_ok X G (c.fact i (f := .glo (nm y)) ?_)
    unfold fa
    rw [List.append_assoc, List.getElem?_append_left (by simpa using hl), List.getElem?_map, hi]
    rfl
  fd := fun y => by
    obtain ⟨i, hi⟩ := List.getElem?_of_mem (mem_fnl y)
    exact c.def_ i (d := dfn y) (by unfold fn; rw [List.getElem?_map, hi]; rfl)
  fr := fun x hx => by
    obtain ⟨i, hi⟩ := List.getElem?_of_mem hx
    refine He.free_ok X G (c.fact (fnl.length + i) (f := .free x) ?_)
    have hl2 : i < free.length := (List.getElem?_eq_some_iff.mp hi).1
    unfold fa
    rw [List.append_assoc, List.getElem?_append_right (by simp), List.getElem?_append_left (by simp; omega), List.getElem?_map]
    simp [hi]
  c_LEAVES := by
    have hf := c.fact (fnl.length + free.length + 0) (f := .glo "LEAVES") (by unfold fa; rw [List.getElem?_append_right (by simp)]; simp [fac])
    have cx := cx
    simp only [exm, Bool.and_eq_true] at cx
    exact .tup (zs := ["list", "broken", "count", "row"]) (He.glo_ok X G hf) (fun H => He.tupB_ok cx H) (Nat.le_of_ble_eq_true rfl)
  c_LETTERS := by
    have hf := c.fact (fnl.length + free.length + 1) (f := .str "LETTERS" "abcdefghijklmnopqrstuvwxyz") (by unfold fa; rw [List.getElem?_append_right (by simp)]; simp [fac])
    obtain ⟨t, h⟩ := He.str_ok X G hf
    exact .str h
  c_MOST := by
    have hf := c.fact (fnl.length + free.length + 2) (f := .int "MOST" 200) (by unfold fa; rw [List.getElem?_append_right (by simp)]; simp [fac])
    obtain ⟨t, h⟩ := He.int_ok X G hf
    exact .int h
  c_MOST_JOINED := by
    have hf := c.fact (fnl.length + free.length + 3) (f := .int "MOST_JOINED" 6) (by unfold fa; rw [List.getElem?_append_right (by simp)]; simp [fac])
    obtain ⟨t, h⟩ := He.int_ok X G hf
    exact .int h
  c_MOST_ROWS := by
    have hf := c.fact (fnl.length + free.length + 4) (f := .int "MOST_ROWS" 60) (by unfold fa; rw [List.getElem?_append_right (by simp)]; simp [fac])
    obtain ⟨t, h⟩ := He.int_ok X G hf
    exact .int h
  c_WIDEST := by
    have hf := c.fact (fnl.length + free.length + 5) (f := .int "WIDEST" 20) (by unfold fa; rw [List.getElem?_append_right (by simp)]; simp [fac])
    obtain ⟨t, h⟩ := He.int_ok X G hf
    exact .int h
end K82
end

section
open PySem PySem.W PySem.Calls PyProof.Rows
set_option maxRecDepth 100000 in
set_option maxHeartbeats 0 in
theorem PySem.Challenge.cw_giftstreams_k82_what_is_a_plan_holds : PySem.Challenge.rw_giftstreams_k82_what_is_a_plan.Holds := by
  w_on; o_law
  refine HandSHeadRun.head_any (r := OpenLaw.row PySem.Challenge.rw_giftstreams_k82_what_is_a_plan) (q := view (OpenLaw.row PySem.Challenge.rw_giftstreams_k82_what_is_a_plan).prog [44]) (H := K82.hk) (ob := K82.ob) (M := 4000) (loose := K82.names) (d := HandSHeadRun.topDef (OpenLaw.row PySem.Challenge.rw_giftstreams_k82_what_is_a_plan).prog 44) (kwd := []) K82.ob_eq
    (by kernel_rfl) (fun s => by kernel_rfl) K82.run (by kernel_rfl) (by kernel_rfl) (by kernel_rfl) (by rfl) (by first | assumption | decide +kernel) (by decide +kernel) ⟨rfl, rfl, rfl, rfl, rfl, by decide +kernel⟩ ?hw ?hc
  case hw => w_witness2
  case hc =>
    refine G.walkG (l := PySem.Challenge.rw_giftstreams_k82_what_is_a_plan) (k := 60) (x := "_law_script") (F := K82.fns 60 .law) rfl (by kernel_rfl) ⟨rfl, by decide, by decide⟩ ?F K82.tells_true
    intro w mg fa h Y Gr hmg0
    obtain ⟨K, KX, c, cx⟩ := Y
    have hmg : mg ("law" : PySem.Str) = some (.ref fa) := by
      have e : (HandSHeadRun.topDef (OpenLaw.row PySem.Challenge.rw_giftstreams_k82_what_is_a_plan).prog 44).name = ("law" : PySem.Str) := by kernel_rfl
      rw [← e]
      exact hmg0
    have T := K82.facts KX Gr c cx
    have z := hmg.symm.trans (T.mgf .law)
    cases z
    obtain ⟨fd, FD⟩ := T.fd .law
    refine ⟨K, fd, KX, ?_, fun base kb nb => ?_⟩
    · have b := L2.FunD.bindsA (ps := ["_law_script"]) FD fun _ _ _ _ _ _ us hl => match us, hl with | [_], _ => rfl
      exact fun s v => b s [v] rfl
    · exact K82.fm_law T (fun y => K82.all_ok T 59 y) FD
end
