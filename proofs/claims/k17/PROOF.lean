import PyProof.Rows.All
import Wide.All
import OpenK.AllK
import Wide.FinOn
import HandS.ForMost
import HandS.HeadHook1
import HandS.Exc
import HandS.TupAny
import HandS.Deep
import HandS.IsInst
import HandS.Wide
import HandS.WideBits
import HandS.ExcCtx
import HandS.ExcOwn
import HandS.WordsExc
import HandS.TryOnly
import HandS.Defaults
import HandS.EndBits
import HandS.Style
import PyProof.ReprRoads
import HandS.RaiseMore
import HandS.Words
import HandS.Text
import HandS.TupMul
import HandS.Iter
import HandS.HeadHook2
import HandS.More
import HandS.SortInts
import KE.GoesMore
import HandS.SortRule
import HandS.TupLe
import KE.KSortTup
import HandS.HotCalls
import HandS.ExcIs
import HandS.ExcValue
import HandS.ExcValueHot
import HandS.Head0
import HandS.Head1
import HandS.Head2
import HandS.HeadEnd
import PySem.Challenge.RW_giftstreams_k17_refusals_made
section
set_option Elab.async false
set_option linter.all false
set_option maxRecDepth 100000
set_option maxHeartbeats 1000000
namespace G
open PySem PySem.Spec PyProof.Rows L2

/-! ## values, cells, results -/
/-- a value: tuples and finished lists by value, what is still changed by a cell's number -/
inductive D where
  | non
  | bl (b : Bool)
  | int (i : Int)
  | str (x : Str)
  | tup (l : List D)
  | lst (l : List D)
  | cell (i : Nat)
  | dct0
  | exc (c : Str)
  deriving Inhabited
inductive Cell where
  | lst (l : List D)
  | ro (l : List D)
  | dct (l : List (Key × D))
  | ins (C : Str) (fs : List (Str × D))
  | dead
abbrev Store := List Cell
abbrev Mp := Nat → Addr
inductive Res (α : Type) where
  | ok (a : α) (st : Store)
  | err (c : Str) (st : Store)
  | bad
abbrev M (α : Type) := Store → Res α
def M.ret {α : Type} (a : α) : M α := fun st => .ok a st
def M.andThen {α β : Type} (x : M α) (f : α → M β) : M β := fun st => match x st with
  | .ok a st' => f a st'
  | .err c st' => .err c st'
  | .bad => .bad
def M.stuck {α : Type} : M α := fun _ => .bad
instance : Monad M where
  pure := M.ret
  bind := M.andThen
theorem bind_ok {α β : Type} {x : M α} {f : α → M β} {st st' : Store} {a : α} (h : x st = .ok a st') : (x >>= f) st = f a st' := by
  show M.andThen x f st = _
  unfold M.andThen; rw [h]
theorem pure_app {α : Type} (a : α) (st : Store) : (pure a : M α) st = .ok a st := rfl

/-! ## how a heap bears values and cells -/
def Cell.live : Cell → Prop
  | .dead => False
  | .ro _ => False
  | _ => True
/-- the addresses of the cells that may still be written -/
def Own (m : Mp) (st : Store) (a : Addr) : Prop := ∃ i c, st[i]? = some c ∧ c.live ∧ m i = a
/-- a list that is handed in: it stands still -/
def RoL (K : PySem.W.Frag) (H : Hp) (a : Addr) (xs : List V) : Prop := (∃ o, H a = some (.frz o (.lst xs))) ∨ ∃ (o : Obj) (its : Array Value) (n : Nat), K.lookup a = some o ∧ o.cls = .type "list" ∧ o.dict = none ∧ o.data = .seq its n ∧ its.size ≤ sizeLine ∧ Vals xs its.toList
theorem RoL.sq {K : PySem.W.Frag} {H : Hp} {a : Addr} {xs : List V} (h : RoL K H a xs) : SqL K H a xs := by
  rcases h with h | h
  · exact .inl (.inr h)
  · exact .inr h
/-- what the two relations need of the state -/
structure Wd where
  K : PySem.W.Frag
  m : Mp
  st : Store
  H : Hp
  /-- addresses at which no finished value stands (a list that a comprehension grows) -/
  rv : List Addr
/-- what is tracked and written by no cell -/
def Fz (w : Wd) (a : Addr) (o : HO) : Prop := w.H a = some o ∧ ¬ Own w.m w.st a
/-- .. and may be a value -/
def Fr (w : Wd) (a : Addr) (o : HO) : Prop := Fz w a o ∧ a ∉ w.rv
/-- what is tracked is an exception of the class that the program's name c has -/
def ExIs (K : PySem.W.Frag) (c : Str) (a : Addr) (o : HO) : Prop := ∀ (P : Program) (w : World) (H : Hp) (h : Heap), ObjOk P w H h a o → ∃ (oe : Obj) (vs : Array Value), h.get? a = some oe ∧ Zc (.ref (He.ga K c)) none oe ∧ oe.data = .fields vs
mutual
def Rep (w : Wd) : D → V → Prop
  | .non, v => v = .non
  | .bl b, v => v = .bl b
  | .int i, v => v = .int i
  | .str x, v => v = .str x
  | .tup l, v => ∃ a xs, v = .ref a ∧ SqT w.K w.H a xs ∧ Reps w l xs ∧ l.length ≤ sizeLine
  | .lst l, v => ∃ a xs, v = .ref a ∧ Fr w a (.lst xs) ∧ Reps w l xs ∧ l.length ≤ sizeLine
  | .cell i, v => v = .ref (w.m i) ∧ i < w.st.length
  | .dct0, v => ∃ a, v = .ref a ∧ Fr w a (.dK [])
  | .exc c, v => ∃ a o, v = .ref a ∧ Fr w a o ∧ ExIs w.K c a o
def Reps (w : Wd) : List D → List V → Prop
  | [], vs => vs = []
  | d :: ds, vs => ∃ x xs, vs = x :: xs ∧ Rep w d x ∧ Reps w ds xs
end
def RepK (w : Wd) : List (Key × D) → List (Key × V) → Prop
  | [], vs => vs = []
  | d :: ds, vs => ∃ x xs, vs = x :: xs ∧ x.1 = d.1 ∧ Rep w d.2 x.2 ∧ RepK w ds xs
def RepF (w : Wd) : List (Str × D) → List (Str × V) → Prop
  | [], vs => vs = []
  | d :: ds, vs => ∃ x xs, vs = x :: xs ∧ x.1 = d.1 ∧ Rep w d.2 x.2 ∧ RepF w ds xs
def CellOk (w : Wd) (a : Addr) : Cell → Prop
  | .lst l => ∃ xs, w.H a = some (.lst xs) ∧ Reps w l xs ∧ l.length ≤ sizeLine
  | .ro l => ∃ xs, RoL w.K w.H a xs ∧ Reps w l xs ∧ l.length ≤ sizeLine
  | .dct l => ∃ kvs, w.H a = some (.dK kvs) ∧ RepK w l kvs
  | .ins C fs => ∃ dx gs, w.H a = some (.ins (He.ga w.K C) dx gs) ∧ RepF w fs gs
  | .dead => True
structure RS (w : Wd) : Prop where
  cells : ∀ i c, w.st[i]? = some c → CellOk w (w.m i) c
  inj : ∀ i j c c', w.st[i]? = some c → w.st[j]? = some c' → c.live → c'.live → w.m i = w.m j → i = j
  rvs : ∀ a ∈ w.rv, w.H a ≠ none
  rvo : ∀ a ∈ w.rv, ¬ Own w.m w.st a
structure Aft (w w' : Wd) : Prop where
  k : w'.K = w.K
  rv : w'.rv = w.rv
  rs : RS w'
  ext : ∀ i, i < w.st.length → w'.m i = w.m i
  len : w.st.length ≤ w'.st.length
  tup : ∀ a xs, SqT w.K w.H a xs → SqT w'.K w'.H a xs
  fz : ∀ a o, Fz w a o → Fz w' a o
theorem Aft.refl {w : Wd} (r : RS w) : Aft w w := ⟨rfl, rfl, r, fun _ _ => rfl, Nat.le_refl _, fun _ _ h => h, fun _ _ h => h⟩
theorem Aft.trans {w w1 w2 : Wd} (a : Aft w w1) (b : Aft w1 w2) : Aft w w2 :=
  ⟨b.k.trans a.k, b.rv.trans a.rv, b.rs, fun i h => (b.ext i (Nat.lt_of_lt_of_le h a.len)).trans (a.ext i h), Nat.le_trans a.len b.len, fun x xs h => b.tup x xs (a.tup x xs h), fun x xs h => b.fz x xs (a.fz x xs h)⟩
/-- what values need of the change -/
structure Bears (w w' : Wd) : Prop where
  ext : ∀ i, i < w.st.length → w'.m i = w.m i
  len : w.st.length ≤ w'.st.length
  tup : ∀ a xs, SqT w.K w.H a xs → SqT w'.K w'.H a xs
  fr : ∀ a o, Fr w a o → Fr w' a o
  k : w'.K = w.K := by rfl
theorem Aft.bears {w w' : Wd} (a : Aft w w') : Bears w w' := ⟨a.ext, a.len, a.tup, fun x o h => ⟨a.fz x o h.1, by rw [a.rv]; exact h.2⟩, a.k⟩
theorem Bears.trans {w w1 w2 : Wd} (a : Bears w w1) (b : Bears w1 w2) : Bears w w2 :=
  ⟨fun i h => (b.ext i (Nat.lt_of_lt_of_le h a.len)).trans (a.ext i h), Nat.le_trans a.len b.len, fun x xs h => b.tup x xs (a.tup x xs h), fun x xs h => b.fr x xs (a.fr x xs h), b.k.trans a.k⟩
mutual
theorem Bears.rep {w w' : Wd} (b : Bears w w') : ∀ (d : D) (v : V), Rep w d v → Rep w' d v
  | .non, v, h => by simpa only [Rep] using h
  | .bl _, v, h => by simpa only [Rep] using h
  | .int _, v, h => by simpa only [Rep] using h
  | .str _, v, h => by simpa only [Rep] using h
  | .tup l, v, h => by
    simp only [Rep] at h ⊢
    obtain ⟨a, xs, e, s, r, hl⟩ := h
    exact ⟨a, xs, e, b.tup a xs s, b.reps l xs r, hl⟩
  | .lst l, v, h => by
    simp only [Rep] at h ⊢
    obtain ⟨a, xs, e, s, r, hl⟩ := h
    exact ⟨a, xs, e, b.fr a _ s, b.reps l xs r, hl⟩
  | .cell i, v, h => by
    simp only [Rep] at h ⊢
    exact ⟨h.1.trans (by rw [b.ext i h.2]), Nat.lt_of_lt_of_le h.2 b.len⟩
  | .dct0, v, h => by
    simp only [Rep] at h ⊢
    obtain ⟨a, e, s⟩ := h
    exact ⟨a, e, b.fr a _ s⟩
  | .exc c, v, h => by
    simp only [Rep] at h ⊢
    obtain ⟨a, o, e, s, x⟩ := h
    exact ⟨a, o, e, b.fr a _ s, by rw [b.k]; exact x⟩
theorem Bears.reps {w w' : Wd} (b : Bears w w') : ∀ (l : List D) (vs : List V), Reps w l vs → Reps w' l vs
  | [], vs, h => by simpa only [Reps] using h
  | d :: ds, vs, h => by
    simp only [Reps] at h ⊢
    obtain ⟨x, xs, e, r, rs⟩ := h
    exact ⟨x, xs, e, b.rep d x r, b.reps ds xs rs⟩
end
theorem Bears.repK {w w' : Wd} (b : Bears w w') : ∀ (l : List (Key × D)) (vs : List (Key × V)), RepK w l vs → RepK w' l vs
  | [], vs, h => h
  | d :: ds, vs, h => by
    obtain ⟨x, xs, e, k, r, rs⟩ := h
    exact ⟨x, xs, e, k, b.rep _ _ r, b.repK ds xs rs⟩
theorem Bears.repF {w w' : Wd} (b : Bears w w') : ∀ (l : List (Str × D)) (vs : List (Str × V)), RepF w l vs → RepF w' l vs
  | [], vs, h => h
  | d :: ds, vs, h => by
    obtain ⟨x, xs, e, k, r, rs⟩ := h
    exact ⟨x, xs, e, k, b.rep _ _ r, b.repF ds xs rs⟩
theorem Aft.rep {w w' : Wd} (a : Aft w w') {d : D} {v : V} (h : Rep w d v) : Rep w' d v := a.bears.rep d v h
theorem Aft.reps {w w' : Wd} (a : Aft w w') {d : List D} {v : List V} (h : Reps w d v) : Reps w' d v := a.bears.reps d v h
end G
end

section
set_option Elab.async false
set_option linter.all false
set_option autoImplicit false
set_option maxRecDepth 100000
set_option maxHeartbeats 1000000
namespace G
open PySem PySem.Spec PyProof.Rows L2
/-! ## changes of the heap -/
section
variable {K : PySem.W.Frag} {m : Mp} {st : Store} {H H' : Hp} {p : Addr} {o : HO} {rv : List Addr}
theorem sqT_same (e : Same H H') {a : Addr} {xs : List V} (h : SqT K H a xs) : SqT K H' a xs := by
  rcases h with (h | ⟨o, h⟩) | h
  · exact .inl (.inl (e _ _ h))
  · exact .inl (.inr ⟨o, e _ _ h⟩)
  · exact .inr h
theorem roL_same (e : Same H H') {a : Addr} {xs : List V} (h : RoL K H a xs) : RoL K H' a xs := by
  rcases h with ⟨o, h⟩ | h
  · exact .inl ⟨o, e _ _ h⟩
  · exact .inr h
theorem same_upd (h : H p = none) : Same H (upd H p o) := fun b u e => by rw [upd_ne (ne_of_none e h)]; exact e
theorem bears_same (e : Same H H') : Bears ⟨K, m, st, H, rv⟩ ⟨K, m, st, H', rv⟩ := ⟨fun _ _ => rfl, Nat.le_refl _, fun _ _ h => sqT_same e h, fun _ _ h => ⟨⟨e _ _ h.1.1, h.1.2⟩, h.2⟩, rfl⟩
/-- what stands at the address of a cell that may be written -/
def hoLive : HO → Prop
  | .lst _ => True
  | .dK _ => True
  | .ins _ _ _ => True
  | _ => False
/-- a cell's words are borne -/
theorem cell_bears {w w' : Wd} (b : Bears w w') {a : Addr} {c : Cell} (hl : ∀ o, w.H a = some o → hoLive o → w'.H a = some o) (hr : ∀ xs, RoL w.K w.H a xs → RoL w'.K w'.H a xs) (hk : w'.K = w.K) (h : CellOk w a c) : CellOk w' a c := by
  cases c with
  | lst l => obtain ⟨xs, h, r, z⟩ := h; exact ⟨xs, hl _ h trivial, b.reps _ _ r, z⟩
  | ro l => obtain ⟨xs, h, r, z⟩ := h; exact ⟨xs, hr xs h, b.reps _ _ r, z⟩
  | dct l => obtain ⟨xs, h, r⟩ := h; exact ⟨xs, hl _ h trivial, b.repK _ _ r⟩
  | ins C fs => obtain ⟨dx, gs, h, r⟩ := h; exact ⟨dx, gs, by rw [hk]; exact hl _ h trivial, b.repF _ _ r⟩
  | dead => trivial
theorem none_same (e : Same H H') {a : Addr} (n : H a ≠ none) (z : H' a = none) : False := by
  cases q : H a with
  | none => exact n q
  | some o => rw [e _ _ q] at z; cases z
theorem fz_same (e : Same H H') {a : Addr} {o : HO} (h : Fz ⟨K, m, st, H, rv⟩ a o) : Fz ⟨K, m, st, H', rv⟩ a o := ⟨e _ _ h.1, h.2⟩
theorem aft_same (r : RS ⟨K, m, st, H, rv⟩) (e : Same H H') : Aft ⟨K, m, st, H, rv⟩ ⟨K, m, st, H', rv⟩ :=
  ⟨rfl, rfl, ⟨fun i c h => cell_bears (bears_same e) (fun o h _ => e _ _ h) (fun _ h => roL_same e h) rfl (r.cells i c h), r.inj, fun a ha z => none_same e (r.rvs a ha) z, r.rvo⟩, fun _ _ => rfl, Nat.le_refl _, (bears_same e).tup, fun _ _ h => fz_same e h⟩
theorem aft_new (r : RS ⟨K, m, st, H, rv⟩) (h : H p = none) : Aft ⟨K, m, st, H, rv⟩ ⟨K, m, st, upd H p o, rv⟩ := aft_same r (same_upd h)
theorem live_at (r : RS ⟨K, m, st, H, rv⟩) {i : Nat} {c : Cell} (h : st[i]? = some c) (l : c.live) : ∃ o, H (m i) = some o ∧ hoLive o := by
  have q := r.cells i c h
  cases c with
  | lst l => obtain ⟨xs, e, _⟩ := q; exact ⟨_, e, trivial⟩
  | dct l => obtain ⟨xs, e, _⟩ := q; exact ⟨_, e, trivial⟩
  | ins C fs => obtain ⟨dx, gs, e, _⟩ := q; exact ⟨_, e, trivial⟩
  | ro l => exact l.elim
  | dead => exact l.elim
/-- a new cell at a new address -/
def mpNew (m : Mp) (n : Nat) (p : Addr) : Mp := fun i => if i = n then p else m i
theorem mpNew_old {n i : Nat} (h : i < n) : mpNew m n p i = m i := if_neg (by omega)
theorem mpNew_new {n : Nat} : mpNew m n p n = p := if_pos rfl
theorem at_new {c c' : Cell} {i : Nat} (e : (st ++ [c])[i]? = some c') : (i < st.length ∧ st[i]? = some c') ∨ (i = st.length ∧ c' = c) := by
  by_cases hi : i < st.length
  · rw [List.getElem?_append_left hi] at e
    exact .inl ⟨hi, e⟩
  · have hi2 : i < (st ++ [c]).length := (List.getElem?_eq_some_iff.mp e).1
    rw [List.length_append] at hi2
    have e2 : i = st.length := by simp at hi2; omega
    subst e2
    rw [List.getElem?_append_right (Nat.le_refl _)] at e
    simp at e
    exact .inr ⟨rfl, e.symm⟩
theorem own_new {c : Cell} {a : Addr} (h : Own (mpNew m st.length p) (st ++ [c]) a) : Own m st a ∨ a = p := by
  obtain ⟨i, c', e, l, q⟩ := h
  rcases at_new e with ⟨hi, e⟩ | ⟨hi, e⟩
  · rw [mpNew_old hi] at q
    exact .inl ⟨i, c', e, l, q⟩
  · rw [hi, mpNew_new] at q
    exact .inr q.symm
theorem fz_cell {c : Cell} (e : Same H H') (hp : H p = none) (a : Addr) (o : HO) (h : Fz ⟨K, m, st, H, rv⟩ a o) : Fz ⟨K, mpNew m st.length p, st ++ [c], H', rv⟩ a o := ⟨e _ _ h.1, fun z => by
    rcases own_new z with z | z
    · exact h.2 z
    · subst z; exact absurd (h.1.symm.trans hp) (by simp)⟩
theorem bears_cell {c : Cell} (e : Same H H') (hp : H p = none) : Bears ⟨K, m, st, H, rv⟩ ⟨K, mpNew m st.length p, st ++ [c], H', rv⟩ where
  ext := fun i h => mpNew_old h
  len := by simp
  tup := fun _ _ h => sqT_same e h
  fr := fun a o h => ⟨fz_cell e hp a o h.1, h.2⟩
theorem aft_cell {c : Cell} (r : RS ⟨K, m, st, H, rv⟩) (e : Same H H') (hp : H p = none) (ok : CellOk ⟨K, mpNew m st.length p, st ++ [c], H', rv⟩ p c) : Aft ⟨K, m, st, H, rv⟩ ⟨K, mpNew m st.length p, st ++ [c], H', rv⟩ := by
  have b := bears_cell (K := K) (m := m) (st := st) (c := c) (rv := rv) e hp
  refine ⟨rfl, rfl, ⟨fun i c' h => ?_, fun i j c1 c2 h1 h2 l1 l2 q => ?_, fun a ha z => ?_, fun a ha z => ?_⟩, b.ext, b.len, b.tup, fz_cell e hp⟩
  · show CellOk _ (mpNew m st.length p i) c'
    rcases at_new h with ⟨hi, h⟩ | ⟨hi, hc⟩
    · rw [mpNew_old hi]
      exact cell_bears b (fun o h _ => e _ _ h) (fun _ h => roL_same e h) rfl (r.cells i c' h)
    · subst hi hc
      rw [mpNew_new]
      exact ok
  · have q : mpNew m st.length p i = mpNew m st.length p j := q
    have nw : ∀ {i : Nat} {c1 : Cell}, i < st.length → st[i]? = some c1 → c1.live → m i ≠ p := fun {i c1} hi h1 l1 z => by
      obtain ⟨o, ho, _⟩ := live_at r h1 l1
      rw [z, hp] at ho
      cases ho
    rcases at_new h1 with ⟨hi, h1⟩ | ⟨hi, h1⟩
    · rw [mpNew_old hi] at q
      rcases at_new h2 with ⟨hj, h2⟩ | ⟨hj, h2⟩
      · rw [mpNew_old hj] at q
        exact r.inj i j c1 c2 h1 h2 l1 l2 q
      · rw [hj, mpNew_new] at q
        exact absurd q (nw hi h1 l1)
    · rw [hi, mpNew_new] at q
      rcases at_new h2 with ⟨hj, h2⟩ | ⟨hj, h2⟩
      · rw [mpNew_old hj] at q
        exact absurd q.symm (nw hj h2 l2)
      · rw [hi, hj]
  · cases q : H a with
    | none => exact r.rvs a ha q
    | some o => have z : H' a = none := z; rw [e _ _ q] at z; cases z
  · rcases own_new z with z | z
    · exact r.rvo a ha z
    · subst z; exact r.rvs a ha hp
/-- a cell is written -/
theorem at_set {c c' c0 : Cell} {i j : Nat} (h0 : st[i]? = some c0) (e : (st.set i c)[j]? = some c') : (j ≠ i ∧ st[j]? = some c') ∨ (j = i ∧ c' = c) := by
  by_cases hj : j = i
  · subst hj
    have hl : j < st.length := (List.getElem?_eq_some_iff.mp h0).1
    rw [List.getElem?_set_self hl] at e
    exact .inr ⟨rfl, (Option.some.inj e).symm⟩
  · rw [List.getElem?_set_ne (Ne.symm hj)] at e
    exact .inl ⟨hj, e⟩
theorem own_set {c c0 : Cell} {i : Nat} {a : Addr} (h0 : st[i]? = some c0) (l0 : c0.live) (h : Own m (st.set i c) a) : Own m st a := by
  obtain ⟨j, c', e, l, q⟩ := h
  rcases at_set h0 e with ⟨hj, e⟩ | ⟨hj, e⟩
  · exact ⟨j, c', e, l, q⟩
  · exact ⟨i, c0, h0, l0, by rw [← hj]; exact q⟩
theorem fz_set {c c0 : Cell} {i : Nat} (h0 : st[i]? = some c0) (l0 : c0.live) (e : ∀ b u, b ≠ m i → H b = some u → H' b = some u) (a : Addr) (o : HO) (h : Fz ⟨K, m, st, H, rv⟩ a o) : Fz ⟨K, m, st.set i c, H', rv⟩ a o := ⟨e _ _ (fun z => h.2 ⟨i, c0, h0, l0, z.symm⟩) h.1, fun z => h.2 (own_set h0 l0 z)⟩
theorem bears_set {c c0 : Cell} {i : Nat} (r : RS ⟨K, m, st, H, rv⟩) (h0 : st[i]? = some c0) (l0 : c0.live) (e : ∀ b u, b ≠ m i → H b = some u → H' b = some u) : Bears ⟨K, m, st, H, rv⟩ ⟨K, m, st.set i c, H', rv⟩ where
  ext := fun _ _ => rfl
  len := by simp
  tup := fun a xs h => by
    obtain ⟨o, ho, hl⟩ := live_at r h0 l0
    rcases h with (h | ⟨u, h⟩) | h
    · refine .inl (.inl (e _ _ (fun z => ?_) h))
      have h : H a = some _ := h
      rw [z, ho] at h; cases h; exact hl
    · refine .inl (.inr ⟨u, e _ _ (fun z => ?_) h⟩)
      have h : H a = some _ := h
      rw [z, ho] at h; cases h; exact hl
    · exact .inr h
  fr := fun a xs h => ⟨fz_set h0 l0 e a xs h.1, h.2⟩
theorem aft_set {c c0 : Cell} {i : Nat} (r : RS ⟨K, m, st, H, rv⟩) (h0 : st[i]? = some c0) (l0 : c0.live) (e : ∀ b u, b ≠ m i → H b = some u → H' b = some u) (ok : CellOk ⟨K, m, st.set i c, H', rv⟩ (m i) c) : Aft ⟨K, m, st, H, rv⟩ ⟨K, m, st.set i c, H', rv⟩ := by
  have b := bears_set (c := c) r h0 l0 e
  obtain ⟨o, ho, hl⟩ := live_at r h0 l0
  refine ⟨rfl, rfl, ⟨fun j c' h => ?_, fun j k c1 c2 h1 h2 l1 l2 q => ?_, fun a ha z => ?_, fun a ha z => ?_⟩, b.ext, b.len, b.tup, fz_set h0 l0 e⟩
  · rcases at_set h0 h with ⟨hj, h⟩ | ⟨hj, hc⟩
    · by_cases lc : c'.live
      · have hne : m j ≠ m i := fun z => hj (r.inj j i c' c0 h h0 lc l0 z)
        exact cell_bears b (fun o h _ => e _ _ hne h) (fun xs h => by
          rcases h with ⟨u, h⟩ | h
          · exact .inl ⟨u, e _ _ hne h⟩
          · exact .inr h) rfl (r.cells j c' h)
      · have q := r.cells j c' h
        cases c' with
        | ro l =>
          obtain ⟨xs, h1, r1, z1⟩ := q
          refine ⟨xs, ?_, b.reps _ _ r1, z1⟩
          rcases h1 with ⟨u, h1⟩ | h1
          · refine .inl ⟨u, e _ _ (fun z => ?_) h1⟩
            have h2 : H (m j) = some _ := h1
            have z2 : m j = m i := z
            rw [z2, ho] at h2; cases h2; exact hl
          · exact .inr h1
        | dead => trivial
        | _ => exact absurd trivial lc
    · subst hj hc
      exact ok
  · have hx : ∀ {j : Nat} {c1 : Cell}, (st.set i c)[j]? = some c1 → c1.live → ∃ c', st[j]? = some c' ∧ c'.live := fun {j c1} h l => by
      rcases at_set h0 h with ⟨_, h⟩ | ⟨hj, _⟩
      · exact ⟨_, h, l⟩
      · exact ⟨c0, by rw [hj]; exact h0, l0⟩
    obtain ⟨c1', g1, k1⟩ := hx h1 l1
    obtain ⟨c2', g2, k2⟩ := hx h2 l2
    exact r.inj j k c1' c2' g1 g2 k1 k2 q
  · cases q : H a with
    | none => exact r.rvs a ha q
    | some o => have z : H' a = none := z; rw [e _ _ (fun y => r.rvo a ha ⟨i, c0, h0, l0, y.symm⟩) q] at z; cases z
  · exact r.rvo a ha (own_set h0 l0 z)
/-- a list's cell is given up: from then on the list stands still -/
theorem aft_free {i : Nat} {l : List D} (r : RS ⟨K, m, st, H, rv⟩) (h0 : st[i]? = some (.lst l)) : Aft ⟨K, m, st, H, rv⟩ ⟨K, m, st.set i .dead, H, rv⟩ ∧ ∃ v, Rep ⟨K, m, st.set i .dead, H, rv⟩ (.lst l) v ∧ v = .ref (m i) := by
  have a : Aft ⟨K, m, st, H, rv⟩ ⟨K, m, st.set i .dead, H, rv⟩ := aft_set r h0 trivial (fun _ _ _ h => h) trivial
  refine ⟨a, .ref (m i), ?_, rfl⟩
  obtain ⟨xs, h1, r1, z1⟩ := r.cells i _ h0
  simp only [Rep]
  refine ⟨m i, xs, rfl, ⟨⟨h1, fun z => ?_⟩, fun z => r.rvo _ z ⟨i, _, h0, trivial, rfl⟩⟩, a.reps r1, z1⟩
  obtain ⟨j, c', e, lv, q⟩ := z
  rcases at_set h0 e with ⟨hj, e⟩ | ⟨hj, e⟩
  · exact hj (r.inj j i c' _ e h0 lv trivial q)
  · subst e; exact lv
end
end G
end

section
set_option Elab.async false
set_option linter.all false
set_option autoImplicit false
set_option maxRecDepth 100000
set_option maxHeartbeats 1000000
namespace G
open PySem PySem.Spec PyProof.Rows L2
/-! ## what is wanted of a result -/
def Wp {α : Type} (w : Wd) (r : Res α) (P : α → Wd → Prop) (W : Str → Wd → Prop) : Prop := match r with
  | .ok a st' => ∀ w', Aft w w' → w'.st = st' → P a w'
  | .err c st' => ∀ w', Aft w w' → w'.st = st' → W c w'
  | .bad => False
section
variable {α β : Type} {w w1 : Wd} {r : Res α} {P P' : α → Wd → Prop} {W W' : Str → Wd → Prop}
theorem Wp.after (h : Wp w r P W) (a : Aft w w1) : Wp w1 r P W := by
  cases r with
  | ok x st' => exact fun w' b e => h w' (a.trans b) e
  | err c st' => exact fun w' b e => h w' (a.trans b) e
  | bad => exact h
theorem Wp.mono (h : Wp w r P W) (hp : ∀ a w', Aft w w' → P a w' → P' a w') (hw : ∀ c w', Aft w w' → W c w' → W' c w') : Wp w r P' W' := by
  cases r with
  | ok x st' => exact fun w' b e => hp _ _ b (h w' b e)
  | err c st' => exact fun w' b e => hw _ _ b (h w' b e)
  | bad => exact h
theorem Wp.imp (h : Wp w r P W) (hp : ∀ a w', Aft w w' → P a w' → P' a w') : Wp w r P' W := h.mono hp fun _ _ _ x => x
theorem Wp.bind {x : M α} {f : α → M β} {P : β → Wd → Prop} (h : Wp w ((x >>= f) w.st) P W) : Wp w (x w.st) (fun a w1 => Wp w1 (f a w1.st) P W) W := by
  have h : Wp w (M.andThen x f w.st) P W := h
  unfold M.andThen at h
  cases e : x w.st with
  | ok a st' =>
    rw [e] at h
    have h : Wp w (f a st') P W := h
    intro w' b q
    rw [q]
    exact h.after b
  | err c st' =>
    rw [e] at h
    exact h
  | bad =>
    rw [e] at h
    exact h
theorem Wp.ok_ {a : α} (rs : RS w) (h : Wp w (.ok a w.st) P W) : P a w := h w (.refl rs) rfl
end
/-! ## names -/
abbrev Ev := List (Option D)
structure REnv (w : Wd) (env : Ev) (σ : L2.St) : Prop where
  len : env.length = σ.length
  at_ : ∀ (i : Nat) (d : D), env[i]? = some (some d) → ∃ v, σ[i]? = some (some v) ∧ Rep w d v
theorem REnv.after {w w1 : Wd} {env : Ev} {σ : L2.St} (h : REnv w env σ) (a : Aft w w1) : REnv w1 env σ := ⟨h.len, fun i d e => let ⟨v, e1, r⟩ := h.at_ i d e; ⟨v, e1, a.rep r⟩⟩
theorem REnv.set {w : Wd} {env : Ev} {σ : L2.St} {d : D} {v : V} (h : REnv w env σ) (i : Nat) (r : Rep w d v) : REnv w (env.set i (some d)) (σ.set i (some v)) := by
  refine ⟨by rw [List.length_set, List.length_set]; exact h.len, fun j d' e => ?_⟩
  by_cases hj : i = j
  · subst hj
    by_cases hl : i < env.length
    · rw [List.getElem?_set_self hl] at e
      rw [List.getElem?_set_self (by rw [← h.len]; exact hl)]
      cases e
      exact ⟨v, rfl, r⟩
    · rw [List.getElem?_eq_none (by rw [List.length_set]; omega)] at e
      cases e
  · rw [List.getElem?_set_ne hj] at e
    rw [List.getElem?_set_ne hj]
    exact h.at_ j d' e
theorem REnv.forget {w : Wd} {env : Ev} {σ : L2.St} (h : REnv w env σ) (i : Nat) : REnv w (env.set i none) (σ.set i none) := by
  refine ⟨by rw [List.length_set, List.length_set]; exact h.len, fun j d' e => ?_⟩
  by_cases hj : i = j
  · subst hj
    by_cases hl : i < env.length
    · rw [List.getElem?_set_self hl] at e; cases e
    · rw [List.getElem?_eq_none (by rw [List.length_set]; omega)] at e; cases e
  · rw [List.getElem?_set_ne hj] at e
    rw [List.getElem?_set_ne hj]
    exact h.at_ j d' e
/-! ## the readings of computations, the judgements -/
abbrev XW := Str → L2.St → Hp → Prop
def rdE (K : PySem.W.Frag) (W : XW) (f : Ev → M D) : TE := fun σ H Q => ∃ (w : Wd) (env : Ev), w.K = K ∧ w.H = H ∧ RS w ∧ REnv w env σ ∧ Wp w (f env w.st) (fun d w' => ∀ v, Rep w' d v → Q v w'.H) (fun c w' => W c σ w'.H)
def rdT (K : PySem.W.Frag) (W : XW) (f : Ev → M Bool) : TT := fun σ H Q => ∃ (w : Wd) (env : Ev), w.K = K ∧ w.H = H ∧ RS w ∧ REnv w env σ ∧ Wp w (f env w.st) (fun b w' => Q b w'.H) (fun c w' => W c σ w'.H)
def rdA (K : PySem.W.Frag) (W : XW) (f : Ev → M (List D)) : TA := fun σ H Q => ∃ (w : Wd) (env : Ev), w.K = K ∧ w.H = H ∧ RS w ∧ REnv w env σ ∧ Wp w (f env w.st) (fun ds w' => ∀ vs, Reps w' ds vs → Q vs w'.H) (fun c w' => W c σ w'.H)
def DE (X : Cx) (W : XW) (e : Expr) (f : Ev → M D) : Prop := PE X e (rdE X.K W f)
def DT (X : Cx) (W : XW) (e : Expr) (f : Ev → M Bool) : Prop := PT X e (rdT X.K W f)
def DWt (X : Cx) (W : XW) (e : Expr) (f : Ev → M Bool) : Prop := PW X e (rdT X.K W f)
def aSeq : List (Ev → M D) → Ev → M (List D)
  | [], _ => pure []
  | f :: fs, env => do
    let d ← f env
    let ds ← aSeq fs env
    pure (d :: ds)
def DA (X : Cx) (W : XW) (es : List Expr) (fs : List (Ev → M D)) : Prop := PA X es (rdA X.K W (aSeq fs))
section
variable {X : Cx} {W : XW} {e a b c : Expr} {pos : Pos} {fa fb fc : Ev → M D}
theorem PE.imp' {t t' : TE} (h : PE X e t) (k : ∀ σ H Q, t' σ H Q → t σ H Q) : PE X e t' := ⟨fun pins s σ H Q I z => h.run pins s σ H Q I (k σ H Q z)⟩
theorem PT.imp' {t t' : TT} (h : PT X e t) (k : ∀ σ H Q, t' σ H Q → t σ H Q) : PT X e t' := ⟨fun pins s σ H Q I z => h.run pins s σ H Q I (k σ H Q z)⟩
theorem PW.imp' {t t' : TT} (h : PW X e t) (k : ∀ σ H Q, t' σ H Q → t σ H Q) : PW X e t' := ⟨fun wh pins s σ H Q I z => h.run wh pins s σ H Q I (k σ H Q z)⟩
theorem PA.imp' {es : List Expr} {t t' : TA} (h : PA X es t) (k : ∀ σ H Q, t' σ H Q → t σ H Q) : PA X es t' := ⟨fun pos pins s σ H Q I z => h.run pos pins s σ H Q I (k σ H Q z)⟩
/-! ### names and constants -/
def eVar (i : Nat) : Ev → M D := fun env st => match env[i]? with
  | some (some d) => .ok d st
  | _ => .bad
theorem de_var (i : Nat) {x : Str} (hN : X.N[i]? = some x) (hv : Vis X.env.scope x) (hd : (x == ("__debug__" : Str)) = false := by decide) (hcd : (x == ("__classdict__" : Str)) = false := by decide) : DE X W (.Name x pos) (eVar i) := by
  refine PE.imp' (pe_var hN hv hd hcd) ?_
  rintro σ H Q ⟨w, env, hk, rfl, r, n, h⟩
  unfold eVar at h
  split at h
  · rename_i d e
    obtain ⟨v, e1, rv⟩ := n.at_ i d e
    exact ⟨v, e1, h.ok_ r v rv⟩
  · exact h.elim
def eC (d : D) : Ev → M D := fun _ => pure d
theorem de_int {i j} : DE X W (.Constant (.int i) j pos) (eC (.int i)) := PE.imp' pe_int (by
  rintro σ H Q ⟨w, env, hk, rfl, r, n, h⟩
  exact Wp.ok_ r h _ (by simp [Rep]))
theorem de_bl {b : Bool} {j} : DE X W (.Constant (.bool b) j pos) (eC (.bl b)) := PE.imp' pe_bl (by
  rintro σ H Q ⟨w, env, hk, rfl, r, n, h⟩
  exact Wp.ok_ r h _ (by simp [Rep]))
theorem de_non {j} : DE X W (.Constant .none j pos) (eC .non) := PE.imp' pe_non (by
  rintro σ H Q ⟨w, env, hk, rfl, r, n, h⟩
  exact Wp.ok_ r h _ (by simp [Rep]))
theorem de_str {x : Str} {j} : DE X W (.Constant (.str x) j pos) (eC (.str x)) := PE.imp' pe_str (by
  rintro σ H Q ⟨w, env, hk, rfl, r, n, h⟩
  exact Wp.ok_ r h _ (by simp [Rep]))
/-- a module's constant -/
theorem de_glob {x : Str} {v : V} {u : Value} {d : D} (hg : Gl X x) (hm : X.mg x = some u) (r : RelV v u) (hr : ∀ w : Wd, w.K = X.K → Rep w d v) (hd : (x == ("__debug__" : Str)) = false := by decide) : DE X W (.Name x pos) (eC d) := PE.imp' (pe_glob hg hm r hd) (by
  rintro σ H Q ⟨w, env, hk, rfl, rs, n, h⟩
  exact Wp.ok_ rs h _ (hr w hk))
/-! ### operators -/
def lift (o : Store → Option D) : M D := fun st => match o st with
  | some d => .ok d st
  | none => .bad
/-- what is wanted of an operator's answer -/
def Wq (w : Wd) (o : Option D) (Q : VK) : Prop := ∃ d, o = some d ∧ ∀ w', Aft w w' → w'.st = w.st → ∀ v, Rep w' d v → Q v w'.H
theorem Wq.of {w : Wd} {o : Store → Option D} {Q : VK} {W : Str → Wd → Prop} (h : Wp w (lift o w.st) (fun d w' => ∀ v, Rep w' d v → Q v w'.H) W) : Wq w (o w.st) Q := by
  unfold lift at h
  cases e : o w.st with
  | none => rw [e] at h; exact h.elim
  | some d => rw [e] at h; exact ⟨d, rfl, h⟩
def rdO (K : PySem.W.Frag) (g : D → D → Store → Option D) : R2 := fun x y H Q => ∃ (w : Wd) (a b : D), w.K = K ∧ w.H = H ∧ RS w ∧ Rep w a x ∧ Rep w b y ∧ Wq w (g a b w.st) Q
def rdU (K : PySem.W.Frag) (g : D → Store → Option D) : V → Hp → VK → Prop := fun x H Q => ∃ (w : Wd) (a : D), w.K = K ∧ w.H = H ∧ RS w ∧ Rep w a x ∧ Wq w (g a w.st) Q
def rdC (K : PySem.W.Frag) (g : List D → Store → Option D) : List V → Hp → VK → Prop := fun xs H Q => ∃ (w : Wd) (ds : List D), w.K = K ∧ w.H = H ∧ RS w ∧ Reps w ds xs ∧ Wq w (g ds w.st) Q
def OpD (X : Cx) (f : Value → Value → Sem Value) (g : D → D → Store → Option D) : Prop := OpR X f (rdO X.K g)
def CallD (X : Cx) (f : Value) (g : List D → Store → Option D) : Prop := CallR X f (rdC X.K g)
theorem OpR.imp' {f : Value → Value → Sem Value} {r r' : R2} (h : OpR X f r) (k : ∀ x y H Q, r' x y H Q → r x y H Q) : OpR X f r' := fun pins s σ H x y v u Q I rx ry z => h pins s σ H x y v u Q I rx ry (k _ _ _ _ z)
theorem CallR.imp' {f : Value} {r r' : List V → Hp → VK → Prop} (h : CallR X f r) (k : ∀ x H Q, r' x H Q → r x H Q) : CallR X f r' := fun pins s σ H x u Q I rx z => h pins s σ H x u Q I rx (k _ _ _ z)
theorem UnR.imp' {f : Value → Sem Value} {r r' : V → Hp → VK → Prop} (h : UnR X f r) (k : ∀ x H Q, r' x H Q → r x H Q) : UnR X f r' := fun pins s σ H x u Q I rx z => h pins s σ H x u Q I rx (k _ _ _ z)
def eOp (g : D → D → Store → Option D) (fa fb : Ev → M D) : Ev → M D := fun env => do
  let a ← fa env
  let b ← fb env
  lift (g a b)
/-- two readings, one behind the other -/
theorem two {g : D → D → Store → Option D} {σ : L2.St} {H : Hp} {Q : VK} (h : rdE X.K W (eOp g fa fb) σ H Q) : tOp (rdO X.K g) (rdE X.K W fa) (rdE X.K W fb) σ H Q := by
  obtain ⟨w, env, hk, rfl, r, n, h⟩ := h
  refine ⟨w, env, hk, rfl, r, n, (Wp.bind h).imp fun x w1 a1 h1 v rv => ?_⟩
  refine ⟨w1, env, a1.k.trans hk, rfl, a1.rs, n.after a1, (Wp.bind h1).imp fun y w2 a2 h2 u ru => ?_⟩
  exact ⟨w2, x, y, a2.k.trans (a1.k.trans hk), rfl, a2.rs, a2.rep rv, ru, Wq.of h2⟩
theorem de_op {op : Operator} {g : D → D → Store → Option D} (ho : OpD X (binaryOp op) g) (ha : DE X W a fa) (hb : DE X W b fb) : DE X W (.BinOp a op b pos) (eOp g fa fb) := PE.imp' (pe_op ho ha hb) fun _ _ _ h => two h
theorem de_cmp {op : CmpOp} {g : D → D → Store → Option D} (ho : OpD X (compareOp op) g) (ha : DE X W a fa) (hb : DE X W b fb) (hm : behindInMarks op b = false := by rfl) : DE X W (.Compare a [op] [b] pos) (eOp g fa fb) := PE.imp' (pe_cmpR ho ha hb hm) fun _ _ _ h => two h
def eUn (g : D → Store → Option D) (fa : Ev → M D) : Ev → M D := fun env => do
  let a ← fa env
  lift (g a)
theorem de_un {op : UnaryOp} {g : D → Store → Option D} (ho : UnR X (unaryOp op) (rdU X.K g)) (ha : DE X W a fa) : DE X W (.UnaryOp op a pos) (eUn g fa) := PE.imp' (pe_un ho ha) fun σ H Q h => by
  obtain ⟨w, env, hk, rfl, r, n, h⟩ := h
  refine ⟨w, env, hk, rfl, r, n, (Wp.bind h).imp fun x w1 a1 h1 v rv => ?_⟩
  exact ⟨w1, x, a1.k.trans hk, rfl, a1.rs, rv, Wq.of h1⟩
/-! ### tests -/
def asB : D → M Bool
  | .bl b => pure b
  | _ => M.stuck
def tVal (f : Ev → M D) : Ev → M Bool := fun env => do
  let d ← f env
  asB d
theorem asB_wp {w : Wd} {d : D} {P : Bool → Wd → Prop} {V' : Str → Wd → Prop} (rs : RS w) (h : Wp w (asB d w.st) P V') : ∃ b, d = .bl b ∧ P b w := by
  cases d with
  | bl b => exact ⟨b, rfl, Wp.ok_ rs h⟩
  | _ => exact h.elim
theorem tval {σ : L2.St} {H : Hp} {Q : Bool → Hp → Prop} (h : rdT X.K W (tVal fa) σ H Q) : rdE X.K W fa σ H fun x H1 => ∃ c, x = .bl c ∧ Q c H1 := by
  obtain ⟨w, env, hk, rfl, r, n, h⟩ := h
  refine ⟨w, env, hk, rfl, r, n, (Wp.bind h).imp fun x w1 a1 h1 v rv => ?_⟩
  obtain ⟨b, rfl, q⟩ := asB_wp a1.rs h1
  simp only [Rep] at rv
  exact ⟨b, rv, q⟩
theorem dt_val (h : DE X W e fa) (he : ∀ whole, isTrue e X.env whole = (do let v ← whole; standAt e.pos; holding [v] (truthy v)) := by intro _; rfl) : DT X W e (tVal fa) := PT.imp' (pt_val h he) fun _ _ _ h => tval h
theorem dt_cmp {op : CmpOp} {g : D → D → Store → Option D} (ho : OpD X (compareOp op) g) (ha : DE X W a fa) (hb : DE X W b fb) (hm : behindInMarks op b = false := by rfl) : DT X W (.Compare a [op] [b] pos) (tVal (eOp g fa fb)) := PT.imp' (pt_cmpR ho ha hb hm) fun σ H Q h => by
  obtain ⟨w, env, hk, hH, r, n, h⟩ := tval h
  exact two ⟨w, env, hk, hH, r, n, h⟩
def tNot' (t : Ev → M Bool) : Ev → M Bool := fun env => do
  let b ← t env
  pure (!b)
theorem dt_not {t : Ev → M Bool} (h : DT X W e t) : DT X W (.UnaryOp .Not e pos) (tNot' t) := PT.imp' (pt_not h) fun σ H Q h => by
  obtain ⟨w, env, hk, rfl, r, n, h⟩ := h
  refine ⟨w, env, hk, rfl, r, n, (Wp.bind h).imp fun x w1 a1 h1 => Wp.ok_ a1.rs h1⟩
def tAnd' (t u : Ev → M Bool) : Ev → M Bool := fun env => do
  let b ← t env
  if b = true then u env else pure false
def tOr' (t u : Ev → M Bool) : Ev → M Bool := fun env => do
  let b ← t env
  if b = true then pure true else u env
theorem dw_and {rest : List Expr} {t u : Ev → M Bool} (h : DT X W a t) (k : DWt X W (.BoolOp .And (b :: rest) pos) u) : DWt X W (.BoolOp .And (a :: b :: rest) pos) (tAnd' t u) := PW.imp' (pw_and h k) fun σ H Q h => by
  obtain ⟨w, env, hk, rfl, r, n, h⟩ := h
  refine ⟨w, env, hk, rfl, r, n, (Wp.bind h).imp fun x w1 a1 h1 => ?_⟩
  cases x with
  | true => exact iteT ⟨w1, env, a1.k.trans hk, rfl, a1.rs, n.after a1, h1⟩
  | false => exact iteF (Wp.ok_ (a := false) a1.rs h1)
theorem dw_or {rest : List Expr} {t u : Ev → M Bool} (h : DT X W a t) (k : DWt X W (.BoolOp .Or (b :: rest) pos) u) : DWt X W (.BoolOp .Or (a :: b :: rest) pos) (tOr' t u) := PW.imp' (pw_or h k) fun σ H Q h => by
  obtain ⟨w, env, hk, rfl, r, n, h⟩ := h
  refine ⟨w, env, hk, rfl, r, n, (Wp.bind h).imp fun x w1 a1 h1 => ?_⟩
  cases x with
  | true => exact iteT (Wp.ok_ (a := true) a1.rs h1)
  | false => exact iteF ⟨w1, env, a1.k.trans hk, rfl, a1.rs, n.after a1, h1⟩
theorem dw_and1 {t : Ev → M Bool} (h : DT X W a t) : DWt X W (.BoolOp .And [a] pos) t := pw_and1 h
theorem dw_or1 {t : Ev → M Bool} (h : DT X W a t) : DWt X W (.BoolOp .Or [a] pos) t := pw_or1 h
theorem dt_w {t : Ev → M Bool} (h : DWt X W e t) : DT X W e t := PW.pt h
/-! ### and, or, not as values; conditional expressions -/
def eAnd (fa fb : Ev → M D) : Ev → M D := fun env => do
  let d ← fa env
  let b ← asB d
  if b = true then fb env else pure (.bl false)
def eOr (fa fb : Ev → M D) : Ev → M D := fun env => do
  let d ← fa env
  let b ← asB d
  if b = true then pure (.bl true) else fb env
theorem de_and {rest : List Expr} (ha : DE X W a fa) (hb : DE X W (.BoolOp .And (b :: rest) pos) fb) : DE X W (.BoolOp .And (a :: b :: rest) pos) (eAnd fa fb) := PE.imp' (pe_and ha hb) fun σ H Q h => by
  obtain ⟨w, env, hk, rfl, r, n, h⟩ := h
  refine ⟨w, env, hk, rfl, r, n, (Wp.bind h).imp fun x w1 a1 h1 v rv => ?_⟩
  obtain ⟨c, rfl, h2⟩ := asB_wp a1.rs (Wp.bind h1)
  simp only [Rep] at rv
  refine ⟨c, rv, ?_⟩
  cases c with
  | true => exact iteT ⟨w1, env, a1.k.trans hk, rfl, a1.rs, n.after a1, h2⟩
  | false => exact iteF (Wp.ok_ (a := D.bl false) a1.rs h2 _ (by simp [Rep]))
theorem de_or {rest : List Expr} (ha : DE X W a fa) (hb : DE X W (.BoolOp .Or (b :: rest) pos) fb) : DE X W (.BoolOp .Or (a :: b :: rest) pos) (eOr fa fb) := PE.imp' (pe_or ha hb) fun σ H Q h => by
  obtain ⟨w, env, hk, rfl, r, n, h⟩ := h
  refine ⟨w, env, hk, rfl, r, n, (Wp.bind h).imp fun x w1 a1 h1 v rv => ?_⟩
  obtain ⟨c, rfl, h2⟩ := asB_wp a1.rs (Wp.bind h1)
  simp only [Rep] at rv
  refine ⟨c, rv, ?_⟩
  cases c with
  | true => exact iteT (Wp.ok_ (a := D.bl true) a1.rs h2 _ (by simp [Rep]))
  | false => exact iteF ⟨w1, env, a1.k.trans hk, rfl, a1.rs, n.after a1, h2⟩
theorem de_one {op : BoolOp} (ha : DE X W a fa) : DE X W (.BoolOp op [a] pos) fa := pe_one ha
def eNot (fa : Ev → M D) : Ev → M D := fun env => do
  let d ← fa env
  let b ← asB d
  pure (.bl (!b))
theorem de_not (ha : DE X W a fa) : DE X W (.UnaryOp .Not a pos) (eNot fa) := PE.imp' (pe_not ha) fun σ H Q h => by
  obtain ⟨w, env, hk, rfl, r, n, h⟩ := h
  refine ⟨w, env, hk, rfl, r, n, (Wp.bind h).imp fun x w1 a1 h1 v rv => ?_⟩
  obtain ⟨c, rfl, h2⟩ := asB_wp a1.rs (Wp.bind h1)
  simp only [Rep] at rv
  exact ⟨c, rv, Wp.ok_ (a := D.bl (!c)) a1.rs h2 _ (by simp [Rep])⟩
def eIf (t : Ev → M Bool) (fa fb : Ev → M D) : Ev → M D := fun env => do
  let b ← t env
  if b = true then fa env else fb env
theorem de_if {t : Ev → M Bool} (ht : DT X W c t) (ha : DE X W a fa) (hb : DE X W b fb) : DE X W (.IfExp c a b pos) (eIf t fa fb) := PE.imp' (pe_ifExp ht ha hb) fun σ H Q h => by
  obtain ⟨w, env, hk, rfl, r, n, h⟩ := h
  refine ⟨w, env, hk, rfl, r, n, (Wp.bind h).imp fun x w1 a1 h1 => ?_⟩
  cases x with
  | true => exact iteT ⟨w1, env, a1.k.trans hk, rfl, a1.rs, n.after a1, h1⟩
  | false => exact iteF ⟨w1, env, a1.k.trans hk, rfl, a1.rs, n.after a1, h1⟩
/-! ### arguments, displays -/
theorem da_nil : DA X W [] [] := PA.imp' pa_nil fun σ H Q h => by
  obtain ⟨w, env, hk, rfl, r, n, h⟩ := h
  exact Wp.ok_ (a := ([] : List D)) r h [] rfl
theorem da_cons {es : List Expr} {fs : List (Ev → M D)} (ha : DE X W e fa) (hr : DA X W es fs) (hs : starEach (e :: es) X.env = (false, eval e X.env) :: starEach es X.env := by rfl) : DA X W (e :: es) (fa :: fs) := PA.imp' (pa_cons ha hr hs) fun σ H Q h => by
  obtain ⟨w, env, hk, rfl, r, n, h⟩ := h
  refine ⟨w, env, hk, rfl, r, n, (Wp.bind h).imp fun x w1 a1 h1 v rv => ?_⟩
  refine ⟨w1, env, a1.k.trans hk, rfl, a1.rs, n.after a1, (Wp.bind h1).imp fun ys w2 a2 h2 vs rvs => ?_⟩
  exact Wp.ok_ (a := x :: ys) a2.rs h2 _ ⟨v, vs, rfl, a2.rep rv, rvs⟩
theorem aSeq_len : ∀ {fs : List (Ev → M D)} {env : Ev} {st st' : Store} {ds : List D}, aSeq fs env st = .ok ds st' → ds.length = fs.length
  | [], env, st, st', ds, h => by
    have h : (Res.ok [] st : Res (List D)) = .ok ds st' := h
    cases h; rfl
  | f :: fs, env, st, st', ds, h => by
    have h : M.andThen (f env) (fun d => M.andThen (aSeq fs env) fun ds => M.ret (d :: ds)) st = .ok ds st' := h
    unfold M.andThen at h
    cases e1 : f env st with
    | ok d s1 =>
      rw [e1] at h
      simp only at h
      cases e2 : aSeq fs env s1 with
      | ok es s2 =>
        rw [e2] at h
        have h : (Res.ok (d :: es) s2 : Res (List D)) = .ok ds st' := h
        cases h
        rw [List.length_cons, List.length_cons, aSeq_len e2]
      | err c s2 => rw [e2] at h; cases h
      | bad => rw [e2] at h; cases h
    | err c s1 => rw [e1] at h; cases h
    | bad => rw [e1] at h; cases h
theorem reps_len {w : Wd} : ∀ {ds : List D} {vs : List V}, Reps w ds vs → vs.length = ds.length
  | [], vs, h => by simp only [Reps] at h; rw [h]; rfl
  | d :: ds, vs, h => by
    simp only [Reps] at h
    obtain ⟨x, xs, rfl, _, r⟩ := h
    rw [List.length_cons, List.length_cons, reps_len r]
/-- the arguments' list has as many -/
theorem wp_seq {w : Wd} {fs : List (Ev → M D)} {env : Ev} {P : List D → Wd → Prop} {V' : Str → Wd → Prop} (h : Wp w (aSeq fs env w.st) P V') : Wp w (aSeq fs env w.st) (fun ds w' => ds.length = fs.length ∧ P ds w') V' := by
  cases e : aSeq fs env w.st with
  | ok ds st' =>
    rw [e] at h
    exact fun w' a q => ⟨aSeq_len e, h w' a q⟩
  | err c st' => rw [e] at h; exact h
  | bad => rw [e] at h; exact h
def eTup (fs : List (Ev → M D)) : Ev → M D := fun env => do
  let ds ← aSeq fs env
  pure (.tup ds)
theorem de_tup {es : List Expr} {fs : List (Ev → M D)} {x1} (h : DA X W es fs) (hl : fs.length ≤ sizeLine := by exact Nat.le_of_ble_eq_true rfl) : DE X W (.Tuple es x1 pos) (eTup fs) := PE.imp' (pe_tup h) fun σ H Q h => by
  obtain ⟨w, env, hk, rfl, r, n, h⟩ := h
  refine ⟨w, env, hk, rfl, r, n, (wp_seq (Wp.bind h)).imp fun ds w1 a1 h1 vs rv => ⟨by rw [reps_len rv, h1.1]; exact hl, fun p hp => ?_⟩⟩
  have a2 : Aft w1 ⟨w1.K, w1.m, w1.st, upd w1.H p (.tup vs), w1.rv⟩ := aft_new a1.rs hp
  refine h1.2 _ a2 rfl (.ref p) ?_
  simp only [Rep]
  exact ⟨p, vs, rfl, SqT.of upd_same, a2.reps rv, by rw [h1.1]; exact hl⟩
/-- a new list at a free address: not owned -/
theorem fz_new {w : Wd} (r : RS w) {p : Addr} {o : HO} (hp : w.H p = none) : Fz ⟨w.K, w.m, w.st, upd w.H p o, w.rv⟩ p o := ⟨upd_same, fun ⟨i, c, e, l, q⟩ => by
  obtain ⟨u, hu, _⟩ := live_at (rv := w.rv) r e l
  rw [q, hp] at hu
  cases hu⟩
theorem fr_new {w : Wd} (r : RS w) {p : Addr} {o : HO} (hp : w.H p = none) : Fr ⟨w.K, w.m, w.st, upd w.H p o, w.rv⟩ p o := ⟨fz_new r hp, fun z => r.rvs p z hp⟩
theorem rep_new {w : Wd} (r : RS w) {p : Addr} {ds : List D} {vs : List V} (hp : w.H p = none) (h : Reps w ds vs) (hl : ds.length ≤ sizeLine) : Rep ⟨w.K, w.m, w.st, upd w.H p (.lst vs), w.rv⟩ (.lst ds) (.ref p) := by
  simp only [Rep]
  exact ⟨p, vs, rfl, fr_new r hp, (aft_new r hp).reps h, hl⟩
theorem rep_newT {w : Wd} (r : RS w) {p : Addr} {ds : List D} {vs : List V} (hp : w.H p = none) (h : Reps w ds vs) (hl : ds.length ≤ sizeLine) : Rep ⟨w.K, w.m, w.st, upd w.H p (.tup vs), w.rv⟩ (.tup ds) (.ref p) := by
  simp only [Rep]
  exact ⟨p, vs, rfl, SqT.of upd_same, (aft_new r hp).reps h, hl⟩
def eLst (fs : List (Ev → M D)) : Ev → M D := fun env => do
  let ds ← aSeq fs env
  pure (.lst ds)
theorem de_lst {es : List Expr} {fs : List (Ev → M D)} (h : DA X W es fs) (hl : fs.length ≤ sizeLine := by exact Nat.le_of_ble_eq_true rfl) : DE X W (.List es pos) (eLst fs) := PE.imp' (pe_lst h) fun σ H Q h => by
  obtain ⟨w, env, hk, rfl, r, n, h⟩ := h
  refine ⟨w, env, hk, rfl, r, n, (wp_seq (Wp.bind h)).imp fun ds w1 a1 h1 vs rv => ⟨by rw [reps_len rv, h1.1]; exact hl, fun p hp => ?_⟩⟩
  exact h1.2 _ (aft_new a1.rs hp) rfl (.ref p) (rep_new a1.rs hp rv (by rw [h1.1]; exact hl))
def newCell (c : Cell) : M D := fun st => .ok (.cell st.length) (st ++ [c])
def eNewL (fs : List (Ev → M D)) : Ev → M D := fun env => do
  let ds ← aSeq fs env
  newCell (.lst ds)
/-- .. that will be changed -/
theorem de_newL {es : List Expr} {fs : List (Ev → M D)} (h : DA X W es fs) (hl : fs.length ≤ sizeLine := by exact Nat.le_of_ble_eq_true rfl) : DE X W (.List es pos) (eNewL fs) := PE.imp' (pe_lst h) fun σ H Q h => by
  obtain ⟨w, env, hk, rfl, r, n, h⟩ := h
  refine ⟨w, env, hk, rfl, r, n, (wp_seq (Wp.bind h)).imp fun ds w1 a1 h1 vs rv => ⟨by rw [reps_len rv, h1.1]; exact hl, fun p hp => ?_⟩⟩
  have b := bears_cell (K := w1.K) (m := w1.m) (st := w1.st) (rv := w1.rv) (c := .lst ds) (same_upd (H := w1.H) (p := p) (o := .lst vs) hp) hp
  have a2 : Aft w1 ⟨w1.K, mpNew w1.m w1.st.length p, w1.st ++ [.lst ds], upd w1.H p (.lst vs), w1.rv⟩ := aft_cell a1.rs (same_upd hp) hp ⟨vs, upd_same, b.reps _ _ rv, by rw [h1.1]; exact hl⟩
  refine h1.2 _ a2 rfl (.ref p) ?_
  simp only [Rep]
  exact ⟨by rw [mpNew_new], by simp⟩
/-! ### calls of built-in functions and types -/
def eB (g : List D → Store → Option D) (fs : List (Ev → M D)) : Ev → M D := fun env => do
  let ds ← aSeq fs env
  lift (g ds)
theorem callB {es : List Expr} {fs : List (Ev → M D)} {g : List D → Store → Option D} {σ : L2.St} {H : Hp} {Q : VK} (h : rdE X.K W (eB g fs) σ H Q) : tCB (rdC X.K g) (rdA X.K W (aSeq fs)) σ H Q := by
  obtain ⟨w, env, hk, rfl, r, n, h⟩ := h
  refine ⟨w, env, hk, rfl, r, n, (Wp.bind h).imp fun ds w1 a1 h1 vs rv => ?_⟩
  exact ⟨w1, ds, a1.k.trans hk, rfl, a1.rs, rv, Wq.of h1⟩
theorem de_callB {es : List Expr} {fs : List (Ev → M D)} {g : List D → Store → Option D} {x : Str} {p : Pos} {id : String} (hc : CallD X (.builtin id) g) (hg : Gl X x) (hm : X.mg x = none) (hv : bootBuiltins x = some (.builtin id)) (ha : DA X W (e :: es) fs)
    (hn : x ≠ "__name__" := by decide) (hdb : (x == ("__debug__" : Str)) = false := by decide) (he : starEach (e :: es) X.env = (false, eval e X.env) :: starEach es X.env := by rfl) (hpl : (backTo pos (starEach es X.env)).any (·.1) = false := by rfl) :
    DE X W (.Call (.Name x p) (e :: es) [] pos) (eB g fs) := PE.imp' (pe_callB hc hg hm hv ha hn hdb he hpl) fun _ _ _ h => callB (es := es) h
theorem de_callTy {es : List Expr} {fs : List (Ev → M D)} {g : List D → Store → Option D} {x : Str} {p : Pos} {T : String} (hc : CallD X (.type T) g) (hg : Gl X x) (hm : X.mg x = none) (hv : bootBuiltins x = some (.type T)) (ha : DA X W (e :: es) fs)
    (hn : x ≠ "__name__" := by decide) (hdb : (x == ("__debug__" : Str)) = false := by decide) (he : starEach (e :: es) X.env = (false, eval e X.env) :: starEach es X.env := by rfl) (hpl : (backTo pos (starEach es X.env)).any (·.1) = false := by rfl) :
    DE X W (.Call (.Name x p) (e :: es) [] pos) (eB g fs) := PE.imp' (pe_callTy hc hg hm hv ha hn hdb he hpl) fun _ _ _ h => callB (es := es) h
end
end G
end

section
set_option Elab.async false
set_option linter.all false
set_option autoImplicit false
set_option maxRecDepth 100000
set_option maxHeartbeats 1000000
namespace G
open PySem PySem.Spec PyProof.Rows L2
/-! ## values as data -/
mutual
def D.data : D → Option PyData
  | .non => some .none
  | .bl b => some (.bool b)
  | .int i => some (.int i)
  | .str x => some (.str x)
  | .tup l => (D.datas l).map .tuple
  | .lst l => (D.datas l).map .list
  | .cell _ => none
  | .dct0 => none
  | .exc _ => none
def D.datas : List D → Option (List PyData)
  | [] => some []
  | d :: ds => match D.data d, D.datas ds with
    | some x, some xs => some (x :: xs)
    | _, _ => none
end
mutual
theorem dp_of {w : Wd} : ∀ (d : D) (v : V) (p : PyData), Rep w d v → d.data = some p → Dp w.K w.H v p
  | .non, v, p, h, e => by simp only [Rep] at h; simp only [D.data] at e; cases e; subst h; exact .non
  | .bl b, v, p, h, e => by simp only [Rep] at h; simp only [D.data] at e; cases e; subst h; exact .bl b
  | .int i, v, p, h, e => by simp only [Rep] at h; simp only [D.data] at e; cases e; subst h; exact .int i
  | .str x, v, p, h, e => by simp only [Rep] at h; simp only [D.data] at e; cases e; subst h; exact .str x
  | .tup l, v, p, h, e => by
    simp only [Rep] at h
    simp only [D.data] at e
    obtain ⟨a, xs, rfl, s, r, hl⟩ := h
    cases q : D.datas l with
    | none => rw [q] at e; cases e
    | some ps => rw [q] at e; cases e; exact .tup s (dps_of l xs ps r q)
  | .lst l, v, p, h, e => by
    simp only [Rep] at h
    simp only [D.data] at e
    obtain ⟨a, xs, rfl, s, r, hl⟩ := h
    cases q : D.datas l with
    | none => rw [q] at e; cases e
    | some ps => rw [q] at e; cases e; exact .lst (SqL.of s.1.1) (dps_of l xs ps r q)
  | .cell _, v, p, h, e => by simp only [D.data] at e; cases e
  | .dct0, v, p, h, e => by simp only [D.data] at e; cases e
  | .exc _, v, p, h, e => by simp only [D.data] at e; cases e
theorem dps_of {w : Wd} : ∀ (l : List D) (vs : List V) (ps : List PyData), Reps w l vs → D.datas l = some ps → DpAll w.K w.H vs ps
  | [], vs, ps, h, e => by simp only [Reps] at h; simp only [D.datas] at e; cases e; subst h; exact .nil
  | d :: ds, vs, ps, h, e => by
    simp only [Reps] at h
    simp only [D.datas] at e
    obtain ⟨x, xs, rfl, r, rs⟩ := h
    cases q1 : D.data d with
    | none => rw [q1] at e; cases e
    | some p1 =>
      cases q2 : D.datas ds with
      | none => rw [q1, q2] at e; cases e
      | some ps1 => rw [q1, q2] at e; cases e; exact .cons (dp_of d x p1 r q1) (dps_of ds xs ps1 rs q2)
end
/-- the answer is at hand: nothing is laid -/
theorem Wq.here {w : Wd} {o : Option D} {Q : VK} (h : Wq w o Q) (rs : RS w) {d : D} {v : V} (e : o = some d) (r : Rep w d v) : Q v w.H := by
  obtain ⟨d', e', k⟩ := h
  rw [e] at e'
  cases e'
  exact k w (.refl rs) rfl v r
theorem Wq.new {w : Wd} {o : Option D} {Q : VK} (h : Wq w o Q) (rs : RS w) {d : D} {p : Addr} {ho : HO} (hp : w.H p = none) (e : o = some d) (r : Rep ⟨w.K, w.m, w.st, upd w.H p ho, w.rv⟩ d (.ref p)) : Q (.ref p) (upd w.H p ho) := by
  obtain ⟨d', e', k⟩ := h
  rw [e] at e'
  cases e'
  exact k _ (aft_new rs hp) rfl _ r
theorem rep_bl {w : Wd} (b : Bool) : Rep w (.bl b) (.bl b) := by simp only [Rep]
theorem rep_int {w : Wd} (b : Int) : Rep w (.int b) (.int b) := by simp only [Rep]
theorem rep_str {w : Wd} (b : Str) : Rep w (.str b) (.str b) := by simp only [Rep]
theorem rep_non {w : Wd} : Rep w .non .non := by simp only [Rep]
theorem reps_app {w : Wd} : ∀ {ds es : List D} {xs ys : List V}, Reps w ds xs → Reps w es ys → Reps w (ds ++ es) (xs ++ ys)
  | [], es, xs, ys, h, k => by simp only [Reps] at h; subst h; exact k
  | d :: ds, es, xs, ys, h, k => by
    simp only [Reps] at h
    obtain ⟨x, xs, rfl, r, rs⟩ := h
    show Reps w (d :: (ds ++ es)) (x :: (xs ++ ys))
    simp only [Reps]
    exact ⟨x, xs ++ ys, rfl, r, reps_app rs k⟩
theorem reps_at {w : Wd} : ∀ {ds : List D} {xs : List V} {i : Nat} {d : D}, Reps w ds xs → ds[i]? = some d → ∃ x, xs[i]? = some x ∧ Rep w d x
  | [], xs, i, d, h, e => by simp at e
  | d :: ds, xs, 0, d', h, e => by
    simp only [Reps] at h
    obtain ⟨x, xs, rfl, r, rs⟩ := h
    simp at e; subst e
    exact ⟨x, rfl, r⟩
  | d :: ds, xs, i + 1, d', h, e => by
    simp only [Reps] at h
    obtain ⟨x, xs, rfl, r, rs⟩ := h
    obtain ⟨y, e2, r2⟩ := reps_at (i := i) rs (by simpa using e)
    exact ⟨y, by simpa using e2, r2⟩
theorem reps_drop {w : Wd} : ∀ {ds : List D} {xs : List V} (n : Nat), Reps w ds xs → Reps w (ds.drop n) (xs.drop n)
  | ds, xs, 0, h => h
  | [], xs, n + 1, h => by simp only [Reps] at h; subst h; simp [Reps]
  | d :: ds, xs, n + 1, h => by
    simp only [Reps] at h
    obtain ⟨x, xs, rfl, r, rs⟩ := h
    exact reps_drop n rs
theorem reps_take {w : Wd} : ∀ {ds : List D} {xs : List V} (n : Nat), Reps w ds xs → Reps w (ds.take n) (xs.take n)
  | ds, xs, 0, h => by simp [Reps]
  | [], xs, n + 1, h => by simp only [Reps] at h; subst h; simp [Reps]
  | d :: ds, xs, n + 1, h => by
    simp only [Reps] at h
    obtain ⟨x, xs, rfl, r, rs⟩ := h
    show Reps w (d :: ds.take n) (x :: xs.take n)
    simp only [Reps]
    exact ⟨x, xs.take n, rfl, r, reps_take n rs⟩
theorem reps_get {w : Wd} {ds : List D} {xs : List V} {i : Nat} {x : V} (h : Reps w ds xs) (e : xs[i]? = some x) : ∃ d, ds[i]? = some d ∧ Rep w d x := by
  have hl := reps_len h
  have hi : i < xs.length := (List.getElem?_eq_some_iff.mp e).1
  obtain ⟨d, hd⟩ : ∃ d, ds[i]? = some d := ⟨ds[i]'(by omega), by simp [hl ▸ hi]⟩
  obtain ⟨y, e2, r⟩ := reps_at h hd
  rw [e] at e2
  cases e2
  exact ⟨d, hd, r⟩
/-! ## operators -/
def dAdd : D → D → Store → Option D
  | .int i, .int j, _ => some (.int (i + j))
  | .str x, .str y, _ => if x.length + y.length ≤ sizeLine then some (.str (x ++ y)) else none
  | .tup x, .tup y, _ => if x.length + y.length ≤ sizeLine then some (.tup (x ++ y)) else none
  | .lst x, .lst y, _ => if x.length + y.length ≤ sizeLine then some (.lst (x ++ y)) else none
  | _, _, _ => none
def dSub : D → D → Store → Option D
  | .int i, .int j, _ => some (.int (i - j))
  | _, _, _ => none
def mulOk (i j : Int) : Bool := decide (i.natAbs.log2 + j.natAbs.log2 < 1000000)
def dMul : D → D → Store → Option D
  | .int i, .int j, _ => if mulOk i j then some (.int (i * j)) else none
  | _, _, _ => none
def dMod : D → D → Store → Option D
  | .int i, .int j, _ => if 0 < j then some (.int (i % j)) else none
  | _, _, _ => none
def divOk (j : Int) : Bool := decide (0 < j ∧ j.natAbs.log2 < 9000)
def dDiv : D → D → Store → Option D
  | .int i, .int j, _ => if divOk j then some (.int (i / j)) else none
  | _, _, _ => none
def powOk (i j : Int) : Bool := decide (0 ≤ j ∧ j ≤ 1000000 ∧ i.natAbs < 2 ^ 64)
def dPow : D → D → Store → Option D
  | .int i, .int j, _ => if powOk i j then some (.int (i ^ j.toNat)) else none
  | _, _, _ => none
def dCmpI (p : Int → Int → Bool) : D → D → Store → Option D
  | .int i, .int j, _ => some (.bl (p i j))
  | _, _, _ => none
def dLt := dCmpI fun i j => decide (i < j)
def dLe := dCmpI fun i j => decide (i ≤ j)
def dGt := dCmpI fun i j => decide (j < i)
def dGe := dCmpI fun i j => decide (j ≤ i)
/-- == of data, at any depth -/
def eqD (a b : D) : Option Bool := match a.data, b.data with
  | some p, some q => if SeqAt.shaped p && SeqAt.shaped q then some (PyData.eqv p q) else none
  | _, _ => none
def dEq : D → D → Store → Option D := fun a b _ => (eqD a b).map .bl
def dNe : D → D → Store → Option D := fun a b _ => (eqD a b).map fun r => .bl (!r)
def dIsN : D → D → Store → Option D
  | .non, .non, _ => some (.bl true)
  | .exc _, .non, _ => none
  | _, .non, _ => some (.bl false)
  | _, _, _ => none
def dNotN : D → D → Store → Option D
  | .non, .non, _ => some (.bl false)
  | .exc _, .non, _ => none
  | _, .non, _ => some (.bl true)
  | _, _, _ => none
/-- x in a tuple, a list of data -/
def inD (x y : D) : Option Bool := match x.data, y.data with
  | some p, some (.list qs) => if SeqAt.shaped p && SeqAt.shaped (.list qs) then some (qs.any fun z => PyData.eqv z p) else none
  | some p, some (.tuple qs) => if SeqAt.shaped p && SeqAt.shaped (.tuple qs) then some (qs.any fun z => PyData.eqv z p) else none
  | _, _ => none
def dIn : D → D → Store → Option D := fun a b _ => (inD a b).map .bl
def dNotIn : D → D → Store → Option D := fun a b _ => (inD a b).map fun r => .bl (!r)
def dNeg : D → Store → Option D
  | .int i, _ => some (.int (-i))
  | _, _ => none
section
variable {X : Cx}
theorem wq_some {w : Wd} {o : Option D} {Q : VK} (h : Wq w o Q) : ∃ d, o = some d := let ⟨d, e, _⟩ := h; ⟨d, e⟩
theorem od_sub : OpD X (binaryOp .Sub) dSub := OpR.imp' op_sub fun x y H Q h => by
  obtain ⟨w, a, b, hk, rfl, rs, ra, rb, q⟩ := h
  obtain ⟨d, e⟩ := wq_some q
  unfold dSub at e
  split at e
  · rename_i i j
    simp only [Rep] at ra rb
    exact ⟨i, j, ra, rb, q.here rs rfl (rep_int _)⟩
  · cases e
theorem od_cmp {op : CmpOp} {p : Int → Int → Bool} (h : OpR X (compareOp op) (rI0 fun i j => .bl (p i j))) : OpD X (compareOp op) (dCmpI p) := OpR.imp' h fun x y H Q h => by
  obtain ⟨w, a, b, hk, rfl, rs, ra, rb, q⟩ := h
  obtain ⟨d, e⟩ := wq_some q
  unfold dCmpI at e
  split at e
  · rename_i i j
    simp only [Rep] at ra rb
    exact ⟨i, j, ra, rb, q.here rs rfl (rep_bl _)⟩
  · cases e
theorem od_lt : OpD X (compareOp .Lt) dLt := od_cmp op_lt
theorem od_le : OpD X (compareOp .LtE) dLe := od_cmp op_le
theorem od_gt : OpD X (compareOp .Gt) dGt := od_cmp op_gt
theorem od_ge : OpD X (compareOp .GtE) dGe := od_cmp op_ge
theorem od_mul : OpD X (binaryOp .Mult) dMul := OpR.imp' op_mulW fun x y H Q h => by
  obtain ⟨w, a, b, hk, rfl, rs, ra, rb, q⟩ := h
  obtain ⟨d, e⟩ := wq_some q
  unfold dMul at e
  split at e
  · rename_i i j
    split at e
    · rename_i hc
      simp only [Rep] at ra rb
      exact ⟨i, j, ra, rb, (by have z := of_decide_eq_true hc; exact z), q.here rs (if_pos hc) (rep_int _)⟩
    · cases e
  · cases e
theorem od_mod : OpD X (binaryOp .Mod) dMod := OpR.imp' op_mod fun x y H Q h => by
  obtain ⟨w, a, b, hk, rfl, rs, ra, rb, q⟩ := h
  obtain ⟨d, e⟩ := wq_some q
  unfold dMod at e
  split at e
  · rename_i i j
    split at e
    · rename_i hc
      simp only [Rep] at ra rb
      exact ⟨i, j, ra, rb, hc, q.here rs (if_pos hc) (rep_int _)⟩
    · cases e
  · cases e
theorem od_div : OpD X (binaryOp .FloorDiv) dDiv := OpR.imp' op_fdivW fun x y H Q h => by
  obtain ⟨w, a, b, hk, rfl, rs, ra, rb, q⟩ := h
  obtain ⟨d, e⟩ := wq_some q
  unfold dDiv at e
  split at e
  · rename_i i j
    split at e
    · rename_i hc
      simp only [Rep] at ra rb
      exact ⟨i, j, ra, rb, (by have z := of_decide_eq_true hc; exact z), q.here rs (if_pos hc) (rep_int _)⟩
    · cases e
  · cases e
theorem od_pow : OpD X (binaryOp .Pow) dPow := OpR.imp' op_pow fun x y H Q h => by
  obtain ⟨w, a, b, hk, rfl, rs, ra, rb, q⟩ := h
  obtain ⟨d, e⟩ := wq_some q
  unfold dPow at e
  split at e
  · rename_i i j
    split at e
    · rename_i hc
      simp only [Rep] at ra rb
      exact ⟨i, j, ra, rb, (by have z := of_decide_eq_true hc; exact z), q.here rs (if_pos hc) (rep_int _)⟩
    · cases e
  · cases e
theorem od_eq (hu : X.A.units + 64 < cLine) : OpD X (compareOp .Eq) dEq := OpR.imp' (op_eqD hu) fun x y H Q h => by
  obtain ⟨w, a, b, hk, rfl, rs, ra, rb, q⟩ := h
  obtain ⟨d, e⟩ := wq_some q
  unfold dEq eqD at e
  split at e
  · rename_i p1 p2 e1 e2
    split at e
    · rename_i hc
      obtain ⟨s1, s2⟩ := Bool.and_eq_true_iff.mp hc
      refine ⟨p1, p2, by rw [← hk]; exact dp_of a x p1 ra e1, by rw [← hk]; exact dp_of b y p2 rb e2, s1, s2, q.here rs ?_ (rep_bl _)⟩
      unfold dEq eqD
      rw [e1, e2]
      simp only [hc, if_true]
      rfl
    · cases e
  · cases e
theorem od_ne (hu : X.A.units + 64 < cLine) : OpD X (compareOp .NotEq) dNe := OpR.imp' (op_neD hu) fun x y H Q h => by
  obtain ⟨w, a, b, hk, rfl, rs, ra, rb, q⟩ := h
  obtain ⟨d, e⟩ := wq_some q
  unfold dNe eqD at e
  split at e
  · rename_i p1 p2 e1 e2
    split at e
    · rename_i hc
      obtain ⟨s1, s2⟩ := Bool.and_eq_true_iff.mp hc
      refine ⟨p1, p2, by rw [← hk]; exact dp_of a x p1 ra e1, by rw [← hk]; exact dp_of b y p2 rb e2, s1, s2, q.here rs ?_ (rep_bl _)⟩
      unfold dNe eqD
      rw [e1, e2]
      simp only [hc, if_true]
      rfl
    · cases e
  · cases e
theorem ref_of {w : Wd} {d : D} {v : V} (r : Rep w d v) (h : d ≠ .non) : v ≠ .non := by
  cases d with
  | non => exact absurd rfl h
  | bl _ => simp only [Rep] at r; subst r; exact fun z => nomatch z
  | int _ => simp only [Rep] at r; subst r; exact fun z => nomatch z
  | str _ => simp only [Rep] at r; subst r; exact fun z => nomatch z
  | tup _ => simp only [Rep] at r; obtain ⟨a, xs, rfl, _⟩ := r; exact fun z => nomatch z
  | lst _ => simp only [Rep] at r; obtain ⟨a, xs, rfl, _⟩ := r; exact fun z => nomatch z
  | cell _ => simp only [Rep] at r; rw [r.1]; exact fun z => nomatch z
  | dct0 => simp only [Rep] at r; obtain ⟨a, rfl, _⟩ := r; exact fun z => nomatch z
  | exc _ => simp only [Rep] at r; obtain ⟨a, o, rfl, _⟩ := r; exact fun z => nomatch z
theorem od_isN : OpD X (compareOp .Is) dIsN := OpR.imp' op_isN fun x y H Q h => by
  obtain ⟨w, a, b, hk, rfl, rs, ra, rb, q⟩ := h
  obtain ⟨d, e⟩ := wq_some q
  have hb : b = .non := by cases b <;> first | rfl | (cases a <;> cases e)
  subst hb
  simp only [Rep] at rb
  refine ⟨rb, ?_⟩
  by_cases ha : a = .non
  · subst ha
    simp only [Rep] at ra
    subst ra
    exact q.here rs rfl (rep_bl _)
  · rw [decide_eq_false (ref_of ra ha)]
    refine q.here rs ?_ (rep_bl _)
    cases a <;> first | rfl | exact absurd rfl ha | cases e
theorem od_notN : OpD X (compareOp .IsNot) dNotN := OpR.imp' op_notN fun x y H Q h => by
  obtain ⟨w, a, b, hk, rfl, rs, ra, rb, q⟩ := h
  obtain ⟨d, e⟩ := wq_some q
  have hb : b = .non := by cases b <;> first | rfl | (cases a <;> cases e)
  subst hb
  simp only [Rep] at rb
  refine ⟨rb, ?_⟩
  by_cases ha : a = .non
  · subst ha
    simp only [Rep] at ra
    subst ra
    exact q.here rs rfl (rep_bl _)
  · rw [decide_eq_false (ref_of ra ha)]
    refine q.here rs ?_ (rep_bl _)
    cases a <;> first | rfl | exact absurd rfl ha | cases e
theorem od_add : OpD X (binaryOp .Add) dAdd := OpR.imp' (((op_add (X := X)).or op_add_str).or ((op_catA).or op_cat)) fun x y H Q h => by
  obtain ⟨w, a, b, hk, rfl, rs, ra, rb, q⟩ := h
  obtain ⟨d, e⟩ := wq_some q
  unfold dAdd at e
  split at e
  · rename_i i j
    simp only [Rep] at ra rb
    exact .inl (.inl ⟨i, j, ra, rb, q.here rs rfl (rep_int _)⟩)
  · rename_i i j
    split at e
    · rename_i hc
      simp only [Rep] at ra rb
      exact .inl (.inr ⟨i, j, ra, rb, hc, q.here rs (if_pos hc) (rep_str _)⟩)
    · cases e
  · rename_i ds es
    split at e
    · rename_i hc
      have e0 : dAdd (.tup ds) (.tup es) w.st = some (.tup (ds ++ es)) := if_pos hc
      have ra0 := ra
      have rb0 := rb
      simp only [Rep] at ra rb
      obtain ⟨a, xs, rfl, s1, r1, l1⟩ := ra
      obtain ⟨b, ys, rfl, s2, r2, l2⟩ := rb
      refine .inr (.inl ⟨a, b, xs, ys, rfl, rfl, by rw [← hk]; exact s1, by rw [← hk]; exact s2, by rw [reps_len r1, reps_len r2]; exact hc, fun hx => ?_, fun _ hy => ?_, fun _ _ p hp => ?_⟩)
      · subst hx
        have : ds = [] := List.length_eq_zero_iff.mp (by rw [← reps_len r1]; rfl)
        subst this
        exact q.here rs e0 rb0
      · subst hy
        have : es = [] := List.length_eq_zero_iff.mp (by rw [← reps_len r2]; rfl)
        subst this
        rw [List.append_nil] at e0
        exact q.here rs e0 ra0
      · exact q.new rs hp e0 (rep_newT rs hp (reps_app r1 r2) (by rw [List.length_append]; exact hc))
    · cases e
  · rename_i ds es
    split at e
    · rename_i hc
      have e0 : dAdd (.lst ds) (.lst es) w.st = some (.lst (ds ++ es)) := if_pos hc
      simp only [Rep] at ra rb
      obtain ⟨a, xs, rfl, s1, r1, l1⟩ := ra
      obtain ⟨b, ys, rfl, s2, r2, l2⟩ := rb
      exact .inr (.inr ⟨a, b, xs, ys, rfl, rfl, s1.1.1, s2.1.1, by rw [reps_len r1, reps_len r2]; exact hc, fun p hp => q.new rs hp e0 (rep_new rs hp (reps_app r1 r2) (by rw [List.length_append]; exact hc))⟩)
    · cases e
  · cases e
/-- x in a tuple of data -/
def rInT (K : PySem.W.Frag) (neg : Bool) : R2 := fun x y H Q => ∃ d ds, Dp K H x d ∧ Dp K H y (.tuple ds) ∧ SeqAt.shaped d = true ∧ SeqAt.shaped (.tuple ds) = true ∧ Q (.bl (if neg = true then !ds.any (fun z => PyData.eqv z d) else ds.any fun z => PyData.eqv z d)) H
theorem op_inT (hu : X.A.units + 65 < cLine) : OpR X (compareOp .In) (rInT X.K false) := by
  intro pins s σ H x y v u Q I rx ry h
  obtain ⟨d, ds, hd, he, sd, se, q⟩ := h
  obtain ⟨as, r1⟩ := Dp.reads I d x v hd rx
  obtain ⟨bs, r2⟩ := Dp.reads I (.tuple ds) y u he ry
  exact SeqAt.in_tuple_reads r2 r1 (SeqAt.canLay_of_shaped se) (SeqAt.canLay_of_shaped sd) (room_in_shaped sd hu) ⟨.bl _, H, I, rfl, q⟩
theorem op_notInT (hu : X.A.units + 65 < cLine) : OpR X (compareOp .NotIn) (rInT X.K true) := by
  intro pins s σ H x y v u Q I rx ry h
  obtain ⟨d, ds, hd, he, sd, se, q⟩ := h
  obtain ⟨as, r1⟩ := Dp.reads I d x v hd rx
  obtain ⟨bs, r2⟩ := Dp.reads I (.tuple ds) y u he ry
  exact SeqAt.notIn_tuple_reads r2 r1 (SeqAt.canLay_of_shaped se) (SeqAt.canLay_of_shaped sd) (room_in_shaped sd hu) ⟨.bl _, H, I, rfl, q⟩
theorem od_in (hu : X.A.units + 65 < cLine) : OpD X (compareOp .In) dIn := OpR.imp' ((op_inD hu).or (op_inT hu)) fun x y H Q h => by
  obtain ⟨w, a, b, hk, rfl, rs, ra, rb, q⟩ := h
  obtain ⟨d, e⟩ := wq_some q
  unfold dIn inD at e
  split at e
  · rename_i p qs e1 e2
    split at e
    · rename_i hc
      obtain ⟨s1, s2⟩ := Bool.and_eq_true_iff.mp hc
      refine .inl ⟨p, qs, by rw [← hk]; exact dp_of a x p ra e1, by rw [← hk]; exact dp_of b y _ rb e2, s1, s2, q.here rs ?_ (rep_bl _)⟩
      unfold dIn inD
      rw [e1, e2]
      simp only [hc, if_true]
      rfl
    · cases e
  · rename_i p qs e1 e2
    split at e
    · rename_i hc
      obtain ⟨s1, s2⟩ := Bool.and_eq_true_iff.mp hc
      refine .inr ⟨p, qs, by rw [← hk]; exact dp_of a x p ra e1, by rw [← hk]; exact dp_of b y _ rb e2, s1, s2, q.here rs ?_ (rep_bl _)⟩
      unfold dIn inD
      rw [e1, e2]
      simp only [hc, if_true]
      rfl
    · cases e
  · cases e
theorem od_notIn (hu : X.A.units + 65 < cLine) : OpD X (compareOp .NotIn) dNotIn := OpR.imp' ((op_notInD hu).or (op_notInT hu)) fun x y H Q h => by
  obtain ⟨w, a, b, hk, rfl, rs, ra, rb, q⟩ := h
  obtain ⟨d, e⟩ := wq_some q
  unfold dNotIn inD at e
  split at e
  · rename_i p qs e1 e2
    split at e
    · rename_i hc
      obtain ⟨s1, s2⟩ := Bool.and_eq_true_iff.mp hc
      refine .inl ⟨p, qs, by rw [← hk]; exact dp_of a x p ra e1, by rw [← hk]; exact dp_of b y _ rb e2, s1, s2, q.here rs ?_ (rep_bl _)⟩
      unfold dNotIn inD
      rw [e1, e2]
      simp only [hc, if_true]
      rfl
    · cases e
  · rename_i p qs e1 e2
    split at e
    · rename_i hc
      obtain ⟨s1, s2⟩ := Bool.and_eq_true_iff.mp hc
      refine .inr ⟨p, qs, by rw [← hk]; exact dp_of a x p ra e1, by rw [← hk]; exact dp_of b y _ rb e2, s1, s2, q.here rs ?_ (rep_bl _)⟩
      unfold dNotIn inD
      rw [e1, e2]
      simp only [hc, if_true]
      rfl
    · cases e
  · cases e
theorem ud_neg : UnR X (unaryOp .USub) (rdU X.K dNeg) := UnR.imp' un_neg fun x H Q h => by
  obtain ⟨w, a, hk, rfl, rs, ra, q⟩ := h
  obtain ⟨d, e⟩ := wq_some q
  unfold dNeg at e
  split at e
  · rename_i i
    simp only [Rep] at ra
    exact ⟨i, ra, q.here rs rfl (rep_int _)⟩
  · cases e
end
end G
end

section
set_option Elab.async false
set_option linter.all false
set_option autoImplicit false
set_option maxRecDepth 100000
set_option maxHeartbeats 1000000
namespace G
open PySem PySem.Spec PyProof.Rows L2
/-! ## subscripts, slices -/
theorem atI_reps {w : Wd} {ds : List D} {xs : List V} {i : Int} {d : D} (h : Reps w ds xs) (e : atI ds i = some d) : ∃ x, atI xs i = some x ∧ Rep w d x := by
  unfold atI at e ⊢
  rw [reps_len h]
  cases q : ixN ds.length i with
  | none => rw [q] at e; cases e
  | some j =>
    rw [q] at e
    obtain ⟨x, e2, r⟩ := reps_at h (i := j) (d := d) e
    exact ⟨x, e2, r⟩
def cellL (st : Store) (i : Nat) : Option (List D) := match st[i]? with
  | some (.lst l) => some l
  | some (.ro l) => some l
  | _ => none
/-- a list's cell that is read -/
theorem cell_sq {w : Wd} (rs : RS w) {i : Nat} {l : List D} (h : cellL w.st i = some l) : ∃ xs, SqL w.K w.H (w.m i) xs ∧ Reps w l xs ∧ l.length ≤ sizeLine := by
  unfold cellL at h
  split at h
  · rename_i l' e
    cases h
    obtain ⟨xs, e1, r1, z⟩ := rs.cells i _ e
    exact ⟨xs, SqL.of e1, r1, z⟩
  · rename_i l' e
    cases h
    obtain ⟨xs, e1, r1, z⟩ := rs.cells i _ e
    exact ⟨xs, e1.sq, r1, z⟩
  · cases h
def dIdx : D → D → Store → Option D
  | .tup l, .int i, _ => atI l i
  | .lst l, .int i, _ => atI l i
  | .cell c, .int i, st => (cellL st c).bind fun l => atI l i
  | .str z, .int i, _ => if z.length ≤ sizeLine then (atI z.cps.toList i).map fun c => .str ⟨#[c]⟩ else none
  | _, _, _ => none
section
variable {X : Cx} {W : XW} {e a b c : Expr} {pos : Pos} {fa fb fc : Ev → M D}
theorem IxR.imp' {r r' : R2} (h : IxR X r) (k : ∀ x y H Q, r' x y H Q → r x y H Q) : IxR X r' := fun va sl pins s σ H x y v u Q I rx ry z => h va sl pins s σ H x y v u Q I rx ry (k _ _ _ _ z)
theorem xd_idx : IxR X (rdO X.K dIdx) := IxR.imp' ((ix_list (X := X)).or (ix_tup.or ix_str)) fun x y H Q h => by
  obtain ⟨w, a, b, hk, rfl, rs, ra, rb, q⟩ := h
  obtain ⟨d, e⟩ := wq_some q
  unfold dIdx at e
  split at e
  · rename_i l i
    simp only [Rep] at ra rb
    obtain ⟨a, xs, rfl, s1, r1, l1⟩ := ra
    obtain ⟨z, e2, r2⟩ := atI_reps r1 e
    exact .inr (.inl ⟨a, xs, i, z, rfl, rb, by rw [← hk]; exact s1, e2, q.here rs e r2⟩)
  · rename_i l i
    simp only [Rep] at ra rb
    obtain ⟨a, xs, rfl, s1, r1, l1⟩ := ra
    obtain ⟨z, e2, r2⟩ := atI_reps r1 e
    exact .inl ⟨a, xs, i, z, rfl, rb, SqL.of s1.1.1, e2, q.here rs e r2⟩
  · rename_i st' c i
    simp only [Rep] at ra rb
    have e0 := e
    cases qc : cellL w.st c with
    | none => rw [qc] at e; cases e
    | some l =>
      rw [qc] at e
      obtain ⟨xs, s1, r1, l1⟩ := cell_sq rs qc
      obtain ⟨z, e2, r2⟩ := atI_reps r1 e
      exact .inl ⟨_, xs, i, z, ra.1, rb, by rw [← hk]; exact s1, e2, q.here rs e0 r2⟩
  · rename_i z i
    simp only [Rep] at ra rb
    have e0 := e
    split at e
    · rename_i hl
      cases qa : atI z.cps.toList i with
      | none => rw [qa] at e; cases e
      | some c =>
        rw [qa] at e
        exact .inr (.inr ⟨z, i, c, ra, rb, hl, qa, q.here rs (e0.trans e.symm) (rep_str _)⟩)
    · cases e
  · cases e
theorem de_ix (ha : DE X W a fa) (hb : DE X W b fb) (hs : PlainIx b := by intro _ _; rfl) : DE X W (.Subscript a b pos) (eOp dIdx fa fb) := PE.imp' (pe_ix xd_idx ha hb hs) fun _ _ _ h => two h
def cut (l : List D) (lo hi : Option Int) : List D := (l.drop (HT.sIx l.length 0 lo)).take (HT.sIx l.length l.length hi - HT.sIx l.length 0 lo)
theorem cut_len (l : List D) (lo hi : Option Int) : (cut l lo hi).length ≤ l.length := by
  unfold cut
  rw [List.length_take, List.length_drop]
  omega
theorem cut_reps {w : Wd} {ds : List D} {xs : List V} (lo hi : Option Int) (h : Reps w ds xs) : Reps w (cut ds lo hi) (cutV xs lo hi) := by
  unfold cut cutV
  rw [reps_len h]
  exact reps_take _ (reps_drop _ h)
def dSl (lo hi : Option Int) : D → Store → Option D
  | .tup l, _ => some (.tup (cut l lo hi))
  | .lst l, _ => some (.lst (cut l lo hi))
  | .cell c, st => (cellL st c).map fun l => .lst (cut l lo hi)
  | .str z, _ => if z.length ≤ sizeLine then some (.str (cutS z lo hi)) else none
  | _, _ => none
def rdSl (K : PySem.W.Frag) : V → Option Int → Option Int → Hp → VK → Prop := fun x lo hi H Q => ∃ (w : Wd) (a : D), w.K = K ∧ w.H = H ∧ RS w ∧ Rep w a x ∧ Wq w (dSl lo hi a w.st) Q
theorem SlR.imp' {r r' : V → Option Int → Option Int → Hp → VK → Prop} (h : SlR X r) (k : ∀ x lo hi H Q, r' x lo hi H Q → r x lo hi H Q) : SlR X r' := fun pins s σ H x v vl vu lo hi sl Q I rx hs pl pu z => h pins s σ H x v vl vu lo hi sl Q I rx hs pl pu (k _ _ _ _ _ z)
theorem cut_whole {l : List D} {lo hi : Option Int} (h1 : HT.sIx l.length 0 lo = 0) (h2 : HT.sIx l.length l.length hi = l.length) : cut l lo hi = l := by
  unfold cut
  rw [h1, h2]
  simp
theorem sd_sl : SlR X (rdSl X.K) := SlR.imp' ((sl_list (X := X)).or (sl_tupA.or sl_str)) fun x lo hi H Q h => by
  obtain ⟨w, a, hk, rfl, rs, ra, q⟩ := h
  obtain ⟨d, e⟩ := wq_some q
  unfold dSl at e
  split at e
  · rename_i l
    have ra0 := ra
    simp only [Rep] at ra
    obtain ⟨a, xs, rfl, s1, r1, l1⟩ := ra
    refine .inr (.inl ⟨a, xs, rfl, by rw [← hk]; exact s1, fun hw => ?_, fun _ p hp => ?_⟩)
    · rw [reps_len r1] at hw
      exact q.here rs (congrArg (fun z => some (D.tup z)) (cut_whole hw.1 hw.2)) ra0
    · exact q.new rs hp rfl (rep_newT rs hp (cut_reps lo hi r1) (Nat.le_trans (cut_len l lo hi) l1))
  · rename_i l
    simp only [Rep] at ra
    obtain ⟨a, xs, rfl, s1, r1, l1⟩ := ra
    exact .inl ⟨a, xs, rfl, SqL.of s1.1.1, fun p hp => q.new rs hp rfl (rep_new rs hp (cut_reps lo hi r1) (Nat.le_trans (cut_len l lo hi) l1))⟩
  · rename_i st' c
    simp only [Rep] at ra
    have e0 := e
    cases qc : cellL w.st c with
    | none => rw [qc] at e; cases e
    | some l =>
      rw [qc] at e
      obtain ⟨xs, s1, r1, l1⟩ := cell_sq rs qc
      refine .inl ⟨_, xs, ra.1, by rw [← hk]; exact s1, fun p hp => q.new rs hp (e0.trans e.symm) (rep_new rs hp (cut_reps lo hi r1) (Nat.le_trans (cut_len l lo hi) l1))⟩
  · rename_i z
    simp only [Rep] at ra
    split at e
    · rename_i hl
      exact .inr (.inr ⟨z, ra, hl, q.here rs (if_pos hl) (rep_str _)⟩)
    · cases e
  · cases e
def rdP (K : PySem.W.Frag) (W : XW) (f : Ev → M (Option Int)) : TO := fun σ H Q => ∃ (w : Wd) (env : Ev), w.K = K ∧ w.H = H ∧ RS w ∧ REnv w env σ ∧ Wp w (f env w.st) (fun o w' => Q o w'.H) (fun c w' => W c σ w'.H)
def DP (X : Cx) (W : XW) (e : Option Expr) (f : Ev → M (Option Int)) : Prop := PO X e (rdP X.K W f)
theorem PO.imp' {e : Option Expr} {t t' : TO} (h : PO X e t) (k : ∀ σ H Q, t' σ H Q → t σ H Q) : PO X e t' := ⟨fun pins s σ H Q I z => h.run pins s σ H Q I (k σ H Q z)⟩
def pNo : Ev → M (Option Int) := fun _ => pure none
def asI : D → M Int
  | .int i => pure i
  | _ => M.stuck
def pAt (f : Ev → M D) : Ev → M (Option Int) := fun env => do
  let d ← f env
  let i ← asI d
  pure (some i)
theorem asI_wp {w : Wd} {d : D} {P : Int → Wd → Prop} {V' : Str → Wd → Prop} (rs : RS w) (h : Wp w (asI d w.st) P V') : ∃ b, d = .int b ∧ P b w := by
  cases d with
  | int b => exact ⟨b, rfl, Wp.ok_ rs h⟩
  | _ => exact h.elim
theorem dp_no : DP X W none pNo := PO.imp' po_none fun σ H Q h => by
  obtain ⟨w, env, hk, rfl, r, n, h⟩ := h
  exact Wp.ok_ (a := (none : Option Int)) r h
theorem dp_at (ha : DE X W a fa) : DP X W (some a) (pAt fa) := PO.imp' (po_some ha) fun σ H Q h => by
  obtain ⟨w, env, hk, rfl, r, n, h⟩ := h
  refine ⟨w, env, hk, rfl, r, n, (Wp.bind h).imp fun x w1 a1 h1 v rv => ?_⟩
  obtain ⟨i, rfl, h2⟩ := asI_wp a1.rs (Wp.bind h1)
  simp only [Rep] at rv
  exact ⟨i, rv, Wp.ok_ (a := some i) a1.rs h2⟩
def eSl (fa : Ev → M D) (fl fh : Ev → M (Option Int)) : Ev → M D := fun env => do
  let d ← fa env
  let lo ← fl env
  let hi ← fh env
  lift (dSl lo hi d)
theorem de_sl {lo hi : Option Expr} {p2 : Pos} {fl fh : Ev → M (Option Int)} (ha : DE X W a fa) (hl : DP X W lo fl) (hh : DP X W hi fh) : DE X W (.Subscript a (.Slice lo hi none p2) pos) (eSl fa fl fh) := PE.imp' (pe_slice sd_sl ha hl hh) fun σ H Q h => by
  obtain ⟨w, env, hk, rfl, r, n, h⟩ := h
  refine ⟨w, env, hk, rfl, r, n, (Wp.bind h).imp fun x w1 a1 h1 v rv => ?_⟩
  refine ⟨w1, env, a1.k.trans hk, rfl, a1.rs, n.after a1, (Wp.bind h1).imp fun lo w2 a2 h2 => ?_⟩
  refine ⟨w2, env, a2.k.trans (a1.k.trans hk), rfl, a2.rs, (n.after a1).after a2, (Wp.bind h2).imp fun hi w3 a3 h3 => ?_⟩
  exact ⟨w3, x, a3.k.trans (a2.k.trans (a1.k.trans hk)), rfl, a3.rs, (a2.trans a3).rep rv, Wq.of h3⟩
/-! ## a < b < c -/
def eChain (g g' : D → D → Store → Option D) (fa fb fc : Ev → M D) : Ev → M D := fun env => do
  let x ← fa env
  let y ← fb env
  let z ← lift (g x y)
  let k ← asB z
  if k = true then do
    let u ← fc env
    lift (g' y u)
  else pure (.bl false)
theorem chain_rd {g g' : D → D → Store → Option D} {σ : L2.St} {H : Hp} {Q : VK} (h : rdE X.K W (eChain g g' fa fb fc) σ H Q) : tChain (rdO X.K g) (rdO X.K g') (rdE X.K W fa) (rdE X.K W fb) (rdE X.K W fc) σ H Q := by
  obtain ⟨w, env, hk, rfl, r, n, h⟩ := h
  refine ⟨w, env, hk, rfl, r, n, (Wp.bind h).imp fun x w1 a1 h1 v rv => ?_⟩
  refine ⟨w1, env, a1.k.trans hk, rfl, a1.rs, n.after a1, (Wp.bind h1).imp fun y w2 a2 h2 u ru => ?_⟩
  have h3 := Wp.bind h2
  refine ⟨w2, x, y, a2.k.trans (a1.k.trans hk), rfl, a2.rs, a2.rep rv, ru, ?_⟩
  unfold lift at h3
  cases e : g x y w2.st with
  | none => rw [e] at h3; exact h3.elim
  | some z =>
    rw [e] at h3
    refine ⟨z, rfl, fun w3 a3 e3 t rt => ?_⟩
    have h4 := h3 w3 a3 e3
    obtain ⟨k, rfl, h5⟩ := asB_wp a3.rs (Wp.bind h4)
    simp only [Rep] at rt
    refine ⟨k, rt, ?_⟩
    cases k with
    | true =>
      refine iteT ⟨w3, env, a3.k.trans (a2.k.trans (a1.k.trans hk)), rfl, a3.rs, ((n.after a1).after a2).after a3, (Wp.bind h5).imp fun t' w4 a4 h6 s rs' => ?_⟩
      exact ⟨w4, y, t', a4.k.trans (a3.k.trans (a2.k.trans (a1.k.trans hk))), rfl, a4.rs, (a3.trans a4).rep ru, rs', Wq.of h6⟩
    | false => exact iteF (Wp.ok_ (a := D.bl false) a3.rs h5 _ (rep_bl _))
theorem de_chain {op op' : CmpOp} {g g' : D → D → Store → Option D} (ho : OpD X (compareOp op) g) (ho' : OpD X (compareOp op') g') (ha : DE X W a fa) (hb : DE X W b fb) (hc : DE X W c fc)
    (hm : lastMarks [op, op'] [b, c] = false := by with_unfolding_all rfl) : DE X W (.Compare a [op, op'] [b, c] pos) (eChain g g' fa fb fc) := PE.imp' (pe_chain ho ho' ha hb hc hm) fun _ _ _ h => chain_rd h
theorem dt_chain {op op' : CmpOp} {g g' : D → D → Store → Option D} (ho : OpD X (compareOp op) g) (ho' : OpD X (compareOp op') g') (ha : DE X W a fa) (hb : DE X W b fb) (hc : DE X W c fc)
    (hm : lastMarks [op, op'] [b, c] = false := by with_unfolding_all rfl) : DT X W (.Compare a [op, op'] [b, c] pos) (tVal (eChain g g' fa fb fc)) := PT.imp' (pt_chain ho ho' ha hb hc hm) fun σ H Q h => chain_rd (tval h)
/-! ## isinstance with a built-in class -/
def tyName (st : Store) : D → Option String
  | .non => some "NoneType"
  | .bl _ => some "bool"
  | .int _ => some "int"
  | .str _ => some "str"
  | .tup _ => some "tuple"
  | .lst _ => some "list"
  | .dct0 => some "dict"
  | .cell i => match st[i]? with
    | some (.lst _) => some "list"
    | some (.dct _) => some "dict"
    | _ => none
  | .exc _ => none
theorem tyx_of {w : Wd} (rs : RS w) {d : D} {v : V} {n : String} (r : Rep w d v) (h : tyName w.st d = some n) : TyX w.K w.H v (.type n) := by
  cases d with
  | non => simp only [Rep] at r; cases h; subst r; exact .base .non
  | bl b => simp only [Rep] at r; cases h; subst r; exact .base (.bl b)
  | int b => simp only [Rep] at r; cases h; subst r; exact .base (.int b)
  | str b => simp only [Rep] at r; cases h; subst r; exact .base (.str b)
  | tup l =>
    simp only [Rep] at r; cases h
    obtain ⟨a, xs, rfl, s, _, _⟩ := r
    rcases s with (s | ⟨o, s⟩) | ⟨o, its, k, s1, s2, _⟩
    · exact .base (.tup s)
    · exact .fTuple s
    · exact .kTuple s1 s2
  | lst l =>
    simp only [Rep] at r; cases h
    obtain ⟨a, xs, rfl, s, _, _⟩ := r
    exact .base (.lst s.1.1)
  | dct0 =>
    simp only [Rep] at r; cases h
    obtain ⟨a, rfl, s⟩ := r
    exact .base (.dK s.1.1)
  | cell i =>
    simp only [Rep] at r
    unfold tyName at h
    simp only at h
    rw [r.1]
    split at h
    · rename_i l e
      cases h
      obtain ⟨xs, e1, _, _⟩ := rs.cells i _ e
      exact .base (.lst e1)
    · rename_i l e
      cases h
      obtain ⟨xs, e1, _⟩ := rs.cells i _ e
      exact .base (.dK e1)
    · cases h
  | exc c => cases h
/-- the answer of isinstance for the seven types -/
def isTy (n T : String) : Bool := n == T || (n == "bool" && T == "int")
def knownTy (T : String) : Prop := ∀ n ∈ ["NoneType", "bool", "int", "str", "tuple", "list", "dict"], kitB n T = some (isTy n T)
theorem ty_int : knownTy "int" := by unfold knownTy; decide +kernel
theorem ty_bool : knownTy "bool" := by unfold knownTy; decide +kernel
theorem ty_str : knownTy "str" := by unfold knownTy; decide +kernel
theorem ty_tuple : knownTy "tuple" := by unfold knownTy; decide +kernel
theorem ty_list : knownTy "list" := by unfold knownTy; decide +kernel
theorem ty_dict : knownTy "dict" := by unfold knownTy; decide +kernel
theorem tyName_mem {st : Store} {d : D} {n : String} (h : tyName st d = some n) : n ∈ ["NoneType", "bool", "int", "str", "tuple", "list", "dict"] := by
  cases d with
  | cell i =>
    unfold tyName at h
    simp only at h
    split at h <;> cases h <;> decide
  | exc c => cases h
  | _ => cases h; decide
def dIsT (T : String) : D → Store → Option D := fun d st => (tyName st d).map fun n => .bl (isTy n T)
theorem de_isi {T : String} {x : Str} {p p' : Pos} (hT : knownTy T) (ha : DE X W a fa) (hg : Gl X "isinstance") (hm : X.mg "isinstance" = none) (hg2 : Gl X x) (hm2 : X.mg x = none) (hv : bootBuiltins x = some (.type T)) (hn : x ≠ "__name__" := by decide) (hdb : (x == ("__debug__" : Str)) = false := by decide)
    (he : starEach [a, .Name x p'] X.env = (false, eval a X.env) :: starEach [.Name x p'] X.env := by rfl) (he2 : starEach [.Name x p'] X.env = (false, eval (.Name x p') X.env) :: starEach [] X.env := by rfl) (hpl : (backTo pos (starEach [.Name x p'] X.env)).any (·.1) = false := by rfl) :
    DE X W (.Call (.Name "isinstance" p) [a, .Name x p'] [] pos) (eUn (dIsT T) fa) := by
  refine PE.imp' (pe_callB call_isi hg hm (by decide +kernel) (pa_cons ha (pa_cons (pe_bltn (v := .ty T) hg2 hm2 hv rfl hn hdb) pa_nil he2) he) (by decide) (by decide) he hpl) fun σ H Q h => ?_
  obtain ⟨w, env, hk, rfl, r, n, h⟩ := h
  refine ⟨w, env, hk, rfl, r, n, (Wp.bind h).imp fun d w1 a1 h1 v rv => ?_⟩
  have q := Wq.of h1
  obtain ⟨d', e⟩ := wq_some q
  cases et : tyName w1.st d with
  | none => unfold dIsT at e; rw [et] at e; cases e
  | some t =>
    refine ⟨v, .ty T, .type t, .type T, isTy t T, rfl, .ty T, by rw [← hk, ← a1.k]; exact tyx_of a1.rs rv et, kit_ty (hT t (tyName_mem et)), ?_⟩
    exact q.here a1.rs (by unfold dIsT; rw [et]; rfl) (rep_bl _)
end
end G
end

section
set_option Elab.async false
set_option linter.all false
set_option autoImplicit false
set_option maxRecDepth 100000
set_option maxHeartbeats 1000000
namespace G
open PySem PySem.Spec PyProof.Rows L2
/-! ## built-in functions -/
theorem reps1 {w : Wd} {d : D} {vs : List V} (h : Reps w [d] vs) : ∃ v, vs = [v] ∧ Rep w d v := by
  simp only [Reps] at h
  obtain ⟨x, xs, rfl, r, rfl⟩ := h
  exact ⟨x, rfl, r⟩
theorem reps2 {w : Wd} {d e : D} {vs : List V} (h : Reps w [d, e] vs) : ∃ v u, vs = [v, u] ∧ Rep w d v ∧ Rep w e u := by
  simp only [Reps] at h
  obtain ⟨x, xs, rfl, r, y, ys, rfl, r2, rfl⟩ := h
  exact ⟨x, y, rfl, r, r2⟩
def ints? : List D → Option (List Int)
  | [] => some []
  | .int i :: r => (ints? r).map (i :: ·)
  | _ => none
def bools? : List D → Option (List Bool)
  | [] => some []
  | .bl i :: r => (bools? r).map (i :: ·)
  | _ => none
theorem ints_reps {w : Wd} : ∀ {l : List D} {ns : List Int} {xs : List V}, ints? l = some ns → Reps w l xs → xs = ns.map V.int
  | [], ns, xs, h, r => by cases h; simp only [Reps] at r; exact r
  | .int i :: l, ns, xs, h, r => by
    simp only [Reps] at r
    obtain ⟨x, ys, rfl, r1, r2⟩ := r
    cases q : ints? l with
    | none => simp [ints?, q] at h
    | some ms =>
      simp [ints?, q] at h
      subst h
      simp only [Rep] at r1
      subst r1
      rw [ints_reps q r2]
      rfl
  | .non :: _, _, _, h, _ => by cases h
  | .bl _ :: _, _, _, h, _ => by cases h
  | .str _ :: _, _, _, h, _ => by cases h
  | .tup _ :: _, _, _, h, _ => by cases h
  | .lst _ :: _, _, _, h, _ => by cases h
  | .cell _ :: _, _, _, h, _ => by cases h
  | .dct0 :: _, _, _, h, _ => by cases h
  | .exc _ :: _, _, _, h, _ => by cases h
theorem bools_reps {w : Wd} : ∀ {l : List D} {ns : List Bool} {xs : List V}, bools? l = some ns → Reps w l xs → xs = ns.map V.bl
  | [], ns, xs, h, r => by cases h; simp only [Reps] at r; exact r
  | .bl i :: l, ns, xs, h, r => by
    simp only [Reps] at r
    obtain ⟨x, ys, rfl, r1, r2⟩ := r
    cases q : bools? l with
    | none => simp [bools?, q] at h
    | some ms =>
      simp [bools?, q] at h
      subst h
      simp only [Rep] at r1
      subst r1
      rw [bools_reps q r2]
      rfl
  | .non :: _, _, _, h, _ => by cases h
  | .int _ :: _, _, _, h, _ => by cases h
  | .str _ :: _, _, _, h, _ => by cases h
  | .tup _ :: _, _, _, h, _ => by cases h
  | .lst _ :: _, _, _, h, _ => by cases h
  | .cell _ :: _, _, _, h, _ => by cases h
  | .dct0 :: _, _, _, h, _ => by cases h
  | .exc _ :: _, _, _, h, _ => by cases h
def dLen : List D → Store → Option D
  | [.str z], _ => if z.length ≤ sizeLine then some (.int z.length) else none
  | [.tup l], _ => some (.int l.length)
  | [.lst l], _ => some (.int l.length)
  | [.cell c], st => (cellL st c).map fun l => .int l.length
  | _, _ => none
def dSum : List D → Store → Option D
  | [.lst l], _ => (ints? l).map fun ns => .int ns.sum
  | _, _ => none
def dAll : List D → Store → Option D
  | [.lst l], _ => (bools? l).map fun ns => .bl (ns.all id)
  | _, _ => none
def dAny : List D → Store → Option D
  | [.lst l], _ => (bools? l).map fun ns => .bl (ns.any id)
  | _, _ => none
def dTuple : List D → Store → Option D
  | [.lst l], _ => some (.tup l)
  | [.tup l], _ => some (.tup l)
  | [.cell c], st => (cellL st c).map fun l => .tup l
  | _, _ => none
def dList : List D → Store → Option D
  | [.lst l], _ => some (.lst l)
  | [.tup l], _ => some (.lst l)
  | [.cell c], st => (cellL st c).map fun l => .lst l
  | _, _ => none
def dMax2 : List D → Store → Option D
  | [.int i, .int j], _ => some (.int (if j > i then j else i))
  | _, _ => none
def dMin2 : List D → Store → Option D
  | [.int i, .int j], _ => some (.int (if j < i then j else i))
  | _, _ => none
def dDivmod : List D → Store → Option D
  | [.int i, .int j], _ => if divOk j then some (.tup [.int (i / j), .int (i % j)]) else none
  | _, _ => none
def dStr : List D → Store → Option D
  | [.int i], _ => if i.natAbs.log2 < 1920 then some (.str (toString i)) else none
  | _, _ => none
def dInt : List D → Store → Option D
  | [.str a], _ => if a.length ≤ 640 then (PySem.intText? a).map .int else none
  | [.int i], _ => some (.int i)
  | _, _ => none
theorem divp_of {i j : Int} (h : divOk j = true) : CDivP i j := by
  obtain ⟨h1, h2⟩ := (by have z := of_decide_eq_true h; exact z : 0 < j ∧ j.natAbs.log2 < 9000)
  refine ⟨h1, ?_⟩
  unfold Builtin.divisionGoesByPylong
  simp only [Bool.and_eq_false_iff, decide_eq_false_iff_not]
  left
  have hj : (j == 0) = false := by simp; omega
  rw [hj]
  simp only [if_neg (show ¬ (false = true) by decide)]
  omega
section
variable {X : Cx} {W : XW} {e a b c : Expr} {pos : Pos} {fa fb fc : Ev → M D}
theorem cd_len : CallD X (.builtin "len") dLen := CallR.imp' ((call_len_seq (X := X)).or call_len_str) fun xs H Q h => by
  obtain ⟨w, ds, hk, rfl, rs, rd, q⟩ := h
  obtain ⟨d, e⟩ := wq_some q
  unfold dLen at e
  split at e
  · rename_i z
    obtain ⟨v, rfl, r⟩ := reps1 rd
    simp only [Rep] at r
    split at e
    · rename_i hl
      exact .inr ⟨z, by rw [r], hl, q.here rs (if_pos hl) (rep_int _)⟩
    · cases e
  · rename_i l
    obtain ⟨v, rfl, r⟩ := reps1 rd
    simp only [Rep] at r
    obtain ⟨a, ys, rfl, s, r1, _⟩ := r
    refine .inl ⟨a, ys, rfl, .inr (by rw [← hk]; exact s), ?_⟩
    rw [reps_len r1]
    exact q.here rs rfl (rep_int _)
  · rename_i l
    obtain ⟨v, rfl, r⟩ := reps1 rd
    simp only [Rep] at r
    obtain ⟨a, ys, rfl, s, r1, _⟩ := r
    refine .inl ⟨a, ys, rfl, .inl (SqL.of s.1.1), ?_⟩
    rw [reps_len r1]
    exact q.here rs rfl (rep_int _)
  · rename_i st' c
    obtain ⟨v, rfl, r⟩ := reps1 rd
    simp only [Rep] at r
    have e0 := e
    cases qc : cellL w.st c with
    | none => rw [qc] at e; cases e
    | some l =>
      rw [qc] at e
      obtain ⟨ys, s1, r1, _⟩ := cell_sq rs qc
      refine .inl ⟨_, ys, by rw [r.1], .inl (by rw [← hk]; exact s1), ?_⟩
      rw [reps_len r1]
      exact q.here rs (e0.trans e.symm) (rep_int _)
  · cases e
theorem cd_sum (hc : X.calm = true) : CallD X (.builtin "sum") dSum := CallR.imp' (cr_sum hc) fun xs H Q h => by
  obtain ⟨w, ds, hk, rfl, rs, rd, q⟩ := h
  obtain ⟨d, e⟩ := wq_some q
  unfold dSum at e
  split at e
  · rename_i l
    obtain ⟨v, rfl, r⟩ := reps1 rd
    simp only [Rep] at r
    obtain ⟨a, ys, rfl, s, r1, _⟩ := r
    have e0 := e
    cases qi : ints? l with
    | none => rw [qi] at e; cases e
    | some ns =>
      rw [qi] at e
      exact ⟨a, ns, rfl, by rw [← ints_reps qi r1]; exact SqL.of s.1.1, q.here rs (e0.trans e.symm) (rep_int _)⟩
  · cases e
theorem cd_all (hc : X.calm = true) : CallD X (.builtin "all") dAll := CallR.imp' (cr_all hc) fun xs H Q h => by
  obtain ⟨w, ds, hk, rfl, rs, rd, q⟩ := h
  obtain ⟨d, e⟩ := wq_some q
  unfold dAll at e
  split at e
  · rename_i l
    obtain ⟨v, rfl, r⟩ := reps1 rd
    simp only [Rep] at r
    obtain ⟨a, ys, rfl, s, r1, _⟩ := r
    have e0 := e
    cases qi : bools? l with
    | none => rw [qi] at e; cases e
    | some ns =>
      rw [qi] at e
      exact ⟨a, ns, rfl, by rw [← bools_reps qi r1]; exact SqL.of s.1.1, q.here rs (e0.trans e.symm) (rep_bl _)⟩
  · cases e
theorem cd_any (hc : X.calm = true) : CallD X (.builtin "any") dAny := CallR.imp' (cr_any hc) fun xs H Q h => by
  obtain ⟨w, ds, hk, rfl, rs, rd, q⟩ := h
  obtain ⟨d, e⟩ := wq_some q
  unfold dAny at e
  split at e
  · rename_i l
    obtain ⟨v, rfl, r⟩ := reps1 rd
    simp only [Rep] at r
    obtain ⟨a, ys, rfl, s, r1, _⟩ := r
    have e0 := e
    cases qi : bools? l with
    | none => rw [qi] at e; cases e
    | some ns =>
      rw [qi] at e
      exact ⟨a, ns, rfl, by rw [← bools_reps qi r1]; exact SqL.of s.1.1, q.here rs (e0.trans e.symm) (rep_bl _)⟩
  · cases e
theorem cd_tuple : CallD X (.type "tuple") dTuple := CallR.imp' call_tuple_of fun xs H Q h => by
  obtain ⟨w, ds, hk, rfl, rs, rd, q⟩ := h
  obtain ⟨d, e⟩ := wq_some q
  unfold dTuple at e
  split at e
  · rename_i l
    obtain ⟨v, rfl, r⟩ := reps1 rd
    simp only [Rep] at r
    obtain ⟨a, ys, rfl, s, r1, l1⟩ := r
    exact ⟨a, ys, rfl, .inl ⟨SqL.of s.1.1, fun p hp => q.new rs hp rfl (rep_newT rs hp r1 l1)⟩⟩
  · rename_i l
    obtain ⟨v, rfl, r⟩ := reps1 rd
    have r0 := r
    simp only [Rep] at r
    obtain ⟨a, ys, rfl, s, r1, l1⟩ := r
    exact ⟨a, ys, rfl, .inr ⟨by rw [← hk]; exact s, q.here rs rfl r0⟩⟩
  · rename_i st' c
    obtain ⟨v, rfl, r⟩ := reps1 rd
    simp only [Rep] at r
    have e0 := e
    cases qc : cellL w.st c with
    | none => rw [qc] at e; cases e
    | some l =>
      rw [qc] at e
      obtain ⟨ys, s1, r1, l1⟩ := cell_sq rs qc
      exact ⟨_, ys, by rw [r.1], .inl ⟨by rw [← hk]; exact s1, fun p hp => q.new rs hp (e0.trans e.symm) (rep_newT rs hp r1 l1)⟩⟩
  · cases e
theorem cd_list : CallD X (.type "list") dList := CallR.imp' call_list_of fun xs H Q h => by
  obtain ⟨w, ds, hk, rfl, rs, rd, q⟩ := h
  obtain ⟨d, e⟩ := wq_some q
  unfold dList at e
  split at e
  · rename_i l
    obtain ⟨v, rfl, r⟩ := reps1 rd
    simp only [Rep] at r
    obtain ⟨a, ys, rfl, s, r1, l1⟩ := r
    exact ⟨a, ys, rfl, .inl (SqL.of s.1.1), fun p hp => q.new rs hp rfl (rep_new rs hp r1 l1)⟩
  · rename_i l
    obtain ⟨v, rfl, r⟩ := reps1 rd
    simp only [Rep] at r
    obtain ⟨a, ys, rfl, s, r1, l1⟩ := r
    exact ⟨a, ys, rfl, .inr (by rw [← hk]; exact s), fun p hp => q.new rs hp rfl (rep_new rs hp r1 l1)⟩
  · rename_i st' c
    obtain ⟨v, rfl, r⟩ := reps1 rd
    simp only [Rep] at r
    have e0 := e
    cases qc : cellL w.st c with
    | none => rw [qc] at e; cases e
    | some l =>
      rw [qc] at e
      obtain ⟨ys, s1, r1, l1⟩ := cell_sq rs qc
      exact ⟨_, ys, by rw [r.1], .inl (by rw [← hk]; exact s1), fun p hp => q.new rs hp (e0.trans e.symm) (rep_new rs hp r1 l1)⟩
  · cases e
theorem cd_max2 (hc : X.calm = true) : CallD X (.builtin "max") dMax2 := CallR.imp' (call_max2 hc) fun xs H Q h => by
  obtain ⟨w, ds, hk, rfl, rs, rd, q⟩ := h
  obtain ⟨d, e⟩ := wq_some q
  unfold dMax2 at e
  split at e
  · rename_i i j
    obtain ⟨v, u, rfl, r, r2⟩ := reps2 rd
    simp only [Rep] at r r2
    exact ⟨i, j, by rw [r, r2], q.here rs rfl (rep_int _)⟩
  · cases e
theorem cd_min2 (hc : X.calm = true) : CallD X (.builtin "min") dMin2 := CallR.imp' (call_min2 hc) fun xs H Q h => by
  obtain ⟨w, ds, hk, rfl, rs, rd, q⟩ := h
  obtain ⟨d, e⟩ := wq_some q
  unfold dMin2 at e
  split at e
  · rename_i i j
    obtain ⟨v, u, rfl, r, r2⟩ := reps2 rd
    simp only [Rep] at r r2
    exact ⟨i, j, by rw [r, r2], q.here rs rfl (rep_int _)⟩
  · cases e
theorem cd_divmod : CallD X (.builtin "divmod") dDivmod := CallR.imp' call_divmodW fun xs H Q h => by
  obtain ⟨w, ds, hk, rfl, rs, rd, q⟩ := h
  obtain ⟨d, e⟩ := wq_some q
  unfold dDivmod at e
  split at e
  · rename_i i j
    obtain ⟨v, u, rfl, r, r2⟩ := reps2 rd
    simp only [Rep] at r r2
    split at e
    · rename_i hc
      refine ⟨i, j, by rw [r, r2], divp_of hc, fun p hp => q.new rs hp (if_pos hc) (rep_newT rs hp ?_ (by show 2 ≤ sizeLine; decide))⟩
      simp only [Reps]
      exact ⟨_, _, rfl, rep_int _, _, _, rfl, rep_int _, rfl⟩
    · cases e
  · cases e
theorem cd_str : CallD X (.type "str") dStr := CallR.imp' call_str_int fun xs H Q h => by
  obtain ⟨w, ds, hk, rfl, rs, rd, q⟩ := h
  obtain ⟨d, e⟩ := wq_some q
  unfold dStr at e
  split at e
  · rename_i i
    obtain ⟨v, rfl, r⟩ := reps1 rd
    simp only [Rep] at r
    split at e
    · rename_i hc
      exact ⟨i, by rw [r], hc, q.here rs (if_pos hc) (rep_str _)⟩
    · cases e
  · cases e
theorem cd_int : CallD X (.type "int") dInt := CallR.imp' ((call_int_str (X := X)).or call_int1) fun xs H Q h => by
  obtain ⟨w, ds, hk, rfl, rs, rd, q⟩ := h
  obtain ⟨d, e⟩ := wq_some q
  unfold dInt at e
  split at e
  · rename_i z
    obtain ⟨v, rfl, r⟩ := reps1 rd
    simp only [Rep] at r
    have e0 := e
    split at e
    · rename_i hc
      cases qi : PySem.intText? z with
      | none => rw [qi] at e; cases e
      | some n =>
        rw [qi] at e
        exact .inl ⟨z, n, by rw [r], qi, hc, q.here rs (e0.trans e.symm) (rep_int _)⟩
    · cases e
  · rename_i i
    obtain ⟨v, rfl, r⟩ := reps1 rd
    simp only [Rep] at r
    exact .inr (.inl ⟨i, by rw [r], q.here rs rfl (rep_int _)⟩)
  · cases e
end
end G
end

section
set_option Elab.async false
set_option linter.all false
set_option autoImplicit false
set_option maxRecDepth 100000
set_option maxHeartbeats 1000000
namespace G
open PySem PySem.Spec PyProof.Rows L2
/-! ## statements -/
inductive Fl where
  | nx (env : Ev)
  | ret (d : D)
  | brk (env : Ev)
  | ct (env : Ev)
  | exc (c : Str) (env : Ev)
/-- an expression within a statement: what it raises ends the statement -/
def stx {α : Type} (x : M α) (env : Ev) (k : α → M Fl) : M Fl := fun st => match x st with
  | .ok a st' => k a st'
  | .err c st' => .ok (.exc c env) st'
  | .bad => .bad
def SFl (W : XW) (D' : Ends) (fl : Fl) (w : Wd) : Prop := match fl with
  | .nx env => ∀ σ, REnv w env σ → D'.nx σ w.H
  | .ret d => ∀ v, Rep w d v → D'.rt v w.H
  | .brk env => ∀ σ, REnv w env σ → D'.bk σ w.H
  | .ct env => ∀ σ, REnv w env σ → D'.ct σ w.H
  | .exc c env => ∀ σ, REnv w env σ → W c σ w.H
def nov : Str → Wd → Prop := fun _ _ => False
def rdS (K : PySem.W.Frag) (W : XW) (g : Ev → M Fl) : TS := fun D' σ H => ∃ (w : Wd) (env : Ev), w.K = K ∧ w.H = H ∧ RS w ∧ REnv w env σ ∧ Wp w (g env w.st) (SFl W D') nov
def DS (X : Cx) (W : XW) (s : Stmt) (g : Ev → M Fl) : Prop := PS X s (rdS X.K W g)
def DSs (X : Cx) (W : XW) (s : List Stmt) (g : Ev → M Fl) : Prop := PSs X s (rdS X.K W g)
section
variable {X : Cx} {W : XW} {e a b c : Expr} {s : Stmt} {ss : List Stmt} {pos : Pos} {fa fb fc : Ev → M D} {g g' : Ev → M Fl}
theorem PS.imp' {t t' : TS} (h : PS X s t) (k : ∀ D' σ H, t' D' σ H → t D' σ H) : PS X s t' := ⟨fun pins s σ H D' I z => h.run pins s σ H D' I (k D' σ H z)⟩
theorem PSs.imp' {t t' : TS} (h : PSs X ss t) (k : ∀ D' σ H, t' D' σ H → t D' σ H) : PSs X ss t' := ⟨fun pins s σ H D' I z => h.run pins s σ H D' I (k D' σ H z)⟩
/-- an expression's part of a statement -/
theorem stx_wp {α : Type} {w : Wd} {env : Ev} {σ : L2.St} {x : M α} {k : α → M Fl} {D' : Ends} (n : REnv w env σ) (h : Wp w (stx x env k w.st) (SFl W D') nov) :
    Wp w (x w.st) (fun a w1 => Wp w1 (k a w1.st) (SFl W D') nov) (fun c w1 => W c σ w1.H) := by
  unfold stx at h
  cases e : x w.st with
  | ok a st' =>
    rw [e] at h
    have h : Wp w (k a st') (SFl W D') nov := h
    intro w' b q
    rw [q]
    exact h.after b
  | err c st' =>
    rw [e] at h
    exact fun w' b q => h w' b q σ (n.after b)
  | bad =>
    rw [e] at h
    exact h
def sNop : Ev → M Fl := fun env => pure (.nx env)
theorem dss_nil : DSs X W [] sNop := PSs.imp' pss_nil fun D' σ H h => by
  obtain ⟨w, env, hk, rfl, r, n, h⟩ := h
  exact Wp.ok_ (a := Fl.nx env) r h σ n
def sSeq (g g' : Ev → M Fl) : Ev → M Fl := fun env => do
  let fl ← g env
  match fl with
  | .nx e => g' e
  | other => pure other
theorem seq_wp {w : Wd} {env : Ev} {D' : Ends} {K : PySem.W.Frag} (hk : w.K = K) (h : Wp w (sSeq g g' env w.st) (SFl W D') nov) : Wp w (g env w.st) (SFl W { D' with nx := rdS K W g' D' }) nov := by
  refine (Wp.bind h).imp fun fl w1 a1 h1 => ?_
  cases fl with
  | nx e1 => exact fun σ1 n1 => ⟨w1, e1, a1.k.trans hk, rfl, a1.rs, n1, h1⟩
  | ret d => exact Wp.ok_ (P := SFl W D') (W := nov) (a := Fl.ret d) a1.rs h1
  | brk e1 => exact Wp.ok_ (P := SFl W D') (W := nov) (a := Fl.brk e1) a1.rs h1
  | ct e1 => exact Wp.ok_ (P := SFl W D') (W := nov) (a := Fl.ct e1) a1.rs h1
  | exc c e1 => exact Wp.ok_ (P := SFl W D') (W := nov) (a := Fl.exc c e1) a1.rs h1
theorem dss_cons (h : DS X W s g) (k : DSs X W ss g') : DSs X W (s :: ss) (sSeq g g') := PSs.imp' (pss_cons h k) fun D' σ H h => by
  obtain ⟨w, env, hk, rfl, r, n, h⟩ := h
  exact ⟨w, env, hk, rfl, r, n, seq_wp hk h⟩
theorem dss_one (h : DS X W s g) : DSs X W [s] g := pss_one h
theorem ds_pass : DS X W (.Pass pos) sNop := PS.imp' ps_pass fun D' σ H h => by
  obtain ⟨w, env, hk, rfl, r, n, h⟩ := h
  exact Wp.ok_ (a := Fl.nx env) r h σ n
theorem ds_break : DS X W (.Break pos) (fun env => pure (.brk env)) := PS.imp' ps_break fun D' σ H h => by
  obtain ⟨w, env, hk, rfl, r, n, h⟩ := h
  exact Wp.ok_ (a := Fl.brk env) r h σ n
theorem ds_continue : DS X W (.Continue pos) (fun env => pure (.ct env)) := PS.imp' ps_continue fun D' σ H h => by
  obtain ⟨w, env, hk, rfl, r, n, h⟩ := h
  exact Wp.ok_ (a := Fl.ct env) r h σ n
def sRet (f : Ev → M D) : Ev → M Fl := fun env => stx (f env) env fun d => pure (.ret d)
theorem ds_ret (h : DE X W e fa) : DS X W (.Return (some e) pos) (sRet fa) := PS.imp' (ps_ret h) fun D' σ H h => by
  obtain ⟨w, env, hk, rfl, r, n, h⟩ := h
  exact ⟨w, env, hk, rfl, r, n, (stx_wp n h).imp fun d w1 a1 h1 => Wp.ok_ (a := Fl.ret d) a1.rs h1⟩
def sRetN : Ev → M Fl := fun _ => pure (.ret .non)
theorem ds_retN : DS X W (.Return none pos) sRetN := PS.imp' ps_retN fun D' σ H h => by
  obtain ⟨w, env, hk, rfl, r, n, h⟩ := h
  exact Wp.ok_ (a := Fl.ret .non) r h _ rep_non
def sExpr (f : Ev → M D) : Ev → M Fl := fun env => stx (f env) env fun _ => pure (.nx env)
theorem ds_expr (h : DE X W e fa) (hs : swapsWith e none pos.line X.env = pure false := by rfl) : DS X W (.Expr e pos) (sExpr fa) := PS.imp' (ps_expr h hs) fun D' σ H h => by
  obtain ⟨w, env, hk, rfl, r, n, h⟩ := h
  exact ⟨w, env, hk, rfl, r, n, (stx_wp n h).imp fun d w1 a1 h1 v _ => Wp.ok_ (a := Fl.nx env) a1.rs h1 σ (n.after a1)⟩
def sIf (t : Ev → M Bool) (g g' : Ev → M Fl) : Ev → M Fl := fun env => stx (t env) env fun b => if b = true then g env else g' env
theorem ds_if {t : Ev → M Bool} {as bs : List Stmt} (ht : DT X W c t) (ha : DSs X W as g) (hb : DSs X W bs g') : DS X W (.If c as bs pos) (sIf t g g') := PS.imp' (ps_if ht ha hb) fun D' σ H h => by
  obtain ⟨w, env, hk, rfl, r, n, h⟩ := h
  refine ⟨w, env, hk, rfl, r, n, (stx_wp n h).imp fun b w1 a1 h1 => ?_⟩
  cases b with
  | true => exact iteT ⟨w1, env, a1.k.trans hk, rfl, a1.rs, n.after a1, h1⟩
  | false => exact iteF ⟨w1, env, a1.k.trans hk, rfl, a1.rs, n.after a1, h1⟩
def sAsg (i : Nat) (f : Ev → M D) : Ev → M Fl := fun env => stx (f env) env fun d => pure (.nx (env.set i (some d)))
theorem asg_rd {i : Nat} {D' : Ends} {σ : L2.St} {H : Hp} (h : rdS X.K W (sAsg i fa) D' σ H) : tAsg (rdE X.K W fa) (gName i) D' σ H := by
  obtain ⟨w, env, hk, rfl, r, n, h⟩ := h
  exact ⟨w, env, hk, rfl, r, n, (stx_wp n h).imp fun d w1 a1 h1 v rv => Wp.ok_ (a := Fl.nx (env.set i (some d))) a1.rs h1 _ ((n.after a1).set i rv)⟩
theorem ds_set (i : Nat) {x : Str} {pos' : Pos} (hN : X.N.Nodup) (hi : X.N[i]? = some x) (hx : Loc X.env.scope x) (he : DE X W e fa) (hs : swapsWith e (some (.Name x pos')) pos.line X.env = pure false := by rfl)
    (hf : X.fn x = true ∨ X.env.scope.names.lookup x = some .local := by first | exact .inl rfl | exact .inr rfl) : DS X W (.Assign [.Name x pos'] e pos) (sAsg i fa) := PS.imp' (ps_set hN hi hx he hs hf) fun _ _ _ h => asg_rd h
/-- a, b = e1, e2 -/
def sPar (i j : Nat) (fa fb : Ev → M D) : Ev → M Fl := fun env => stx (fa env) env fun d => stx (fb env) env fun e => pure (.nx ((env.set i (some d)).set j (some e)))
theorem ds_par (i j : Nat) {x y : Str} {px py pt : Pos} {kt k2 pt2} (hc : X.calm = true) (hN : X.N.Nodup) (hi : X.N[i]? = some x) (hj : X.N[j]? = some y) (hij : i ≠ j) (hx : X.env.scope.names.lookup x = some .local) (hy : X.env.scope.names.lookup y = some .local)
    (ha : DE X W a fa) (hb : DE X W b fb) (hst : starEach [a, b] X.env = (false, eval a X.env) :: starEach [b] X.env := by rfl) (hst2 : starEach [b] X.env = (false, eval b X.env) :: starEach [] X.env := by rfl)
    (hw : swappedStores [.Tuple [.Name x px, .Name y py] kt pt] (.Tuple [a, b] k2 pt2) X.env = pure (some [x, y]) := by rfl)
    (hs : swapsWithSole [.Tuple [.Name x px, .Name y py] kt pt] (.Tuple [a, b] k2 pt2) pos.line X.env = pure false := by rfl) : DS X W (.Assign [.Tuple [.Name x px, .Name y py] kt pt] (.Tuple [a, b] k2 pt2) pos) (sPar i j fa fb) :=
  PS.imp' (ps_par hc hN hi hj hij hx hy (pa_cons ha (pa_cons hb pa_nil hst2) hst) hw hs) fun D' σ H h => by
    obtain ⟨w, env, hk, rfl, r, n, h⟩ := h
    refine ⟨w, env, hk, rfl, r, n, (stx_wp n h).imp fun d w1 a1 h1 v rv => ?_⟩
    refine ⟨w1, env, a1.k.trans hk, rfl, a1.rs, n.after a1, (stx_wp (n.after a1) h1).imp fun e w2 a2 h2 u ru => ?_⟩
    exact ⟨v, u, rfl, Wp.ok_ (a := Fl.nx ((env.set i (some d)).set j (some e))) a2.rs h2 _ ((((n.after a1).after a2).set i (a2.rep rv)).set j ru)⟩
/-- a statement at which the run may not come -/
theorem ds_never : DS X W s (fun _ => M.stuck) := PS.imp' ps_never fun D' σ H h => by
  obtain ⟨w, env, hk, rfl, r, n, h⟩ := h
  exact h.elim
theorem dss_never : DSs X W ss (fun _ => M.stuck) := PSs.imp' pss_never fun D' σ H h => by
  obtain ⟨w, env, hk, rfl, r, n, h⟩ := h
  exact h.elim
/-! ## targets of loops and comprehensions -/
theorem wipe_at (σ : L2.St) (j : Nat) : ∀ vs : List Nat, (wipe σ vs)[j]? = if j ∈ vs then (σ[j]?).map (fun _ => none) else σ[j]?
  | [] => by simp [wipe]
  | v :: vs => by
    unfold wipe
    by_cases hj : v = j
    · subst hj
      rw [if_pos (List.mem_cons_self ..)]
      by_cases hl : v < (wipe σ vs).length
      · rw [List.getElem?_set_self hl]
        rw [wipe_length] at hl
        rw [List.getElem?_eq_getElem hl]
        rfl
      · rw [List.getElem?_eq_none (by rw [List.length_set]; omega)]
        rw [wipe_length] at hl
        rw [List.getElem?_eq_none (by omega)]
        rfl
    · rw [List.getElem?_set_ne hj, wipe_at σ j vs]
      by_cases hm : j ∈ vs
      · rw [if_pos hm, if_pos (List.mem_cons_of_mem _ hm)]
      · rw [if_neg hm, if_neg (by simp only [List.mem_cons, not_or]; exact ⟨fun z => hj z.symm, hm⟩)]
theorem wipe_set {σ : L2.St} {i : Nat} {x : Option V} {vs : List Nat} (h : i ∈ vs) : wipe (σ.set i x) vs = wipe σ vs := by
  refine List.ext_getElem? fun j => ?_
  rw [wipe_at, wipe_at]
  by_cases hm : j ∈ vs
  · rw [if_pos hm, if_pos hm]
    by_cases hj : i = j
    · subst hj
      by_cases hl : i < σ.length
      · rw [List.getElem?_set_self hl, List.getElem?_eq_getElem hl]; rfl
      · rw [List.getElem?_eq_none (by rw [List.length_set]; omega), List.getElem?_eq_none (by omega)]
    · rw [List.getElem?_set_ne hj]
  · rw [if_neg hm, if_neg hm, List.getElem?_set_ne (fun z : i = j => hm (by rw [← z]; exact h))]
theorem wipe_wipe (σ : L2.St) (vs : List Nat) : wipe (wipe σ vs) vs = wipe σ vs := by
  refine List.ext_getElem? fun j => ?_
  rw [wipe_at, wipe_at]
  by_cases hm : j ∈ vs
  · rw [if_pos hm, if_pos hm]; cases σ[j]? <;> rfl
  · rw [if_neg hm, if_neg hm]
def evWipe (env : Ev) : List Nat → Ev
  | [] => env
  | v :: vs => (evWipe env vs).set v none
theorem REnv.wipe {w : Wd} {env : Ev} {σ : L2.St} (h : REnv w env σ) : ∀ vs : List Nat, REnv w (evWipe env vs) (L2.wipe σ vs)
  | [] => h
  | v :: vs => (REnv.wipe h vs).forget v
def TgOk (K : PySem.W.Frag) (t : TG) (tg : D → Ev → Option Ev) (is : List Nat) : Prop := ∀ (w : Wd) (env : Ev) (σ : L2.St) (d : D) (v : V) (env' : Ev) (Q : L2.St → Hp → Prop), w.K = K → REnv w env σ → Rep w d v → tg d env = some env' →
  (∀ σ', REnv w env' σ' → (∀ vs : List Nat, (∀ i ∈ is, i ∈ vs) → wipe σ' vs = wipe σ vs) → Q σ' w.H) → t v σ w.H Q
def tgName (i : Nat) : D → Ev → Option Ev := fun d env => some (env.set i (some d))
def tgPair (i j : Nat) : D → Ev → Option Ev := fun d env => match d with
  | .tup [a, b] => some ((env.set i (some a)).set j (some b))
  | _ => none
theorem tgok_name (K : PySem.W.Frag) (i : Nat) : TgOk K (gName i) (tgName i) [i] := fun w env σ d v env' Q hk n r e q => by
  cases e
  exact q _ (n.set i r) fun vs hv => wipe_set (hv i (by simp))
theorem tgok_pair (K : PySem.W.Frag) (i j : Nat) : TgOk K (gTup K 2 (gCons (gName i) (gCons (gName j) gNil))) (tgPair i j) [i, j] := fun w env σ d v env' Q hk n r e q => by
  unfold tgPair at e
  split at e
  · rename_i a b
    cases e
    simp only [Rep] at r
    obtain ⟨x, xs, rfl, s, r, _⟩ := r
    obtain ⟨u1, u2, rfl, r1, r2⟩ := reps2 r
    refine ⟨x, [u1, u2], rfl, by rw [← hk]; exact s, rfl, u1, [u2], rfl, u2, [], rfl, rfl, ?_⟩
    refine q _ ((n.set i r1).set j r2) fun vs hv => ?_
    rw [wipe_set (hv j (by simp)), wipe_set (hv i (by simp))]
  · cases e
/-! ## what is walked -/
structure Walks (w : Wd) (J : It) (l : List D) : Prop where
  step : ∀ w' : Wd, w'.K = w.K → RS w' → Bears w w' → ∀ (i : Nat) (d : D), l[i]? = some d → J.go i w'.H ∧ ∀ x H', J.yld i w'.H x H' → ∃ w'', Aft w' w'' ∧ w''.st = w'.st ∧ w''.H = H' ∧ w''.m = w'.m ∧ Rep w'' d x
  stop : ∀ w' : Wd, w'.K = w.K → RS w' → Bears w w' → J.stop l.length w'.H
  len : l.length ≤ sizeLine
def rdI (K : PySem.W.Frag) (W : XW) (f : Ev → M (List D)) : TI := fun σ H R => ∃ (w : Wd) (env : Ev), w.K = K ∧ w.H = H ∧ RS w ∧ REnv w env σ ∧ Wp w (f env w.st) (fun l w' => ∀ J, Walks w' J l → R J w'.H) (fun c w' => W c σ w'.H)
def DI (X : Cx) (W : XW) (tg iter : Expr) (f : Ev → M (List D)) : Prop := PI X tg iter (rdI X.K W f)
theorem PI.imp' {tg iter : Expr} {t t' : TI} (h : PI X tg iter t) (k : ∀ σ H R, t' σ H R → t σ H R) : PI X tg iter t' := ⟨fun pins s σ H R I z => h.run pins s σ H R I (k σ H R z)⟩
theorem PI.or' {tg iter : Expr} {t t' : TI} (h : PI X tg iter t) (h' : PI X tg iter t') : PI X tg iter (fun σ H R => t σ H R ∨ t' σ H R) := ⟨fun pins s σ H R I z => z.elim (h.run pins s σ H R I) (h'.run pins s σ H R I)⟩
/-- a list's, a tuple's items -/
def itemsL : D → M (List D)
  | .lst l => pure l
  | _ => M.stuck
def itemsT : D → M (List D)
  | .tup l => pure l
  | _ => M.stuck
def items : D → M (List D)
  | .lst l => pure l
  | .tup l => pure l
  | _ => M.stuck
theorem walks_list {w : Wd} {a : Addr} {l : List D} (r : Rep w (.lst l) (.ref a)) : Walks w (Itl w.K a) l where
  step := fun w' hk rs b i d e => by
    have r' := b.rep _ _ r
    simp only [Rep] at r'
    obtain ⟨a', xs, ea, s, rr, _⟩ := r'
    cases ea
    obtain ⟨x, ex, rx⟩ := reps_at rr e
    refine ⟨⟨xs, x, SqL.of s.1.1, ex⟩, fun y H' hy => ?_⟩
    obtain ⟨rfl, hy⟩ := hy
    have := hy xs (SqL.of s.1.1)
    rw [ex] at this
    cases this
    exact ⟨w', .refl rs, rfl, rfl, rfl, rx⟩
  stop := fun w' hk rs b => by
    have r' := b.rep _ _ r
    simp only [Rep] at r'
    obtain ⟨a', xs, ea, s, rr, _⟩ := r'
    cases ea
    exact ⟨xs, SqL.of s.1.1, by rw [reps_len rr]; exact Nat.le_refl _⟩
  len := by simp only [Rep] at r; obtain ⟨_, _, _, _, _, h⟩ := r; exact h
theorem walks_tup {w : Wd} {a : Addr} {l : List D} (r : Rep w (.tup l) (.ref a)) : Walks w (Itt w.K a) l where
  step := fun w' hk rs b i d e => by
    have r' := b.rep _ _ r
    simp only [Rep] at r'
    obtain ⟨a', xs, ea, s, rr, _⟩ := r'
    cases ea
    obtain ⟨x, ex, rx⟩ := reps_at rr e
    rw [hk] at s
    refine ⟨⟨xs, x, s, ex⟩, fun y H' hy => ?_⟩
    obtain ⟨rfl, hy⟩ := hy
    have := hy xs s
    rw [ex] at this
    cases this
    exact ⟨w', .refl rs, rfl, rfl, rfl, rx⟩
  stop := fun w' hk rs b => by
    have r' := b.rep _ _ r
    simp only [Rep] at r'
    obtain ⟨a', xs, ea, s, rr, _⟩ := r'
    cases ea
    rw [hk] at s
    exact ⟨xs, s, by rw [reps_len rr]; exact Nat.le_refl _⟩
  len := by simp only [Rep] at r; obtain ⟨_, _, _, _, _, h⟩ := r; exact h
def iSeq (f : Ev → M D) : Ev → M (List D) := fun env => do
  let d ← f env
  items d
theorem di_seq {tg : Expr} (h : DE X W e fa) : DI X W tg e (iSeq fa) := by
  have hL : PI X tg e (iList X.K (rdE X.K W fa)) := pi_list h
  have hT : PI X tg e (iTup X.K (rdE X.K W fa)) := pi_tup h
  refine PI.imp' (PI.or' hL hT) fun σ H R h => ?_
  obtain ⟨w, env, hk, rfl, r, n, h⟩ := h
  have h1 := Wp.bind h
  cases ef : fa env w.st with
  | bad => rw [ef] at h1; exact h1.elim
  | err c st' =>
    rw [ef] at h1
    exact .inl ⟨w, env, hk, rfl, r, n, by rw [ef]; exact h1⟩
  | ok d st' =>
    rw [ef] at h1
    cases d with
    | lst l =>
      refine .inl ⟨w, env, hk, rfl, r, n, ?_⟩
      rw [ef]
      intro w1 a1 e1 v rv
      have h2 := Wp.ok_ (a := l) a1.rs (h1 w1 a1 e1)
      have rv0 := rv
      simp only [Rep] at rv
      obtain ⟨a, xs, rfl, s, _⟩ := rv
      exact ⟨a, rfl, ⟨xs, SqL.of s.1.1⟩, by rw [← hk, ← a1.k]; exact h2 _ (walks_list rv0)⟩
    | tup l =>
      refine .inr ⟨w, env, hk, rfl, r, n, ?_⟩
      rw [ef]
      intro w1 a1 e1 v rv
      have h2 := Wp.ok_ (a := l) a1.rs (h1 w1 a1 e1)
      have rv0 := rv
      simp only [Rep] at rv
      obtain ⟨a, xs, rfl, s, _⟩ := rv
      exact ⟨a, rfl, ⟨xs, by rw [← hk, ← a1.k]; exact s⟩, by rw [← hk, ← a1.k]; exact h2 _ (walks_tup rv0)⟩
    | _ => exact .inl ⟨w, env, hk, rfl, r, n, by rw [ef]; intro w1 a1 e1; exact (h1 w1 a1 e1).elim⟩
end
end G
end

section
set_option Elab.async false
set_option linter.all false
set_option autoImplicit false
set_option maxRecDepth 100000
set_option maxHeartbeats 1000000
namespace G
open PySem PySem.Spec PyProof.Rows L2
section
variable {X : Cx} {W : XW} {e a b c : Expr} {s : Stmt} {ss : List Stmt} {pos : Pos} {fa fb fc : Ev → M D} {g g' : Ev → M Fl}
/-! ## range -/
def rangeD (n : Nat) : List D := (List.range n).map fun (k : Nat) => D.int (k : Int)
def iRange (f : Ev → M D) : Ev → M (List D) := fun env => do
  let d ← f env
  let i ← asI d
  if i ≤ 16777216 ∧ -16777216 ≤ i then pure (rangeD i.toNat) else M.stuck
theorem rangeD_at {n i : Nat} {d : D} (h : (rangeD n)[i]? = some d) : i < n ∧ d = .int (i : Int) := by
  unfold rangeD at h
  rw [List.getElem?_map] at h
  by_cases hi : i < n
  · rw [List.getElem?_range hi] at h
    cases h
    exact ⟨hi, rfl⟩
  · rw [List.getElem?_eq_none (by simp; omega)] at h
    cases h
theorem rangeD_len (n : Nat) : (rangeD n).length = n := by simp [rangeD]
theorem walks_range {w : Wd} {n : Nat} (hn : n ≤ sizeLine) : Walks w (Itr 0 n) (rangeD n) where
  step := fun w' hk rs b i d e => by
    obtain ⟨hi, rfl⟩ := rangeD_at e
    refine ⟨hi, fun x H' hx => ?_⟩
    obtain ⟨rfl, rfl⟩ := hx
    exact ⟨w', .refl rs, rfl, rfl, rfl, by simp [Rep]⟩
  stop := fun w' hk rs b => by rw [rangeD_len]; exact Nat.le_refl _
  len := by rw [rangeD_len]; exact hn
theorem di_range {tg : Expr} {p : Pos} (hg : Gl X "range") (hm : X.mg "range" = none) (h : DE X W a fa) (hst : starEach [a] X.env = (false, eval a X.env) :: starEach [] X.env := by rfl) : DI X W tg (.Call (.Name "range" p) [a] [] pos) (iRange fa) := by
  refine PI.imp' (pi_range1 hg hm (pa_cons (es := []) h pa_nil hst) (hs := hst)) fun σ H R h => ?_
  obtain ⟨w, env, hk, rfl, r, n, h⟩ := h
  refine ⟨w, env, hk, rfl, r, n, (Wp.bind h).imp fun d w1 a1 h1 v rv => ?_⟩
  obtain ⟨i, rfl, h2⟩ := asI_wp a1.rs (Wp.bind h1)
  simp only [Rep] at rv
  by_cases hc : i ≤ 16777216 ∧ -16777216 ≤ i
  · rw [if_pos hc] at h2
    refine ⟨i, by rw [rv], by omega, by omega, ?_⟩
    exact Wp.ok_ (a := rangeD i.toNat) a1.rs h2 _ (walks_range (by rw [sizeLine_eq]; omega))
  · rw [if_neg hc] at h2
    exact h2.elim
/-! ## for -/
def forGo (tg : D → Ev → Option Ev) (g : Ev → M Fl) : List D → Ev → M Fl
  | [], env => pure (.nx env)
  | d :: r, env => match tg d env with
    | none => M.stuck
    | some e1 => do
      let fl ← g e1
      match fl with
      | .nx e2 => forGo tg g r e2
      | .ct e2 => forGo tg g r e2
      | .brk e2 => pure (.nx e2)
      | .ret d => pure (.ret d)
      | .exc c e2 => pure (.exc c e2)
def sFor (fi : Ev → M (List D)) (tg : D → Ev → Option Ev) (g : Ev → M Fl) : Ev → M Fl := fun env => stx (fi env) env fun l => forGo tg g l env
theorem ds_for {tgt iter : Expr} {body : List Stmt} {t : TG} {tg : D → Ev → Option Ev} {is : List Nat} {fi : Ev → M (List D)} (hp : PassesOwn (model X.prog X.w) X.A X.env X.xe) (hc : X.calm = true) (hi : DI X W tgt iter fi) (hg : PG X tgt t) (ht : TgOk X.K t tg is) (hb : DSs X W body g)
    (hs : ∀ x, foldedSetIterable iter X.env x = pure x := by intro _; rfl) : DS X W (.For tgt iter body [] pos) (sFor fi tg g) := PS.imp' (ps_for hp hc hi hg hb hs) fun D' σ H h => by
  obtain ⟨w, env, hk, rfl, r, n, h⟩ := h
  refine ⟨w, env, hk, rfl, r, n, (stx_wp n h).imp fun l w1 a1 h1 J hJ => ?_⟩
  refine ⟨fun i m σ H => m + i = l.length ∧ ∃ (w' : Wd) (env' : Ev), w'.K = w1.K ∧ w'.H = H ∧ RS w' ∧ Bears w1 w' ∧ REnv w' env' σ ∧ Wp w' (forGo tg g (l.drop i) env' w'.st) (SFl W D') nov,
    ⟨l.length, by simp, w1, env, rfl, rfl, a1.rs, (Aft.refl a1.rs).bears, n.after a1, h1⟩, ?_⟩
  rintro i m σ1 H1 ⟨hm, w', env', hk', rfl, rs', b', n', h'⟩
  have hi : i ≤ l.length := by omega
  by_cases he : i = l.length
  · refine .inl ⟨by rw [he]; exact hJ.stop w' hk' rs' b', ?_⟩
    rw [he, List.drop_length] at h'
    exact Wp.ok_ (a := Fl.nx env') rs' h' σ1 n'
  · have hlt : i < l.length := by omega
    rw [List.drop_eq_getElem_cons hlt] at h'
    obtain ⟨go, yl⟩ := hJ.step w' hk' rs' b' i l[i] (by simp [hlt])
    refine .inr ⟨go, fun σ' H' => (m - 1) + (i + 1) = l.length ∧ ∃ (w' : Wd) (env' : Ev), w'.K = w1.K ∧ w'.H = H' ∧ RS w' ∧ Bears w1 w' ∧ REnv w' env' σ' ∧ Wp w' (forGo tg g (l.drop (i + 1)) env' w'.st) (SFl W D') nov,
      fun σ' H' hN => ⟨m - 1, by omega, hN⟩, fun x H' hx => ?_⟩
    obtain ⟨w2, a2, e2, rfl, em2, rx⟩ := yl x H' hx
    unfold forGo at h'
    cases et : tg l[i] env' with
    | none => rw [et] at h'; exact h'.elim
    | some e1 =>
      rw [et] at h'
      refine ht w2 env' σ1 l[i] x e1 _ (a2.k.trans (hk'.trans (a1.k.trans hk))) (n'.after a2) rx et fun σ2 n2 _ => ?_
      have hb' := (h'.after a2)
      rw [← e2] at hb'
      refine ⟨w2, e1, a2.k.trans (hk'.trans (a1.k.trans hk)), rfl, a2.rs, n2, (Wp.bind hb').imp fun fl w3 a3 h3 => ?_⟩
      have b3 : Bears w1 w3 := (b'.trans a2.bears).trans a3.bears
      have k3 : w3.K = w1.K := a3.k.trans (a2.k.trans hk')
      cases fl with
      | nx e3 => exact fun σ3 n3 => ⟨by omega, w3, e3, k3, rfl, a3.rs, b3, n3, h3⟩
      | ct e3 => exact fun σ3 n3 => ⟨by omega, w3, e3, k3, rfl, a3.rs, b3, n3, h3⟩
      | brk e3 => exact Wp.ok_ (P := SFl W D') (W := nov) (a := Fl.nx e3) a3.rs h3
      | ret d => exact Wp.ok_ (P := SFl W D') (W := nov) (a := Fl.ret d) a3.rs h3
      | exc c e3 => exact Wp.ok_ (P := SFl W D') (W := nov) (a := Fl.exc c e3) a3.rs h3
/-! ## list comprehensions -/
/-- within a comprehension nothing is raised -/
def noErr {α : Type} (x : M α) : M α := fun st => match x st with
  | .ok a st' => .ok a st'
  | _ => .bad
def compGo (tg : D → Ev → Option Ev) (tt : Ev → M Bool) (fe : Ev → M D) (env : Ev) : List D → List D → M (List D)
  | [], acc => pure acc
  | d :: r, acc => match tg d env with
    | none => M.stuck
    | some e1 => do
      let b ← noErr (tt e1)
      if b = true then do
        let y ← noErr (fe e1)
        compGo tg tt fe env r (acc ++ [y])
      else compGo tg tt fe env r acc
def eComp (vs : List Nat) (fi : Ev → M (List D)) (tg : D → Ev → Option Ev) (tt : Ev → M Bool) (fe : Ev → M D) : Ev → M D := fun env => do
  let l ← fi env
  let ds ← compGo tg tt fe (evWipe env vs) l []
  pure (.lst ds)
/-- a later world, up to the reserved addresses -/
def Lat (w1 w' : Wd) : Prop := Aft w1 ⟨w'.K, w'.m, w'.st, w'.H, w1.rv⟩
theorem bears_rv {w : Wd} {rv' : List Addr} (h : ∀ x, x ∈ rv' → x ∈ w.rv) : Bears w ⟨w.K, w.m, w.st, w.H, rv'⟩ := ⟨fun _ _ => rfl, Nat.le_refl _, fun _ _ q => q, fun x o q => ⟨q.1, fun z => q.2 (h x z)⟩, rfl⟩
theorem cell_rv {w : Wd} {rv' : List Addr} (h : ∀ x, x ∈ rv' → x ∈ w.rv) {x : Addr} {c : Cell} (q : CellOk w x c) : CellOk ⟨w.K, w.m, w.st, w.H, rv'⟩ x c := cell_bears (bears_rv h) (fun o q _ => q) (fun _ q => q) rfl q
/-- a new list at a free address that is reserved -/
theorem bears_res {w : Wd} {p : Addr} {o : HO} (hp : w.H p = none) : Bears w ⟨w.K, w.m, w.st, upd w.H p o, p :: w.rv⟩ := ⟨fun _ _ => rfl, Nat.le_refl _, fun _ _ q => sqT_same (same_upd hp) q, fun x u q => ⟨⟨same_upd hp _ _ q.1.1, q.1.2⟩, fun z => by
  rcases List.mem_cons.mp z with z | z
  · subst z; exact absurd (q.1.1.symm.trans hp) (by simp)
  · exact q.2 z⟩, rfl⟩
theorem noErr_ok {α : Type} {x : M α} {st st' : Store} {a : α} (h : noErr x st = .ok a st') : x st = .ok a st' := by
  unfold noErr at h
  cases e : x st with
  | ok b s1 => rw [e] at h; cases h; rfl
  | err c s1 => rw [e] at h; cases h
  | bad => rw [e] at h; cases h
theorem bind_inv {α β : Type} {x : M α} {f : α → M β} {st st' : Store} {b : β} (h : (x >>= f) st = .ok b st') : ∃ a s1, x st = .ok a s1 ∧ f a s1 = .ok b st' := by
  have h : M.andThen x f st = .ok b st' := h
  unfold M.andThen at h
  cases e : x st with
  | ok a s1 => rw [e] at h; exact ⟨a, s1, rfl, h⟩
  | err c s1 => rw [e] at h; cases h
  | bad => rw [e] at h; cases h
theorem compGo_len {tg : D → Ev → Option Ev} {tt : Ev → M Bool} {fe : Ev → M D} {env : Ev} : ∀ {l acc ds : List D} {st st' : Store}, compGo tg tt fe env l acc st = .ok ds st' → ds.length ≤ acc.length + l.length
  | [], acc, ds, st, st', h => by cases h; simp
  | d :: r, acc, ds, st, st', h => by
    unfold compGo at h
    cases et : tg d env with
    | none => rw [et] at h; cases h
    | some e1 =>
      rw [et] at h
      obtain ⟨b, s1, _, h2⟩ := bind_inv h
      cases b with
      | true =>
        obtain ⟨y, s2, _, h3⟩ := bind_inv h2
        have := compGo_len h3
        simp at this ⊢; omega
      | false =>
        have := compGo_len h2
        simp at this ⊢; omega
theorem wp_nov {α : Type} {w : Wd} {r : Res α} {P : α → Wd → Prop} {V' : Str → Wd → Prop} {a : α} {st : Store} (e : r = .ok a st) (h : ∀ w', Aft w w' → w'.st = st → P a w') : Wp w r P V' := by rw [e]; exact h
theorem comp_rd {vs : List Nat} {fi : Ev → M (List D)} {tg : D → Ev → Option Ev} {is : List Nat} {tt : Ev → M Bool} {fe : Ev → M D} {t : TG} (ht : TgOk X.K t tg is) (hv : ∀ i ∈ is, i ∈ vs) {σ : L2.St} {H : Hp} {Q : VK} (h : rdE X.K W (eComp vs fi tg tt fe) σ H Q) :
    tLc (rdI X.K W fi) t (rdT X.K (fun _ _ _ => False) tt) (rdE X.K (fun _ _ _ => False) fe) vs σ H Q := by
  obtain ⟨w, env, hk, rfl, r, n, h⟩ := h
  refine ⟨w, env, hk, rfl, r, n, (Wp.bind h).imp fun l w1 a1 h1 J hJ Dn hD => ?_⟩
  have h2 := Wp.bind h1
  have hk1 : w1.K = X.K := a1.k.trans hk
  -- the whole loop ends well
  obtain ⟨dsf, stf, ef⟩ : ∃ dsf stf, compGo tg tt fe (evWipe env vs) l [] w1.st = .ok dsf stf := by
    cases er : compGo tg tt fe (evWipe env vs) l [] w1.st with
    | ok dsf stf => exact ⟨dsf, stf, rfl⟩
    | bad => rw [er] at h2; exact h2.elim
    | err c stf =>
      exfalso
      have : ∀ (l acc : List D) (st : Store), compGo tg tt fe (evWipe env vs) l acc st ≠ .err c stf := by
        intro l
        induction l with
        | nil => intro acc st q; cases q
        | cons d r ih =>
          intro acc st q
          unfold compGo at q
          cases et : tg d (evWipe env vs) with
          | none => rw [et] at q; cases q
          | some e1 =>
            rw [et] at q
            have q : M.andThen (noErr (tt e1)) (fun b => if b = true then M.andThen (noErr (fe e1)) (fun y => compGo tg tt fe (evWipe env vs) r (acc ++ [y])) else compGo tg tt fe (evWipe env vs) r acc) st = .err c stf := q
            unfold M.andThen at q
            cases e2 : noErr (tt e1) st with
            | bad => rw [e2] at q; cases q
            | err c' s' => unfold noErr at e2; split at e2 <;> cases e2
            | ok b s1 =>
              rw [e2] at q
              simp only at q
              cases b with
              | false => exact ih _ _ q
              | true =>
                simp only [if_true] at q
                cases e3 : noErr (fe e1) s1 with
                | bad => rw [e3] at q; cases q
                | err c' s' => unfold noErr at e3; split at e3 <;> cases e3
                | ok y s2 => rw [e3] at q; exact ih _ _ q
      exact this _ _ _ er
  have hfin : ∀ w2, Aft w1 w2 → w2.st = stf → ∀ v, Rep w2 (.lst dsf) v → Q v w2.H := fun w2 a2 e2 => by
    rw [ef] at h2
    exact Wp.ok_ (a := D.lst dsf) a2.rs (h2 w2 a2 e2)
  refine ⟨fun i m H => m + i = l.length ∧ ∃ (w' : Wd) (ds : List D) (acc : List V), w'.K = X.K ∧ w'.H = H ∧ RS w' ∧ w'.rv = Dn :: w1.rv ∧ Lat w1 w' ∧ Bears w1 w' ∧ H Dn = some (.lst acc) ∧ Reps w' ds acc ∧ ds.length ≤ i ∧ compGo tg tt fe (evWipe env vs) (l.drop i) ds w'.st = .ok dsf stf,
    ⟨l.length, by simp, ⟨w1.K, w1.m, w1.st, upd w1.H Dn (.lst []), Dn :: w1.rv⟩, [], [], hk1, rfl, ?_, rfl, ?_, ?_, upd_same, by simp [Reps], Nat.zero_le _, by rw [List.drop_zero]; exact ef⟩, ?_⟩
  · -- the world with the new list
    have a0 : Aft w1 ⟨w1.K, w1.m, w1.st, upd w1.H Dn (.lst []), w1.rv⟩ := aft_new a1.rs hD
    refine ⟨fun i c hc => ?_, a0.rs.inj, fun x hx z => ?_, fun x hx z => ?_⟩
    · exact cell_bears (bears_res hD) (fun o q _ => same_upd hD _ _ q) (fun _ q => roL_same (same_upd hD) q) rfl (a1.rs.cells i c hc)
    · rcases List.mem_cons.mp hx with rfl | hx
      · have z : upd w1.H x (.lst []) x = none := z; rw [upd_same] at z; cases z
      · exact a0.rs.rvs x hx z
    · rcases List.mem_cons.mp hx with rfl | hx
      · exact (fz_new (w := w1) (o := .lst []) a1.rs hD).2 z
      · exact a0.rs.rvo x hx z
  · exact aft_new a1.rs hD
  · exact bears_res hD
  · rintro i m H1 ⟨hm, w', ds, acc, hk', rfl, rs', rv', lat, b', hDa, rd, hdl, eq⟩
    have hnD : ∀ x, x ∈ w1.rv → x ≠ Dn := fun x hx z => a1.rs.rvs x hx (by rw [z]; exact hD)
    have own' : ¬ Own w'.m w'.st Dn := rs'.rvo Dn (by rw [rv']; exact List.mem_cons_self ..)
    by_cases he : i = l.length
    · refine .inl ⟨by rw [he]; exact hJ.stop w' (hk'.trans hk1.symm) rs' b', ?_⟩
      rw [he, List.drop_length] at eq
      cases eq
      refine hfin ⟨w'.K, w'.m, w'.st, w'.H, w1.rv⟩ lat rfl (.ref Dn) ?_
      simp only [Rep]
      refine ⟨Dn, acc, rfl, ⟨⟨hDa, own'⟩, fun z => hnD Dn z rfl⟩, ?_, ?_⟩
      · exact (bears_rv fun x hx => by rw [rv']; exact List.mem_cons_of_mem _ hx).reps _ _ rd
      · exact Nat.le_trans hdl (by rw [he]; exact hJ.len)
    · have hlt : i < l.length := by omega
      rw [List.drop_eq_getElem_cons hlt] at eq
      obtain ⟨go, yl⟩ := hJ.step w' (hk'.trans hk1.symm) rs' b' i l[i] (by simp [hlt])
      refine .inr ⟨go, fun H' => (m - 1) + (i + 1) = l.length ∧ ∃ (w' : Wd) (ds : List D) (acc : List V), w'.K = X.K ∧ w'.H = H' ∧ RS w' ∧ w'.rv = Dn :: w1.rv ∧ Lat w1 w' ∧ Bears w1 w' ∧ H' Dn = some (.lst acc) ∧ Reps w' ds acc ∧ ds.length ≤ i + 1 ∧ compGo tg tt fe (evWipe env vs) (l.drop (i + 1)) ds w'.st = .ok dsf stf,
        fun H' hN => ⟨m - 1, by omega, hN⟩, fun x H' hx => ?_⟩
      obtain ⟨w2, a2, e2, rfl, em2, rx⟩ := yl x H' hx
      unfold compGo at eq
      cases et : tg l[i] (evWipe env vs) with
      | none => rw [et] at eq; cases eq
      | some e1 =>
        rw [et] at eq
        obtain ⟨bb, s3, eb, eq3⟩ := bind_inv eq
        have eb := noErr_ok eb
        -- after any step of the turn the list so far stands
        have keep : ∀ w3, Aft w' w3 → w3.K = X.K ∧ RS w3 ∧ w3.rv = Dn :: w1.rv ∧ Lat w1 w3 ∧ Bears w1 w3 ∧ w3.H Dn = some (.lst acc) ∧ Reps w3 ds acc := fun w3 a3 => by
          refine ⟨a3.k.trans hk', a3.rs, a3.rv.trans rv', ?_, b'.trans a3.bears, (a3.fz Dn _ ⟨hDa, own'⟩).1, a3.reps rd⟩
          refine lat.trans ⟨a3.k, rfl, ⟨fun i c hc => cell_rv (fun x hx => by rw [a3.rv, rv']; exact List.mem_cons_of_mem _ hx) (a3.rs.cells i c hc), a3.rs.inj, fun x hx => a3.rs.rvs x (by rw [a3.rv, rv']; exact List.mem_cons_of_mem _ hx), fun x hx => a3.rs.rvo x (by rw [a3.rv, rv']; exact List.mem_cons_of_mem _ hx)⟩, a3.ext, a3.len, a3.tup, a3.fz⟩
        refine ht w2 (evWipe env vs) (wipe σ vs) l[i] x e1 _ (a2.k.trans hk') ?_ rx et fun σ2 n2 hw2 => ?_
        · have nb : REnv w' (evWipe env vs) (wipe σ vs) := ⟨((n.after a1).wipe vs).len, fun j d ej => let ⟨v, e1, rv⟩ := ((n.after a1).wipe vs).at_ j d ej; ⟨v, e1, b'.rep _ _ rv⟩⟩
          exact nb.after a2
        · refine ⟨by rw [hw2 vs hv, wipe_wipe], ?_⟩
          refine ⟨w2, e1, a2.k.trans hk', rfl, a2.rs, n2, wp_nov (by rw [e2]; exact eb) fun w3 a3 e3 => ?_⟩
          cases bb with
          | false =>
            refine iteF ⟨by omega, w3, ds, acc, ?_⟩
            obtain ⟨k1, k2, k3, k4, k5, k6, k7⟩ := keep w3 (a2.trans a3)
            exact ⟨k1, rfl, k2, k3, k4, k5, k6, k7, by omega, by rw [e3]; exact eq3⟩
          | true =>
            obtain ⟨y, s4, ey, eq4⟩ := bind_inv eq3
            have ey := noErr_ok ey
            refine iteT ⟨w3, e1, a3.k.trans (a2.k.trans hk'), rfl, a3.rs, n2.after a3, wp_nov (by rw [e3]; exact ey) fun w4 a4 e4 v rv => ?_⟩
            obtain ⟨k1, k2, k3, k4, k5, k6, k7⟩ := keep w4 ((a2.trans a3).trans a4)
            have own4 : ¬ Own w4.m w4.st Dn := k2.rvo Dn (by rw [k3]; exact List.mem_cons_self ..)
            refine ⟨acc, k6, by rw [reps_len k7]; exact Nat.lt_of_le_of_lt hdl (Nat.lt_of_lt_of_le hlt hJ.len), by omega, ⟨w4.K, w4.m, w4.st, upd w4.H Dn (.lst (acc ++ [v])), w4.rv⟩, ds ++ [y], acc ++ [v], k1, rfl, ?_⟩
            -- the write at the reserved address
            have up : ∀ b u, b ≠ Dn → w4.H b = some u → upd w4.H Dn (.lst (acc ++ [v])) b = some u := fun b u hb q => by rw [upd_ne hb]; exact q
            have tupk : ∀ a xs, SqT w4.K w4.H a xs → SqT w4.K (upd w4.H Dn (.lst (acc ++ [v]))) a xs := fun a xs q => by
              rcases q with (q | ⟨o, q⟩) | q
              · exact .inl (.inl (up _ _ (ne_of q k6 (by intro z; cases z)) q))
              · exact .inl (.inr ⟨o, up _ _ (ne_of q k6 (by intro z; cases z)) q⟩)
              · exact .inr q
            have bW : Bears w4 ⟨w4.K, w4.m, w4.st, upd w4.H Dn (.lst (acc ++ [v])), w4.rv⟩ := ⟨fun _ _ => rfl, Nat.le_refl _, tupk, fun x o q => ⟨⟨up _ _ (fun z => q.2 (by rw [z, k3]; exact List.mem_cons_self ..)) q.1.1, q.1.2⟩, q.2⟩, rfl⟩
            have cellk : ∀ i c, w4.st[i]? = some c → CellOk ⟨w4.K, w4.m, w4.st, upd w4.H Dn (.lst (acc ++ [v])), w4.rv⟩ (w4.m i) c := fun i c hc => by
              have q := k2.cells i c hc
              by_cases lv : c.live
              · have hne : w4.m i ≠ Dn := fun z => own4 ⟨i, c, hc, lv, z⟩
                exact cell_bears bW (fun o q _ => up _ _ hne q) (fun xs q => by
                  rcases q with ⟨u, q⟩ | q
                  · exact .inl ⟨u, up _ _ hne q⟩
                  · exact .inr q) rfl q
              · cases c with
                | ro l' =>
                  obtain ⟨xs, q1, q2, q3⟩ := q
                  refine ⟨xs, ?_, bW.reps _ _ q2, q3⟩
                  rcases q1 with ⟨u, q1⟩ | q1
                  · exact .inl ⟨u, up _ _ (ne_of q1 k6 (by intro z; cases z)) q1⟩
                  · exact .inr q1
                | dead => trivial
                | _ => exact absurd trivial lv
            have rsW : RS ⟨w4.K, w4.m, w4.st, upd w4.H Dn (.lst (acc ++ [v])), w4.rv⟩ := ⟨cellk, k2.inj, fun x hx z => by
                by_cases hxD : x = Dn
                · subst hxD; have z : upd w4.H x (.lst (acc ++ [v])) x = none := z; rw [upd_same] at z; cases z
                · have z : upd w4.H Dn (.lst (acc ++ [v])) x = none := z; rw [upd_ne hxD] at z; exact k2.rvs x hx z, k2.rvo⟩
            refine ⟨rsW, k3, ?_, k5.trans bW, upd_same, ?_, by rw [List.length_append]; simp; omega, by rw [e4]; exact eq4⟩
            · -- up to the reserved address all is later
              refine ⟨k4.k, rfl, ⟨fun i c hc => cell_rv (w := ⟨w4.K, w4.m, w4.st, upd w4.H Dn (.lst (acc ++ [v])), w4.rv⟩) (fun x hx => by show x ∈ w4.rv; rw [k3]; exact List.mem_cons_of_mem _ hx) (cellk i c hc), k2.inj, fun x hx z => ?_, fun x hx => k2.rvo x (by rw [k3]; exact List.mem_cons_of_mem _ hx)⟩, k4.ext, k4.len, fun a xs q => tupk a xs (k4.tup a xs q), fun x o q => ?_⟩
              · have z : upd w4.H Dn (.lst (acc ++ [v])) x = none := z
                rw [upd_ne (hnD x hx)] at z
                exact k2.rvs x (by rw [k3]; exact List.mem_cons_of_mem _ hx) z
              · have q' := k4.fz x o q
                exact ⟨up _ _ (fun z => by rw [z] at q; exact absurd (q.1.symm.trans hD) (by simp)) q'.1, q'.2⟩
            · exact reps_app (bW.reps _ _ k7) (by simp only [Reps]; exact ⟨v, [], rfl, bW.rep _ _ rv, rfl⟩)
/-- the block in which a comprehension runs -/
def Blk (X : Cx) (scope : Scope) (P : Cx → Prop) : Prop := ∀ (s : Shared) (H : Hp) (C : Addr) (cl : List (Str × Addr)) (fp : List Addr), P (X.blk s H scope (compEnvC scope cl C X.env) fp)
abbrev W0 : XW := fun _ _ _ => False
theorem de_comp {elt tgt iter : Expr} {scope : Scope} {own : List (Str × Nat)} {t : TG} {tg : D → Ev → Option Ev} {is : List Nat} {fi : Ev → M (List D)} {fe : Ev → M D} (hc : X.calm = true) (hN : X.N.Nodup) (hi : DI X W tgt iter fi) (ok : BlkOk X.N X.env.scope scope own)
    (hg : Blk X scope fun X' => PG X' tgt t) (ht : TgOk X.K t tg is) (hv : ∀ i ∈ is, i ∈ own.map (·.2)) (he : Blk X scope fun X' => DE X' W0 elt fe) (hs : ∀ x, foldedSetIterable iter X.env x = pure x := by intro _; rfl) :
    DE X W (.ListComp elt [⟨tgt, iter, [], 0⟩] scope pos) (eComp (own.map (·.2)) fi tg (fun _ => pure true) fe) := by
  refine PE.imp' (pe_lc (tt := rdT X.K W0 fun _ => pure true) (te := rdE X.K W0 fe) hc hN hi ok hg (fun s H C cl fp => ?_) he hs) fun _ _ _ h => comp_rd ht hv h
  exact ⟨fun pins s σ H Q I h => pts_nil.run pins s σ H Q I (by
    obtain ⟨w, env, hk, rfl, r, n, h⟩ := h
    exact Wp.ok_ (a := true) r h)⟩
theorem de_compIf {elt tgt iter cond : Expr} {scope : Scope} {own : List (Str × Nat)} {t : TG} {tg : D → Ev → Option Ev} {is : List Nat} {fi : Ev → M (List D)} {tt : Ev → M Bool} {fe : Ev → M D} (hc : X.calm = true) (hN : X.N.Nodup) (hi : DI X W tgt iter fi) (ok : BlkOk X.N X.env.scope scope own)
    (hg : Blk X scope fun X' => PG X' tgt t) (ht : TgOk X.K t tg is) (hv : ∀ i ∈ is, i ∈ own.map (·.2)) (hif : Blk X scope fun X' => DT X' W0 cond tt) (he : Blk X scope fun X' => DE X' W0 elt fe) (hs : ∀ x, foldedSetIterable iter X.env x = pure x := by intro _; rfl) :
    DE X W (.ListComp elt [⟨tgt, iter, [cond], 0⟩] scope pos) (eComp (own.map (·.2)) fi tg tt fe) := by
  exact PE.imp' (pe_lc (tt := rdT X.K W0 tt) (te := rdE X.K W0 fe) hc hN hi ok hg (fun s H C cl fp => pts_one (hif s H C cl fp)) he hs) fun _ _ _ h => comp_rd ht hv h
theorem ds_setComp (i : Nat) {y : Str} {py spos : Pos} {elt tgt iter : Expr} {scope : Scope} {own : List (Str × Nat)} {t : TG} {tg : D → Ev → Option Ev} {is : List Nat} {fi : Ev → M (List D)} {fe : Ev → M D} (hc : X.calm = true) (hN : X.N.Nodup) (hy : X.N[i]? = some y) (hyl : X.env.scope.names.lookup y = some .local)
    (hsw : swapsWith (.ListComp elt [⟨tgt, iter, [], 0⟩] scope pos) (some (.Name y py)) spos.line X.env = pure true) (hi : DI X W tgt iter fi) (ok : BlkOk X.N X.env.scope scope own)
    (hg : Blk X scope fun X' => PG X' tgt t) (ht : TgOk X.K t tg is) (hv : ∀ i ∈ is, i ∈ own.map (·.2)) (he : Blk X scope fun X' => DE X' W0 elt fe) (hs : ∀ x, foldedSetIterable iter X.env x = pure x := by intro _; rfl) :
    DS X W (.Assign [.Name y py] (.ListComp elt [⟨tgt, iter, [], 0⟩] scope pos) spos) (sAsg i (eComp (own.map (·.2)) fi tg (fun _ => pure true) fe)) := by
  refine PS.imp' (ps_setLc (tt := rdT X.K W0 fun _ => pure true) (te := rdE X.K W0 fe) hc hN hy hyl hsw hi ok hg (fun s H C cl fp => ?_) he hs) fun D' σ H h => ?_
  · exact ⟨fun pins s σ H Q I h => pts_nil.run pins s σ H Q I (by
      obtain ⟨w, env, hk, rfl, r, n, h⟩ := h
      exact Wp.ok_ (a := true) r h)⟩
  · exact comp_rd ht hv (asg_rd h)
theorem ds_setCompIf (i : Nat) {y : Str} {py spos : Pos} {elt tgt iter cond : Expr} {scope : Scope} {own : List (Str × Nat)} {t : TG} {tg : D → Ev → Option Ev} {is : List Nat} {fi : Ev → M (List D)} {tt : Ev → M Bool} {fe : Ev → M D} (hc : X.calm = true) (hN : X.N.Nodup) (hy : X.N[i]? = some y) (hyl : X.env.scope.names.lookup y = some .local)
    (hsw : swapsWith (.ListComp elt [⟨tgt, iter, [cond], 0⟩] scope pos) (some (.Name y py)) spos.line X.env = pure true) (hi : DI X W tgt iter fi) (ok : BlkOk X.N X.env.scope scope own)
    (hg : Blk X scope fun X' => PG X' tgt t) (ht : TgOk X.K t tg is) (hv : ∀ i ∈ is, i ∈ own.map (·.2)) (hif : Blk X scope fun X' => DT X' W0 cond tt) (he : Blk X scope fun X' => DE X' W0 elt fe) (hs : ∀ x, foldedSetIterable iter X.env x = pure x := by intro _; rfl) :
    DS X W (.Assign [.Name y py] (.ListComp elt [⟨tgt, iter, [cond], 0⟩] scope pos) spos) (sAsg i (eComp (own.map (·.2)) fi tg tt fe)) :=
  PS.imp' (ps_setLc (tt := rdT X.K W0 tt) (te := rdE X.K W0 fe) hc hN hy hyl hsw hi ok hg (fun s H C cl fp => pts_one (hif s H C cl fp)) he hs) fun D' σ H h => comp_rd ht hv (asg_rd h)
end
end G
end

section
set_option Elab.async false
set_option linter.all false
set_option autoImplicit false
set_option maxRecDepth 100000
set_option maxHeartbeats 1000000
namespace G
open PySem PySem.Spec PyProof.Rows L2
/-! ## defs: their promises where no repr is under way -/
section
variable {P : Program} {w : World} {K : PySem.W.Frag} {mg : Str → Option Value} {base : Heap}
structure FnG (P : Program) (w : World) (K : PySem.W.Frag) (mg : Str → Option Value) (base : Heap) (k : Nat) (f : Addr) (fd : FuncData) (ps : List Str) (sp : Sp) : Prop where
  len : ∀ vs H Q E, sp vs H Q E → vs.length = ps.length
  run : ∀ (A : Around) (outer : List Env) (s : Shared) (H : Hp) (args : Args) (us : List Value) (vs : List V) (Q : VK) (E : XK), A.guards = some [] → Room k A → Env0 P w K mg base A outer s H →
    BindsTo s fd args (ps.zip us) → Vals vs us → sp vs H Q E → codeAny (model P w) A (.call (.ref f) args) (CR (L2N.CX P w) outer P w H s Q E) s
theorem FnG.mono {j k : Nat} {f : Addr} {fd : FuncData} {ps : List Str} {sp : Sp} (F : FnG P w K mg base j f fd ps sp) (h : j ≤ k) : FnG P w K mg base k f fd ps sp :=
  ⟨F.len, fun A outer s H args us vs Q E g hr => F.run A outer s H args us vs Q E g (hr.mono h)⟩
/-- a def by its body -/
theorem fng_of {k : Nat} {x qual : Str} {params : Arguments} {body : List Stmt} {scope : Scope} {f : Addr} {fd : FuncData} {N ps : List Str} {sp : Sp} (FD : FunD K x qual params body scope [] [] f fd) (S : FnScope N ps scope)
    (len : ∀ vs H Q E, sp vs H Q E → vs.length = ps.length)
    (hbody : ∀ (cdv : Value) (A : Around) (outer : List Env) (s : Shared) (H : Hp) (vs : List V) (Q : VK) (E : XK), A.guards = some [] → Room k (A.deeper (envOfC qual scope s.heap.objs.size f cdv)) → sp vs H Q E →
      ∃ t, PSs (cxOf (L2N.CX P w) P w K mg base N qual scope f cdv A outer s H E) body t ∧ t { nx := fun _ H' => Q .non H', rt := Q } (L2.start N vs) H) : FnG P w K mg base (k + 1) f fd ps sp := by
  obtain ⟨oc, od, dV, kV, doc, pm, an, cdv, ct, osl, rfl, lk, hcd, _, _⟩ := FD.ex
  refine ⟨len, ?_⟩
  intro A outer s H args us vs Q E gd rm env0 bind rel hsp
  have hl := len vs H Q E hsp
  have kin : K.In s.heap := env0.mod.kin.keeps (fun b o z => (env0.bs b o z).1)
  have nolim : s.heap.NoLimit := env0.mod.nolimit.keeps (fun b o z => (env0.bs b o z).1)
  have kinds : ∀ y ∈ ps.zip us, scope.names.lookup y.1 = some .local ∨ (scope.names.lookup y.1 = some .cell ∧ ((cellsFrom (s.heap.objs.size + 1) scope.names []).lookup y.1).isSome = true) := by
    rintro ⟨n, v⟩ hy
    cases S.par n (List.of_mem_zip hy).1 with
    | inl q => exact Or.inl q
    | inr q => exact Or.inr ⟨q, PySem.W.cellsFrom_some _ _ _ (Or.inl q)⟩
  refine codeAny_call_function rm.depth (kin _ _ lk) rfl S.co S.gen rfl (PySem.W.codeRec_of kin hcd) (bind _ _ _ _ (wpAny_newFunctionEnv_cells S.kind kinds ?_))
  intro env he s1 x1
  subst he
  refine ⟨nolim.keeps x1.toInCall.keep, codeAny_func ?_⟩
  obtain ⟨t, der, rd⟩ := hbody cdv A outer s H vs Q E gd (rm.deeper _) hsp
  have I0 : Inv (cxOf (L2N.CX P w) P w K mg base N qual scope f cdv A outer s H E) [] (L2.start N vs) H s1 := inv_start S rm.hd env0 hl rel x1
  refine wpAny_mono (der.run [] s1 (L2.start N vs) H _ I0 rd) ?_ (fun _ _ z => z)
  intro fl s' z
  cases fl with
  | ret u =>
    obtain ⟨v, σ', H', J, rv, q⟩ := z
    exact ⟨v, H', J.os, J.bare, J.base, J.hok, rv, q⟩
  | next =>
    obtain ⟨σ', H', J, q⟩ := z
    exact ⟨V.non, H', J.os, J.bare, J.base, J.hok, rfl, q⟩
  | brk => obtain ⟨_, _, _, q⟩ := z; exact q.elim
  | cont => obtain ⟨_, _, _, q⟩ := z; exact q.elim
/-- the promise: it computes F -/
def spM (K : PySem.W.Frag) (n : Nat) (F : List D → M D) : Sp := fun vs H Q E => ∃ (w : Wd) (ds : List D), w.K = K ∧ w.H = H ∧ RS w ∧ Reps w ds vs ∧ ds.length = n ∧
  Wp w (F ds w.st) (fun d w' => ∀ v, Rep w' d v → Q v w'.H) (fun c w' => E (.ref (He.ga K c)) none w'.H)
def FnM (P : Program) (w : World) (K : PySem.W.Frag) (mg : Str → Option Value) (base : Heap) (k : Nat) (f : Addr) (fd : FuncData) (ps : List Str) (F : List D → M D) : Prop := FnG P w K mg base k f fd ps (spM K ps.length F)
def throwM {α : Type} (c : Str) : M α := fun st => .err c st
def runF (n : Nat) (g : Ev → M Fl) : List D → M D := fun ds => do
  let fl ← noErr (g (ds.map some ++ List.replicate (n - ds.length) none))
  match fl with
  | .ret d => pure d
  | .nx _ => pure .non
  | .exc c _ => throwM c
  | _ => M.stuck
theorem env_start {w : Wd} : ∀ {ds : List D} {vs : List V} (n : Nat), Reps w ds vs → REnv w (ds.map some ++ List.replicate n none) (vs.map some ++ List.replicate n none) := by
  intro ds vs n h
  refine ⟨by simp [reps_len h], fun i d e => ?_⟩
  by_cases hi : i < ds.length
  · rw [List.getElem?_append_left (by simpa using hi), List.getElem?_map] at e
    cases q : ds[i]? with
    | none => rw [q] at e; cases e
    | some d' =>
      rw [q] at e
      cases e
      obtain ⟨x, ex, rx⟩ := reps_at h q
      refine ⟨x, ?_, rx⟩
      rw [List.getElem?_append_left (by simpa [reps_len h] using hi), List.getElem?_map, ex]
      rfl
  · rw [List.getElem?_append_right (by simpa using hi), List.getElem?_replicate] at e
    split at e <;> cases e
theorem noErr_wp {α : Type} {w : Wd} {x : M α} {P : α → Wd → Prop} {V' : Str → Wd → Prop} (h : Wp w (noErr x w.st) P V') : Wp w (x w.st) P nov := by
  unfold noErr at h
  cases e : x w.st with
  | ok a st' => rw [e] at h; exact h
  | err c st' => rw [e] at h; exact h.elim
  | bad => rw [e] at h; exact h
/-- the wish of a def about exceptions -/
abbrev wE (K : PySem.W.Frag) (E : XK) : XW := fun c _ H => E (.ref (He.ga K c)) none H
theorem fnm_of {k : Nat} {x qual : Str} {params : Arguments} {body : List Stmt} {scope : Scope} {f : Addr} {fd : FuncData} {N ps : List Str} {g : Ev → M Fl} (FD : FunD K x qual params body scope [] [] f fd) (S : FnScope N ps scope) (hN : ps.length ≤ N.length)
    (hb : ∀ (cdv : Value) (A : Around) (outer : List Env) (s : Shared) (H : Hp) (E : XK), A.guards = some [] → Room k (A.deeper (envOfC qual scope s.heap.objs.size f cdv)) →
      DSs (cxOf (L2N.CX P w) P w K mg base N qual scope f cdv A outer s H E) (wE K E) body g) : FnM P w K mg base (k + 1) f fd ps (runF N.length g) := by
  refine fng_of FD S (fun vs H Q E h => ?_) fun cdv A outer s H vs Q E gd hr h => ⟨_, hb cdv A outer s H E gd hr, ?_⟩
  · obtain ⟨w', ds, _, _, _, r, hl, _⟩ := h
    rw [reps_len r]; exact hl
  · obtain ⟨w', ds, hk, rfl, rs, r, hl, h⟩ := h
    refine ⟨w', ds.map some ++ List.replicate (N.length - ds.length) none, hk, rfl, rs, ?_, (noErr_wp (Wp.bind h)).imp fun fl w1 a1 h1 => ?_⟩
    · have := env_start (w := w') (N.length - ds.length) r
      unfold L2.start
      rw [reps_len r]
      exact this
    · cases fl with
      | ret d => exact Wp.ok_ (a := d) a1.rs h1
      | nx e => exact fun σ _ => Wp.ok_ (a := D.non) a1.rs h1 _ rep_non
      | brk e => exact h1.elim
      | ct e => exact h1.elim
      | exc c e => exact fun σ _ => h1 w1 (.refl a1.rs) rfl
end
/-! ## calls -/
section
variable {X : Cx} {W : XW} {e a b c : Expr} {pos p : Pos} {fa fb fc : Ev → M D} {k : Nat} {f : Addr} {fd : FuncData} {ps : List Str} {x : Str} {es : List Expr}
/-- the wishes in the layer's own words -/
abbrev wX (K : PySem.W.Frag) (Wx : WX) : XW := fun c σ H => Wx (.ref (He.ga K c)) none σ H
theorem run_fng {pins : List (Addr × Obj)} {σ : L2.St} {H : Hp} {s : Shared} {Q : VK} {us : List Value} {vs : List V} {sp : Sp} {Wx : WX} (F : FnG X.prog X.w X.K X.mg X.base k f fd ps sp) (hg : X.A.guards = some []) (hr : Room k X.A) (hb : Binds X.K fd ps []) (tk : L2N.Takes X Wx)
    (I : Inv X pins σ H s) (r : Vals vs us) (h : sp vs H Q (fun cls d H' => Wx cls d σ H')) : wpAny (model X.prog X.w) X.A (call (.ref f) us) (EP X pins σ Q) X.xe s := by
  have e1 : us.length = ps.length := r.length.symm.trans (F.len _ _ _ _ h)
  have e2 := hb s us I.kIn (by rw [List.append_nil]; exact e1)
  rw [List.append_nil] at e2
  refine wpAny_call (codeAny_mono (F.run X.A X.stack s H ⟨us, []⟩ us vs Q _ hg hr I.env0 e2 r h) ?_)
  intro res s' z
  cases res with
  | error ev => exact L2N.passAt tk σ pins H s ev s' I z
  | ok fl =>
    cases fl with
    | ret u => exact I.after z
    | next => exact z.elim
    | brk => exact z.elim
    | cont => exact z.elim
def eCall (F : List D → M D) (fs : List (Ev → M D)) : Ev → M D := fun env => do
  let ds ← aSeq fs env
  F ds
/-- f(e, ..) of a def that computes F -/
theorem de_call {F : List D → M D} {fs : List (Ev → M D)} {Wx : WX} (FN : FnM X.prog X.w X.K X.mg X.base k f fd ps F) (hgd : X.A.guards = some []) (hr : Room k X.A) (tk : L2N.Takes X Wx) (hW : W = wX X.K Wx) (hg : Gl X x) (hm : X.mg x = some (.ref f)) (hk : PySem.W.keepIn X.K (.ref f) = true) (hb : Binds X.K fd ps [])
    (ha : DA X W (e :: es) fs) (hl : fs.length = ps.length := by rfl) (hdb : (x == ("__debug__" : Str)) = false := by decide) (he : starEach (e :: es) X.env = (false, eval e X.env) :: starEach es X.env := by rfl) (hpl : (backTo pos (starEach es X.env)).any (·.1) = false := by rfl) :
    DE X W (.Call (.Name x p) (e :: es) [] pos) (eCall F fs) := by
  refine ⟨fun pins s σ H Q I h => ?_⟩
  obtain ⟨w, env, ek, rfl, r, n, h⟩ := h
  have h1 := wp_seq (Wp.bind h)
  refine wpAny_Call_Name_kw (ld_glob I hg hm ?_ hdb)
  refine PySem.W.callWith_K (h₀ := X.base) I.ok.mod.kin hk (thn (ha.run pos pins s σ w.H (fun vs H1 => spM X.K ps.length F vs H1 Q (fun cls d H' => Wx cls d σ H')) I ⟨w, env, ek, rfl, r, n, h1.imp fun ds w1 a1 h2 vs rv => ?_⟩) fun us s1 z => ?_) he hpl
  · refine ⟨w1, ds, a1.k.trans ek, rfl, a1.rs, rv, h2.1.trans hl, h2.2.mono (fun _ _ _ q => q) fun c w2 a2 q => ?_⟩
    rw [hW] at q
    exact q
  · obtain ⟨vs, H1, I1, r1, q1⟩ := z
    exact ⟨I1.kIn, run_fng FN hgd hr hb tk I1 r1 q1⟩
theorem de_call0 {F : List D → M D} {Wx : WX} (FN : FnM X.prog X.w X.K X.mg X.base k f fd [] F) (hgd : X.A.guards = some []) (hr : Room k X.A) (tk : L2N.Takes X Wx) (hW : W = wX X.K Wx) (hg : Gl X x) (hm : X.mg x = some (.ref f)) (hk : PySem.W.keepIn X.K (.ref f) = true) (hb : Binds X.K fd [] [])
    (hdb : (x == ("__debug__" : Str)) = false := by decide) : DE X W (.Call (.Name x p) [] [] pos) (eCall F []) := by
  refine ⟨fun pins s σ H Q I h => ?_⟩
  obtain ⟨w, env, ek, rfl, r, n, h⟩ := h
  refine wpAny_Call_Name_kw (ld_glob I hg hm ?_ hdb)
  refine PySem.W.callWith_K0 I.kIn hk (run_fng (us := []) (vs := []) FN hgd hr hb tk I .nil ⟨w, [], ek, rfl, r, rfl, rfl, Wp.mono (Wp.ok_ (P := fun ds w1 => Wp w1 (F ds w1.st) _ _) (a := ([] : List D)) r (Wp.bind h)) (fun _ _ _ q => q) fun c w2 a2 q => ?_⟩)
  rw [hW] at q
  exact q
end
/-! ## the law's call -/
section
variable {P : Program} {w : World} {K : PySem.W.Frag} {mg mb : Str → Option Value}
theorem law_callG {k : Nat} {fa a : Addr} {fd : FuncData} {x : Str} {sp : Sp} {s₁ : Shared} {vs : List Value} {ns : List Int} (kin : K.In s₁.heap) (gns : s₁.heap.Ns mainGlobals mg) (bns : s₁.heap.Ns builtinsNs mb) (bbt : ∀ x : Str, x ≠ "__name__" → mb x = bootBuiltins x) (lim : s₁.heap.NoLimit)
    (gen0 : s₁.gens = #[]) (scr : s₁.heap.get? a = some { cls := .type "list", data := .seq vs.toArray }) (itsI : IntsAre vs ns) (short : ns.length ≤ sizeLine) (rm : Room k callerA) (F : ∀ base : Heap, K.In base → base.Ns mainGlobals mg → FnG P w K mg base k fa fd [x] sp)
    (bind : ∀ (s : Shared) (u : Value), BindsTo s fd ⟨[u], []⟩ [(x, u)]) (hsp : ∀ H : Hp, RoL K H a (ns.map V.int) → sp [.ref a] H (fun v _ => v = .bl true) fun _ _ _ => False) :
    codeAny (model P w) callerA (.call (.ref fa) ⟨[.ref a], []⟩) (fun r s' => r = .ok (.ret (.bool true)) ∧ OldK s₁.heap s'.heap ∧ s'.os = s₁.os ∧ AllBare s'.gens) s₁ := by
  have rv : Vals (ns.map V.int) vs := vals_ints itsI
  have lv : vs.length = ns.length := itsI.length
  have main : ∀ H : Hp, RoL K H a (ns.map V.int) → HOk P w H s₁.heap → (∀ b u, H b = some u → b = a ∧ K.lookup a = none ∧ ∃ ob xs, u = .frz ob (.lst xs)) →
      codeAny (model P w) callerA (.call (.ref fa) ⟨[.ref a], []⟩) (fun r s' => r = .ok (.ret (.bool true)) ∧ OldK s₁.heap s'.heap ∧ s'.os = s₁.os ∧ AllBare s'.gens) s₁ := by
    intro H hR hok only
    have hid : ∀ {b : Addr} {o : Obj}, s₁.heap.get? b = some o → H b = none → (hidT s₁.heap H).get? b = some o := fun z n => hidT_get z n
    have dict0 : ∀ {b : Addr} {o : Obj} {es : Array DictEntry} {ep : Nat}, s₁.heap.get? b = some o → o.data = .dict es ep → H b = none := by
      intro b o es ep z d
      cases q : H b with
      | none => rfl
      | some u =>
        obtain ⟨rfl, _⟩ := only b u q
        rw [scr] at z
        cases z
        exact absurd d (by intro z; cases z)
    have nsH : ∀ {b : Addr} {m : Str → Option Value}, s₁.heap.Ns b m → (hidT s₁.heap H).Ns b m := by
      rintro b m ⟨o, es, ep, z, d, r⟩
      exact ⟨o, es, ep, hid z (dict0 z d), d, r⟩
    have kinH : K.In (hidT s₁.heap H) := by
      intro b o z
      refine hid (kin b o z) ?_
      cases q : H b with
      | none => rfl
      | some u =>
        obtain ⟨rfl, z2, _⟩ := only b u q
        rw [z2] at z
        cases z
    obtain ⟨mc, l1, l2⟩ := lim
    have md : Mod K mg (hidT s₁.heap H) := ⟨kinH, nsH gns, ⟨mb, nsH bns, bbt⟩, ⟨mc, nsH l1, l2⟩⟩
    have ev : Env0 P w K mg (hidT s₁.heap H) callerA [] s₁ H := ⟨rfl, md, fun b o z => of_hidT z, Nat.le_of_eq (hidT_size _ _), trivial, fun b z => absurd (show b ∈ ([] : List Addr) from z) (by simp), hok, .of_eq gen0⟩
    refine codeAny_mono ((F _ kinH (nsH gns)).run callerA [] s₁ H ⟨[.ref a], []⟩ [.ref a] [.ref a] _ _ rfl rm ev (bind s₁ (.ref a)) (.cons rfl .nil) (hsp H hR)) ?_
    intro res s' z
    cases res with
    | error e =>
      obtain ⟨_, _, _, _, _, _, _, _, _, _, _, _, y⟩ := z
      exact y.elim
    | ok fl =>
      cases fl with
      | next => exact z.elim
      | brk => exact z.elim
      | cont => exact z.elim
      | ret u =>
        obtain ⟨v, H', eos, eb, un, hok', rel, q⟩ := z
        have q : v = .bl true := q
        subst q
        cases (show u = Value.bool true from rel)
        refine ⟨rfl, OldK.of_keep ?_, eos, eb⟩
        intro b o y
        cases qb : H b with
        | none => exact un.keep b o y qb (fun t => absurd (show b ∈ ([] : List Addr) from t) (by simp)) (by simp)
        | some u =>
          obtain ⟨_, _, ob, xs, rfl⟩ := only b u qb
          have y2 := un.frzs b ob _ qb
          have y3 := (hok b _ qb).1
          have y4 := (hok' b _ y2).1
          rw [y] at y3
          cases y3
          exact y4
  cases hk : K.lookup a with
  | some o =>
    have z := kin a o hk
    rw [scr] at z
    cases z
    refine main (fun _ => none) (.inr ⟨_, vs.toArray, _, hk, rfl, rfl, rfl, ?_, by simpa using rv⟩) (fun b u z => nomatch z) (fun b u z => nomatch z)
    rw [List.size_toArray, lv]; exact short
  | none =>
    refine main (fun b => if b = a then some (.frz { cls := .type "list", data := .seq vs.toArray } (.lst (ns.map V.int))) else none) (.inl ⟨{ cls := .type "list", data := .seq vs.toArray }, if_pos rfl⟩) ?_ ?_
    · intro b u z
      by_cases hb : b = a
      · have z := (if_pos hb).symm.trans z
        cases z
        rw [hb]
        exact ⟨scr, by rw [List.length_map]; exact short, vs, _, rv, scr⟩
      · have z := (if_neg hb).symm.trans z
        cases z
    · intro b u z
      by_cases hb : b = a
      · have z := (if_pos hb).symm.trans z
        cases z
        exact ⟨hb, hk, _, _, rfl⟩
      · have z := (if_neg hb).symm.trans z
        cases z
/-- the law's def computes F, and F tells True of every script -/
theorem walkG {l : PySem.W.OpenLaw} {k : Nat} {q : Program} {loose : List Str} {XP : (Str → Option Value) → Heap → Prop} {YP : World → Heap → Prop} {d : DefRec} {x : Str} {F : List D → M D} (hn : l.most = some 63) (hdf : d.params.defaults = []) (rm : Room k callerA)
    (FN : ∀ (w : World) (mg : Str → Option Value) (fa : Addr) (h : Heap), YP w h → h.Ns mainGlobals mg → mg d.name = some (.ref fa) → ∃ (K : PySem.W.Frag) (fd : FuncData), K.In h ∧ (∀ (s : Shared) (u : Value), BindsTo s fd ⟨[u], []⟩ [(x, u)]) ∧
      ∀ base : Heap, K.In base → base.Ns mainGlobals mg → FnM l.prog w K mg base k fa fd [x] F)
    (true_ : ∀ ns : List Int, ns.length ≤ 63 → (∀ z ∈ ns, Builtin.Int.intBits z ≤ 1048576) → ∃ st', F [.cell 0] [.ro (ns.map D.int)] = .ok (.bl true) st') : PySem.W.WalkO q loose XP YP l.row.toRowW d [] (fun f vs => PySem.call f vs) := by
  refine Att.attach_callB hn hdf ?_
  intro w s₀ s₁ mg mb fa o pm cd doc a vs ns Gr Y ho hd hcd hmg hobj hints hlen hbits hg
  obtain ⟨K, fd, kin, hb, hF⟩ := FN w mg fa _ Y Gr.T.g hmg
  have sh : ns.length ≤ sizeLine := Nat.le_trans hlen (by decide)
  refine law_callG kin Gr.T.g Gr.T.b Gr.T.builtins Gr.T.nolimit hg hobj hints sh rm hF hb ?_
  intro H hR
  obtain ⟨st', e⟩ := true_ ns hlen hbits
  have reps : ∀ (w : Wd) (ms : List Int), Reps w (ms.map D.int) (ms.map V.int) := by
    intro w ms
    induction ms with
    | nil => simp [Reps]
    | cons m r ih => simp only [List.map_cons, Reps]; exact ⟨_, _, rfl, rep_int m, ih⟩
  refine ⟨⟨K, fun _ => a, [.ro (ns.map D.int)], H, []⟩, [.cell 0], rfl, rfl, ⟨fun i c h => ?_, fun i j c c' h h' l => ?_, fun x hx => absurd hx (by simp), fun x hx => absurd hx (by simp)⟩, ?_, rfl, ?_⟩
  · cases i with
    | zero => cases h; exact ⟨ns.map V.int, hR, reps _ _, by rw [List.length_map]; exact sh⟩
    | succ i => simp at h
  · cases i with
    | zero => cases h; exact l.elim
    | succ i => simp at h
  · simp only [Reps, Rep]
    exact ⟨.ref a, [], rfl, ⟨rfl, by simp⟩, rfl⟩
  · have e : F [.cell 0] [Cell.ro (ns.map D.int)] = .ok (.bl true) st' := e
    show Wp _ (F [.cell 0] [Cell.ro (ns.map D.int)]) _ _
    rw [e]
    intro w' a' e' v rv
    simp only [Rep] at rv
    exact rv
end
end G
end

section
set_option Elab.async false
set_option linter.all false
set_option autoImplicit false
set_option maxRecDepth 100000
set_option maxHeartbeats 1000000
namespace G
open PySem PySem.Spec PyProof.Rows L2
section
variable {X : Cx} {W : XW} {e a b c : Expr} {s : Stmt} {ss : List Stmt} {pos : Pos} {fa fb fc : Ev → M D} {g g' : Ev → M Fl}
/-! ## targets that store -/
def rdG (K : PySem.W.Frag) (W : XW) (tg : D → Ev → M Ev) : TG := fun v σ H Q => ∃ (w : Wd) (env : Ev) (d : D), w.K = K ∧ w.H = H ∧ RS w ∧ REnv w env σ ∧ Rep w d v ∧ Wp w (tg d env w.st) (fun env' w' => ∀ σ', REnv w' env' σ' → Q σ' w'.H) (fun c w' => W c σ w'.H)
def DG (X : Cx) (W : XW) (t : Expr) (tg : D → Ev → M Ev) : Prop := PG X t (rdG X.K W tg)
theorem PG.imp' {t : Expr} {r r' : TG} (h : PG X t r) (k : ∀ v σ H Q, r' v σ H Q → r v σ H Q) : PG X t r' := ⟨fun pins s σ H v u Q I rv z => h.run pins s σ H v u Q I rv (k _ _ _ _ z)⟩
def gtName (i : Nat) : D → Ev → M Ev := fun d env => pure (env.set i (some d))
theorem dg_name (i : Nat) {x : Str} (hN : X.N.Nodup) (hi : X.N[i]? = some x) (hx : Loc X.env.scope x) (hf : X.fn x = true ∨ X.env.scope.names.lookup x = some .local := by first | exact .inl rfl | exact .inr rfl) : DG X W (.Name x pos) (gtName i) := PG.imp' (pg_name hN hi hx hf) fun v σ H Q h => by
  obtain ⟨w, env, d, hk, rfl, r, n, rv, h⟩ := h
  exact Wp.ok_ (a := env.set i (some d)) r h _ (n.set i rv)
theorem reps_set {w : Wd} {d : D} {v : V} (r : Rep w d v) : ∀ {ds : List D} {xs : List V} (i : Nat), Reps w ds xs → Reps w (ds.set i d) (xs.set i v)
  | [], xs, i, h => by simp only [Reps] at h; subst h; simp [Reps]
  | y :: ds, xs, 0, h => by
    simp only [Reps] at h
    obtain ⟨x, xs, rfl, r1, rs⟩ := h
    simp only [List.set, Reps]
    exact ⟨v, xs, rfl, r, rs⟩
  | y :: ds, xs, i + 1, h => by
    simp only [Reps] at h
    obtain ⟨x, xs, rfl, r1, rs⟩ := h
    simp only [List.set, Reps]
    exact ⟨x, xs.set i v, rfl, r1, reps_set r i rs⟩
/-- o[i] = d of a list's cell -/
def putIdx (o i d : D) : M Unit := fun st => match o, i with
  | .cell c, .int k => match st[c]? with
    | some (.lst l) => match ixN l.length k with
      | some j => .ok () (st.set c (.lst (l.set j d)))
      | none => .bad
    | _ => .bad
  | _, _ => .bad
theorem putIdx_wp {w : Wd} {o i d : D} {u y v : V} {P : Unit → Wd → Prop} {V' : Str → Wd → Prop} (rs : RS w) (ru : Rep w o u) (ry : Rep w i y) (rv : Rep w d v) (h : Wp w (putIdx o i d w.st) P V') :
    rSetL u y v w.H fun H' => ∃ w', w'.H = H' ∧ Aft w w' ∧ P () w' := by
  unfold putIdx at h
  split at h
  · rename_i c k
    split at h
    · rename_i l el
      split at h
      · rename_i j ej
        simp only [Rep] at ru ry
        obtain ⟨xs, e1, r1, l1⟩ := rs.cells c _ el
        refine ⟨_, xs, k, j, ru.1, ry, e1, by rw [reps_len r1]; exact ej, ?_⟩
        have up : ∀ b q, b ≠ w.m c → w.H b = some q → upd w.H (w.m c) (.lst (xs.set j v)) b = some q := fun b q hb z => by rw [upd_ne hb]; exact z
        have bb : Bears w ⟨w.K, w.m, w.st.set c (.lst (l.set j d)), upd w.H (w.m c) (.lst (xs.set j v)), w.rv⟩ := bears_set (c := .lst (l.set j d)) (c0 := .lst l) rs el trivial up
        have aa : Aft w ⟨w.K, w.m, w.st.set c (.lst (l.set j d)), upd w.H (w.m c) (.lst (xs.set j v)), w.rv⟩ := aft_set (c0 := .lst l) rs el trivial up ⟨_, upd_same, reps_set (bb.rep _ _ rv) j (bb.reps _ _ r1), by rw [List.length_set]; exact l1⟩
        exact ⟨_, rfl, aa, h _ aa rfl⟩
      · exact h.elim
    · exact h.elim
  · exact h.elim
def gtSub (fo fi : Ev → M D) : D → Ev → M Ev := fun d env => do
  let o ← fo env
  let i ← fi env
  putIdx o i d
  pure env
theorem dg_sub {o i : Expr} {fo fi : Ev → M D} (ho : DE X W o fo) (hi : DE X W i fi)
    (ha : ∀ v, assign (.Subscript o i pos) X.env v = (do
      let ov ← holding [v] (eval o X.env)
      let iv ← holding [v, ov] (eval i X.env)
      standAt pos
      holding [v, ov, iv] (setItem ov iv v)
      release [v, ov, iv] []) := by intro _; rfl) : DG X W (.Subscript o i pos) (gtSub fo fi) := PG.imp' (pg_sub ho hi set_list ha) fun v σ H Q h => by
  obtain ⟨w, env, d, hk, rfl, r, n, rv, h⟩ := h
  refine ⟨w, env, hk, rfl, r, n, (Wp.bind h).imp fun od w1 a1 h1 u ru => ?_⟩
  refine ⟨w1, env, a1.k.trans hk, rfl, a1.rs, n.after a1, (Wp.bind h1).imp fun id w2 a2 h2 y ry => ?_⟩
  obtain ⟨p, xs, k, j, e1, e2, e3, e4, w3, e5, a3, h3⟩ := putIdx_wp a2.rs (a2.rep ru) ry ((a1.trans a2).rep rv) (Wp.bind h2)
  refine ⟨p, xs, k, j, e1, e2, e3, e4, ?_⟩
  rw [← e5]
  exact Wp.ok_ (a := env) a3.rs h3 σ (((n.after a1).after a2).after a3)
def gtPair (t1 t2 : D → Ev → M Ev) : D → Ev → M Ev := fun d env => match d with
  | .tup [a, b] => do
    let e1 ← t1 a env
    t2 b e1
  | _ => M.stuck
theorem gtPair_wp {g1 g2 : D → Ev → M Ev} {w : Wd} {d : D} {env : Ev} {P : Ev → Wd → Prop} {V' : Str → Wd → Prop} (h : Wp w (gtPair g1 g2 d env w.st) P V') : ∃ x y, d = .tup [x, y] ∧ Wp w ((g1 x env >>= fun e1 => g2 y e1) w.st) P V' := by
  cases d with
  | tup l =>
    cases l with
    | nil => exact h.elim
    | cons x l =>
      cases l with
      | nil => exact h.elim
      | cons y l =>
        cases l with
        | nil => exact ⟨x, y, rfl, h⟩
        | cons z l => exact h.elim
  | _ => exact h.elim
theorem dg_pair {t1 t2 : Expr} {kk : Nat} {g1 g2 : D → Ev → M Ev} (hc : X.calm = true) (h1 : DG X W0 t1 g1) (h2 : DG X W0 t2 g2) (hs1 : (assignEach [t1, t2] X.env).map (·.2) = assign t1 X.env :: (assignEach [t2] X.env).map (·.2) := by rfl) (hs2 : (assignEach [t2] X.env).map (·.2) = assign t2 X.env :: (assignEach [] X.env).map (·.2) := by rfl)
    (hn : (assignEach [t1, t2] X.env).length = 2 := by rfl) (hst : (assignEach [t1, t2] X.env).findIdx? (·.1) = none := by rfl) : DG X W (.Tuple [t1, t2] kk pos) (fun d env => noErr (gtPair g1 g2 d env)) := PG.imp' (pg_tup hc (pgs_cons h1 (pgs_cons h2 pgs_nil hs2) hs1) hn hst) fun v σ H Q h => by
  obtain ⟨w, env, d, hk, rfl, r, n, rv, h⟩ := h
  have h := noErr_wp (x := gtPair g1 g2 d env) h
  obtain ⟨x, y, rfl, h⟩ := gtPair_wp h
  simp only [Rep] at rv
  obtain ⟨p, xs, rfl, sq, rr, _⟩ := rv
  obtain ⟨u1, u2, rfl, r1, r2⟩ := reps2 rr
  refine ⟨p, [u1, u2], rfl, by rw [← hk]; exact sq, rfl, u1, [u2], rfl, w, env, x, hk, rfl, r, n, r1, (Wp.bind h).mono (fun e1 w1 a1 h1 σ1 n1 => ?_) fun _ _ _ z => z⟩
  refine ⟨u2, [], rfl, w1, e1, y, a1.k.trans hk, rfl, a1.rs, n1, a1.rep r2, h1.mono (fun e2 w2 a2 h2 σ2 n2 => ⟨rfl, h2 σ2 n2⟩) fun _ _ _ z => z⟩
def sAsgT (f : Ev → M D) (tg : D → Ev → M Ev) : Ev → M Fl := fun env => stx (f env) env fun d => stx (tg d env) env fun env' => pure (.nx env')
theorem ds_asg {tgt : Expr} {tg : D → Ev → M Ev} (he : DE X W e fa) (hg : DG X W tgt tg) (hs : swapsWithSole [tgt] e pos.line X.env = pure false := by rfl) (hw : swappedStores [tgt] e X.env = pure none := by rfl) (h1 : (assignEach [tgt] X.env).map (·.2) = [assign tgt X.env] := by rfl) :
    DS X W (.Assign [tgt] e pos) (sAsgT fa tg) := PS.imp' (ps_asg he hg hs hw h1) fun D' σ H h => by
  obtain ⟨w, env, hk, rfl, r, n, h⟩ := h
  refine ⟨w, env, hk, rfl, r, n, (stx_wp n h).imp fun d w1 a1 h1 v rv => ?_⟩
  refine ⟨w1, env, d, a1.k.trans hk, rfl, a1.rs, n.after a1, rv, (stx_wp (n.after a1) h1).imp fun e' w2 a2 h2 σ' n' => ?_⟩
  exact Wp.ok_ (a := Fl.nx e') a2.rs h2 σ' n'
/-! ## dicts in cells -/
def keyOf : D → Option Key
  | .int i => some (.inl i)
  | .str x => some (.inr x)
  | _ => none
def valD (l : List (Key × D)) (k : Key) : Option D := (l.find? fun kv => decide (kv.1 = k)).map (·.2)
def putD (l : List (Key × D)) (k : Key) (d : D) : List (Key × D) := if (l.any fun kv => decide (kv.1 = k)) = true then l.map (fun kv => if kv.1 = k then (kv.1, d) else kv) else l ++ [(k, d)]
theorem keyOf_rep {w : Wd} {d : D} {v : V} {k : Key} (h : keyOf d = some k) (r : Rep w d v) : v = kV k := by
  cases d with
  | int i => cases h; simp only [Rep] at r; exact r
  | str x => cases h; simp only [Rep] at r; exact r
  | _ => cases h
theorem valD_rep {w : Wd} {k : Key} : ∀ {l : List (Key × D)} {kvs : List (Key × V)} {d : D}, RepK w l kvs → valD l k = some d → ∃ v, valV kvs k = some v ∧ Rep w d v
  | [], kvs, d, h, e => by cases e
  | (k1, d1) :: l, kvs, d, h, e => by
    obtain ⟨⟨k2, v2⟩, ys, rfl, e1, r, rs⟩ := h
    have e1 : k2 = k1 := e1
    subst e1
    by_cases hk : k2 = k
    · rw [valV_pos (p := (k2, v2)) hk]
      have : valD ((k2, d1) :: l) k = some d1 := by simp [valD, List.find?_cons, hk]
      rw [this] at e
      cases e
      exact ⟨v2, rfl, r⟩
    · rw [valV_neg (p := (k2, v2)) hk]
      have : valD ((k2, d1) :: l) k = valD l k := by simp [valD, List.find?_cons, hk]
      rw [this] at e
      exact valD_rep rs e
theorem valD_none {w : Wd} {k : Key} : ∀ {l : List (Key × D)} {kvs : List (Key × V)}, RepK w l kvs → valD l k = none → valV kvs k = none
  | [], kvs, h, e => by simp only [RepK] at h; subst h; rfl
  | (k1, d1) :: l, kvs, h, e => by
    obtain ⟨⟨k2, v2⟩, ys, rfl, e1, r, rs⟩ := h
    have e1 : k2 = k1 := e1
    subst e1
    by_cases hk : k2 = k
    · have : valD ((k2, d1) :: l) k = some d1 := by simp [valD, List.find?_cons, hk]
      rw [this] at e; cases e
    · rw [valV_neg (p := (k2, v2)) hk]
      have : valD ((k2, d1) :: l) k = valD l k := by simp [valD, List.find?_cons, hk]
      rw [this] at e
      exact valD_none rs e
theorem repK_any {w : Wd} {k : Key} : ∀ {l : List (Key × D)} {kvs : List (Key × V)}, RepK w l kvs → (kvs.any fun kv => decide (kv.1 = k)) = (l.any fun kv => decide (kv.1 = k))
  | [], kvs, h => by simp only [RepK] at h; subst h; rfl
  | (k1, d1) :: l, kvs, h => by
    obtain ⟨⟨k2, v2⟩, ys, rfl, e1, r, rs⟩ := h
    have e1 : k2 = k1 := e1
    subst e1
    simp only [List.any_cons, repK_any rs]
theorem repK_map {w : Wd} {k : Key} {d : D} {v : V} (r0 : Rep w d v) : ∀ {l : List (Key × D)} {kvs : List (Key × V)}, RepK w l kvs → RepK w (l.map fun kv => if kv.1 = k then (kv.1, d) else kv) (kvs.map fun kv => if kv.1 = k then (kv.1, v) else kv)
  | [], kvs, h => by simp only [RepK] at h; subst h; rfl
  | (k1, d1) :: l, kvs, h => by
    obtain ⟨⟨k2, v2⟩, ys, rfl, e1, r, rs⟩ := h
    have e1 : k2 = k1 := e1
    subst e1
    simp only [List.map_cons, RepK]
    refine ⟨_, _, rfl, ?_, ?_, repK_map r0 rs⟩
    · by_cases hk : k2 = k <;> simp [hk]
    · by_cases hk : k2 = k <;> simp [hk]
      · exact r0
      · exact r
theorem repK_snoc {w : Wd} {k : Key} {d : D} {v : V} (r0 : Rep w d v) : ∀ {l : List (Key × D)} {kvs : List (Key × V)}, RepK w l kvs → RepK w (l ++ [(k, d)]) (kvs ++ [(k, v)])
  | [], kvs, h => by simp only [RepK] at h; subst h; exact ⟨(k, v), [], rfl, rfl, r0, rfl⟩
  | x :: l, kvs, h => by
    obtain ⟨y, ys, rfl, e1, r, rs⟩ := h
    exact ⟨y, ys ++ [(k, v)], rfl, e1, r, repK_snoc r0 rs⟩
theorem repK_put {w : Wd} {l : List (Key × D)} {kvs : List (Key × V)} {k : Key} {d : D} {v : V} (h : RepK w l kvs) (r : Rep w d v) : RepK w (putD l k d) (putK kvs k v) := by
  unfold putD putK
  rw [repK_any h]
  split
  · exact repK_map r h
  · exact repK_snoc r h
theorem repK_len {w : Wd} : ∀ {l : List (Key × D)} {kvs : List (Key × V)}, RepK w l kvs → kvs.length = l.length
  | [], kvs, h => by simp only [RepK] at h; subst h; rfl
  | x :: l, kvs, h => by
    obtain ⟨y, ys, rfl, _, _, rs⟩ := h
    rw [List.length_cons, List.length_cons, repK_len rs]
/-- d[k] of a dict's cell -/
def dGet : D → D → Store → Option D := fun o i st => match o, keyOf i with
  | .cell c, some k => match st[c]? with
    | some (.dct l) => valD l k
    | _ => none
  | _, _ => none
theorem de_dget (hu : X.A.units + 1 < cLine) (ha : DE X W a fa) (hb : DE X W b fb) (hs : NoSl b := by intro _ _; rfl) : DE X W (.Subscript a b pos) (eOp dGet fa fb) := PE.imp' (pe_dget hu ha hb hs) fun σ H Q h => by
  obtain ⟨w, env, hk, rfl, r, n, h⟩ := h
  refine ⟨w, env, hk, rfl, r, n, (Wp.bind h).imp fun x w1 a1 h1 v rv => ?_⟩
  refine ⟨w1, env, a1.k.trans hk, rfl, a1.rs, n.after a1, (Wp.bind h1).imp fun y w2 a2 h2 u ru => ?_⟩
  have q := Wq.of h2
  obtain ⟨d, e⟩ := wq_some q
  have e0 := e
  unfold dGet at e
  split at e
  · rename_i c k hkey
    split at e
    · rename_i l el
      obtain ⟨kvs, e1, r1⟩ := a2.rs.cells c _ el
      obtain ⟨z, ez, rz⟩ := valD_rep r1 e
      have rv2 := a2.rep rv
      simp only [Rep] at rv2
      refine ⟨_, z, rv2.1, ?_, q.here a2.rs e0 rz⟩
      rw [keyOf_rep hkey ru, ← ez]
      exact DGet.k e1
    · cases e
  · cases e
def putKey (o i d : D) : M Unit := fun st => match o, keyOf i with
  | .cell c, some k => match st[c]? with
    | some (.dct l) => if l.length < 1000 then .ok () (st.set c (.dct (putD l k d))) else .bad
    | _ => .bad
  | _, _ => .bad
def sPutK (fo fi f : Ev → M D) : Ev → M Fl := fun env => stx (f env) env fun d => stx (fo env) env fun o => stx (fi env) env fun i => stx (putKey o i d) env fun _ => pure (.nx env)
theorem ds_dput {o i : Expr} {pos' : Pos} {fo fi : Ev → M D} (hu : X.A.units + 1 < cLine) (ho : DE X W o fo) (hi : DE X W i fi) (hv : DE X W e fa) (hs : swapsWith e (some (.Subscript o i pos')) pos.line X.env = pure false := by rfl) : DS X W (.Assign [.Subscript o i pos'] e pos) (sPutK fo fi fa) :=
  PS.imp' (ps_dput hu ho hi hv hs) fun D' σ H h => by
    obtain ⟨w, env, hk, rfl, r, n, h⟩ := h
    refine ⟨w, env, hk, rfl, r, n, (stx_wp n h).imp fun d w1 a1 h1 v rv => ?_⟩
    refine ⟨w1, env, a1.k.trans hk, rfl, a1.rs, n.after a1, (stx_wp (n.after a1) h1).imp fun od w2 a2 h2 u ru => ?_⟩
    refine ⟨w2, env, a2.k.trans (a1.k.trans hk), rfl, a2.rs, (n.after a1).after a2, (stx_wp ((n.after a1).after a2) h2).imp fun id w3 a3 h3 y ry => ?_⟩
    have h4 := stx_wp (((n.after a1).after a2).after a3) h3
    unfold putKey at h4
    split at h4
    · rename_i c k hkey
      split at h4
      · rename_i l el
        split at h4
        · rename_i hl
          obtain ⟨kvs, e1, r1⟩ := a3.rs.cells c _ el
          have ru3 := a3.rep ru
          simp only [Rep] at ru3
          have up : ∀ b q, b ≠ w3.m c → w3.H b = some q → upd w3.H (w3.m c) (.dK (putK kvs k v)) b = some q := fun b q hb z => by rw [upd_ne hb]; exact z
          have rv3 := (a2.trans a3).rep rv
          have bb : Bears w3 ⟨w3.K, w3.m, w3.st.set c (.dct (putD l k d)), upd w3.H (w3.m c) (.dK (putK kvs k v)), w3.rv⟩ := bears_set (c := .dct (putD l k d)) (c0 := .dct l) a3.rs el trivial up
          have aa : Aft w3 ⟨w3.K, w3.m, w3.st.set c (.dct (putD l k d)), upd w3.H (w3.m c) (.dK (putK kvs k v)), w3.rv⟩ := aft_set (c0 := .dct l) a3.rs el trivial up ⟨_, upd_same, repK_put (bb.repK _ _ r1) (bb.rep _ _ rv3)⟩
          refine ⟨_, _, ru3.1, ?_, Wp.ok_ (a := Fl.nx env) aa.rs (h4 _ aa rfl) σ ((((n.after a1).after a2).after a3).after aa)⟩
          rw [keyOf_rep hkey ry]
          exact DPut.k e1 (by rw [repK_len r1]; exact small1000 (Nat.le_of_lt hl))
        · exact h4.elim
      · exact h4.elim
    · exact h4.elim
/-! ### displays of dicts -/
theorem lat_after {w w1 w2 : Wd} (l : Lat w w1) (a : Aft w1 w2) (h : ∀ x, x ∈ w.rv → x ∈ w1.rv) : Lat w w2 := by
  have hx : ∀ x, x ∈ w.rv → x ∈ w2.rv := fun x hx => by rw [a.rv]; exact h x hx
  exact l.trans ⟨a.k, rfl, ⟨fun i c hc => cell_rv hx (a.rs.cells i c hc), a.rs.inj, fun x z => a.rs.rvs x (hx x z), fun x z => a.rs.rvo x (hx x z)⟩, a.ext, a.len, a.tup, a.fz⟩
theorem Wp.lat {α : Type} {w w1 : Wd} {r : Res α} {P : α → Wd → Prop} {V' : Str → Wd → Prop} (h : Wp w r P V') (l : Lat w w1) (hr : ∀ x, x ∈ w.rv → x ∈ w1.rv) : Wp w1 r (fun a w2 => Lat w w2 ∧ P a ⟨w2.K, w2.m, w2.st, w2.H, w.rv⟩) (fun c w2 => V' c ⟨w2.K, w2.m, w2.st, w2.H, w.rv⟩) := by
  cases r with
  | ok a st' => exact fun w2 a2 e2 => ⟨lat_after l a2 hr, h _ (lat_after l a2 hr) e2⟩
  | err c st' => exact fun w2 a2 e2 => h _ (lat_after l a2 hr) e2
  | bad => exact h
/-- the keys of a display are written -/
def DKs (X : Cx) (W : XW) (pos : Pos) (keys : List (Option Expr)) (vals : List Expr) (ks : List Key) (fs : List (Ev → M D)) : Prop := PPs X pos keys vals ((ks.zip fs).map fun p => (tC (kV p.1), rdE X.K W p.2)) ∧ ks.length = fs.length
theorem dk_nil : DKs X W pos [] [] [] [] := ⟨pps_nil, rfl⟩
theorem dk_cons {x : Str} {j : Nat} {kp : Pos} {keys : List (Option Expr)} {vals : List Expr} {ks : List Key} {fs : List (Ev → M D)} (hv : DE X W e fa) (hr : DKs X W pos keys vals ks fs) : DKs X W pos (some (.Constant (.str x) j kp) :: keys) (e :: vals) (.inr x :: ks) (fa :: fs) :=
  ⟨pps_cons pe_str hv hr.1, by rw [List.length_cons, List.length_cons, hr.2]⟩
theorem pairs_rd {σ : L2.St} {env : Ev} : ∀ {ks : List Key} {fs : List (Ev → M D)} {w : Wd} {G : List (V × V) → Hp → Prop}, ks.length = fs.length → w.K = X.K → RS w → REnv w env σ →
    Wp w (aSeq fs env w.st) (fun ds w2 => ∀ vs, Reps w2 ds vs → G ((ks.zip vs).map fun p => (kV p.1, p.2)) w2.H) (fun c w2 => W c σ w2.H) → tPairs ((ks.zip fs).map fun p => (tC (kV p.1), rdE X.K W p.2)) σ w.H G
  | [], [], w, G, hl, hk, rs, n, h => Wp.ok_ (a := ([] : List D)) rs h [] rfl
  | [], _ :: _, _, _, hl, _, _, _, _ => by cases hl
  | _ :: _, [], _, _, hl, _, _, _, _ => by cases hl
  | k :: ks, f :: fs, w, G, hl, hk, rs, n, h => by
    refine ⟨w, env, hk, rfl, rs, n, (Wp.bind h).imp fun d w1 a1 h1 v rv => ?_⟩
    refine pairs_rd (by simpa using hl) (a1.k.trans hk) a1.rs (n.after a1) ((Wp.bind h1).imp fun ds w2 a2 h2 vs rvs => ?_)
    exact Wp.ok_ (a := d :: ds) a2.rs h2 (v :: vs) ⟨v, vs, rfl, a2.rep rv, rvs⟩
theorem merge_nodup : ∀ {kvs acc : List (Key × V)}, (acc.map (·.1) ++ kvs.map (·.1)).Nodup → mergeK acc kvs = acc ++ kvs
  | [], acc, h => by simp [mergeK]
  | kv :: kvs, acc, h => by
    have hn : valV acc kv.1 = none := by
      have : ¬ kv.1 ∈ acc.map (·.1) := fun z => by
        rw [List.nodup_append] at h
        exact h.2.2 _ z _ (by simp) rfl
      unfold valV
      rw [Option.map_eq_none_iff, List.find?_eq_none]
      intro y hy z
      exact this (List.mem_map.mpr ⟨y, hy, of_decide_eq_true z⟩)
    have e : mergeK acc (kv :: kvs) = mergeK (putK acc kv.1 kv.2) kvs := rfl
    rw [e, putK_new _ hn, merge_nodup (by simpa using h)]
    simp
theorem repK_zip {w : Wd} : ∀ {ks : List Key} {ds : List D} {vs : List V}, Reps w ds vs → RepK w (ks.zip ds) (ks.zip vs)
  | [], ds, vs, h => by simp [RepK]
  | k :: ks, [], vs, h => by simp only [Reps] at h; subst h; simp [RepK]
  | k :: ks, d :: ds, vs, h => by
    simp only [Reps] at h
    obtain ⟨x, xs, rfl, r, rs⟩ := h
    exact ⟨(k, x), _, rfl, rfl, r, repK_zip rs⟩
/-- the same world, one more address reserved -/
def Wd.res (w : Wd) (p : Addr) : Wd := ⟨w.K, w.m, w.st, w.H, p :: w.rv⟩
/-- what a display leaves: the dict at p, known to nobody yet -/
theorem disp_rd {σ : L2.St} {env : Ev} {ks : List Key} {fs : List (Ev → M D)} {w : Wd} {Q : VK} (hl : ks.length = fs.length) (hs : ks.length ≤ 15) (hnd : ks.Nodup) (hk : w.K = X.K) (rs : RS w) (n : REnv w env σ)
    (h : Wp w (aSeq fs env w.st) (fun ds w2 => ∀ (p : Addr) (vs : List V), w.H p = none → w2.H p = some (.dK (ks.zip vs)) → RS (w2.res p) → Bears w (w2.res p) → Reps (w2.res p) ds vs → ds.length = ks.length → Q (.ref p) w2.H) (fun c w2 => W c σ w2.H)) :
    tDisp ((ks.zip fs).map fun p => (tC (kV p.1), rdE X.K W p.2)) σ w.H Q := by
  intro p hp
  have hsub : ∀ x, x ∈ w.rv → x ∈ p :: w.rv := fun x hx => List.mem_cons_of_mem _ hx
  have a0 : Aft w ⟨w.K, w.m, w.st, upd w.H p (.dK []), w.rv⟩ := aft_new rs hp
  have l0 : Lat w ⟨w.K, w.m, w.st, upd w.H p (.dK []), p :: w.rv⟩ := a0
  have rs0 : RS ⟨w.K, w.m, w.st, upd w.H p (.dK []), p :: w.rv⟩ := by
    refine ⟨fun i c hc => cell_bears (bears_res hp) (fun o q _ => same_upd hp _ _ q) (fun _ q => roL_same (same_upd hp) q) rfl (rs.cells i c hc), a0.rs.inj, fun x hx z => ?_, fun x hx z => ?_⟩
    · rcases List.mem_cons.mp hx with rfl | hx
      · have z : upd w.H x (.dK []) x = none := z; rw [upd_same] at z; cases z
      · exact a0.rs.rvs x hx z
    · rcases List.mem_cons.mp hx with rfl | hx
      · exact (fz_new (w := w) (o := .dK []) rs hp).2 z
      · exact a0.rs.rvo x hx z
  have n0 : REnv ⟨w.K, w.m, w.st, upd w.H p (.dK []), p :: w.rv⟩ env σ := ⟨n.len, fun i d e => let ⟨v, e1, r⟩ := n.at_ i d e; ⟨v, e1, (bears_res hp).rep _ _ r⟩⟩
  refine pairs_rd (w := ⟨w.K, w.m, w.st, upd w.H p (.dK []), p :: w.rv⟩) hl hk rs0 n0 ?_
  show Wp (⟨w.K, w.m, w.st, upd w.H p (.dK []), p :: w.rv⟩ : Wd) (aSeq fs env w.st) _ _
  cases ea : aSeq fs env w.st with
  | bad => rw [ea] at h; exact h.elim
  | err c st' =>
    rw [ea] at h
    exact fun w2 a2 e2 => h ⟨w2.K, w2.m, w2.st, w2.H, w.rv⟩ (lat_after l0 a2 hsub) e2
  | ok ds st' =>
    rw [ea] at h
    intro w2 a2 e2 vs rvs
    have hdl : ds.length = fs.length := aSeq_len ea
    have lat2 : Lat w w2 := lat_after l0 a2 hsub
    have hf := a2.fz p (.dK []) (fz_new (w := w) rs hp)
    have own2 : ¬ Own w2.m w2.st p := hf.2
    have hks : (ks.zip vs).map (·.1) = ks := by
      rw [List.map_fst_zip]
      rw [reps_len rvs, hdl, hl]; exact Nat.le_refl _
    refine ⟨hf.1, ks.zip vs, rfl, by rw [List.length_zip]; omega, ?_⟩
    rw [merge_nodup (by simpa [hks] using hnd), List.nil_append]
    have rv2 : w2.rv = p :: w.rv := a2.rv
    have up : ∀ b q, b ≠ p → w2.H b = some q → upd w2.H p (.dK (ks.zip vs)) b = some q := fun b q hb z => by rw [upd_ne hb]; exact z
    have tupk : ∀ a xs, SqT w2.K w2.H a xs → SqT w2.K (upd w2.H p (.dK (ks.zip vs))) a xs := fun a xs q => by
      rcases q with (q | ⟨o, q⟩) | q
      · exact .inl (.inl (up _ _ (ne_of q hf.1 (by intro z; cases z)) q))
      · exact .inl (.inr ⟨o, up _ _ (ne_of q hf.1 (by intro z; cases z)) q⟩)
      · exact .inr q
    have bW : Bears w2 ⟨w2.K, w2.m, w2.st, upd w2.H p (.dK (ks.zip vs)), p :: w.rv⟩ := ⟨fun _ _ => rfl, Nat.le_refl _, tupk, fun x o q => ⟨⟨up _ _ (fun z => q.2 (by rw [z, rv2]; exact List.mem_cons_self ..)) q.1.1, q.1.2⟩, by rw [← rv2]; exact q.2⟩, rfl⟩
    have cellk : ∀ i c, w2.st[i]? = some c → CellOk ⟨w2.K, w2.m, w2.st, upd w2.H p (.dK (ks.zip vs)), p :: w.rv⟩ (w2.m i) c := fun i c hc => by
      have q := a2.rs.cells i c hc
      by_cases lv : c.live
      · have hne : w2.m i ≠ p := fun z => own2 ⟨i, c, hc, lv, z⟩
        exact cell_bears bW (fun o q _ => up _ _ hne q) (fun xs q => by
          rcases q with ⟨u, q⟩ | q
          · exact .inl ⟨u, up _ _ hne q⟩
          · exact .inr q) rfl q
      · cases c with
        | ro l' =>
          obtain ⟨xs, q1, q2, q3⟩ := q
          refine ⟨xs, ?_, bW.reps _ _ q2, q3⟩
          rcases q1 with ⟨u, q1⟩ | q1
          · exact .inl ⟨u, up _ _ (ne_of q1 hf.1 (by intro z; cases z)) q1⟩
          · exact .inr q1
        | dead => trivial
        | _ => exact absurd trivial lv
    have rsW : RS ⟨w2.K, w2.m, w2.st, upd w2.H p (.dK (ks.zip vs)), p :: w.rv⟩ := ⟨cellk, a2.rs.inj, fun x hx z => by
        by_cases hxp : x = p
        · subst hxp; have z : upd w2.H x (.dK (ks.zip vs)) x = none := z; rw [upd_same] at z; cases z
        · have z : upd w2.H p (.dK (ks.zip vs)) x = none := z
          rw [upd_ne hxp] at z; exact a2.rs.rvs x (by rw [rv2]; exact hx) z, fun x hx => a2.rs.rvo x (by rw [rv2]; exact hx)⟩
    have latW : Aft w ⟨w2.K, w2.m, w2.st, upd w2.H p (.dK (ks.zip vs)), w.rv⟩ := by
      refine ⟨lat2.k, rfl, ⟨fun i c hc => cell_rv (w := ⟨w2.K, w2.m, w2.st, upd w2.H p (.dK (ks.zip vs)), p :: w.rv⟩) hsub (cellk i c hc), a2.rs.inj, fun x hx => rsW.rvs x (hsub x hx), fun x hx => rsW.rvo x (hsub x hx)⟩, lat2.ext, lat2.len, fun a xs q => tupk a xs (lat2.tup a xs q), fun x o q => ?_⟩
      have q' := lat2.fz x o q
      exact ⟨up _ _ (fun z => by rw [z] at q; exact absurd (q.1.symm.trans hp) (by simp)) q'.1, q'.2⟩
    exact h _ latW e2 p vs hp upd_same rsW ((bears_res hp).trans (a2.bears.trans bW)) (bW.reps _ _ rvs) (by rw [hdl, hl])
/-- {..}[k] -/
def eDispGet (ks : List Key) (fs : List (Ev → M D)) (fb : Ev → M D) : Ev → M D := fun env => do
  let ds ← aSeq fs env
  let k ← fb env
  lift fun _ => (keyOf k).bind fun key => valD (ks.zip ds) key
end
end G
end

section
set_option Elab.async false
set_option linter.all false
set_option autoImplicit false
set_option maxRecDepth 100000
set_option maxHeartbeats 1000000
namespace G
open PySem PySem.Spec PyProof.Rows L2
section
variable {X : Cx} {W : XW} {e a b c : Expr} {s : Stmt} {ss : List Stmt} {pos : Pos} {fa fb fc : Ev → M D} {g g' : Ev → M Fl}
theorem de_dispGet {keys : List (Option Expr)} {vals : List Expr} {ks : List Key} {fs : List (Ev → M D)} {dpos : Pos} (hu : X.A.units + 1 < cLine) (hd : DKs X W dpos keys vals ks fs) (hb : DE X W b fb) (hall : keys.all (·.isSome) = true) (hl : keys.length = vals.length) (h0 : keys ≠ []) (h15 : keys.length ≤ 15)
    (hkl : ks.length ≤ 15) (hnd : ks.Nodup) (hs : NoSl b := by intro _ _; rfl) : DE X W (.Subscript (.Dict keys vals dpos) b pos) (eDispGet ks fs fb) := PE.imp' (pe_dget hu (pe_disp hd.1 hall hl h0 h15) hb hs) fun σ H Q h => by
  obtain ⟨w, env, hk, rfl, r, n, h⟩ := h
  refine disp_rd hd.2 hkl hnd hk r n ((Wp.bind h).imp fun ds w2 a2 h2 p vs hp hH rsR bR rvs hdl => ?_)
  have hsub : ∀ x, x ∈ w2.rv → x ∈ (w2.res p).rv := fun x hx => List.mem_cons_of_mem _ hx
  have l2 : Lat w2 (w2.res p) := Aft.refl a2.rs
  refine ⟨w2.res p, env, a2.k.trans hk, rfl, rsR, ⟨n.len, fun i d e => let ⟨v, e1, rr⟩ := n.at_ i d e; ⟨v, e1, bR.rep _ _ rr⟩⟩, ?_⟩
  show Wp (w2.res p) (fb env w2.st) _ _
  have h3 := Wp.bind h2
  cases ek : fb env w2.st with
  | bad => rw [ek] at h3; exact h3.elim
  | err c st' => rw [ek] at h3; exact fun w3 a3 e3 => h3 ⟨w3.K, w3.m, w3.st, w3.H, w2.rv⟩ (lat_after l2 a3 hsub) e3
  | ok y st' =>
    rw [ek] at h3
    intro w3 a3 e3 u ru
    have h4 := Wq.of (w := ⟨w3.K, w3.m, w3.st, w3.H, w2.rv⟩) (h3 ⟨w3.K, w3.m, w3.st, w3.H, w2.rv⟩ (lat_after l2 a3 hsub) e3)
    obtain ⟨d, ed⟩ := wq_some h4
    have hf := a3.fz p _ ⟨hH, rsR.rvo p (List.mem_cons_self ..)⟩
    cases kk : keyOf y with
    | none => rw [kk] at ed; cases ed
    | some key =>
      have ed' := ed
      rw [kk] at ed'
      obtain ⟨v, ev, rv⟩ := valD_rep (repK_zip (ks := ks) (a3.reps rvs)) ed'
      refine ⟨p, v, rfl, by rw [keyOf_rep kk ru, ← ev]; exact DGet.k hf.1, ?_⟩
      exact h4.here (lat_after l2 a3 hsub).rs ed ((bears_rv (w := w3) (fun x hx => by rw [a3.rv]; exact hsub x hx)).rep _ _ rv)
def eNewD (ks : List Key) (fs : List (Ev → M D)) : Ev → M D := fun env => do
  let ds ← aSeq fs env
  newCell (.dct (ks.zip ds))
theorem de_newD {keys : List (Option Expr)} {vals : List Expr} {ks : List Key} {fs : List (Ev → M D)} (hd : DKs X W pos keys vals ks fs) (hall : keys.all (·.isSome) = true) (hl : keys.length = vals.length) (h0 : keys ≠ []) (h15 : keys.length ≤ 15) (hkl : ks.length ≤ 15) (hnd : ks.Nodup) :
    DE X W (.Dict keys vals pos) (eNewD ks fs) := PE.imp' (pe_disp hd.1 hall hl h0 h15) fun σ H Q h => by
  obtain ⟨w, env, hk, rfl, r, n, h⟩ := h
  refine disp_rd hd.2 hkl hnd hk r n ?_
  have h1 : Wp w ((aSeq fs env >>= fun ds => newCell (.dct (ks.zip ds))) w.st) (fun d w' => ∀ v, Rep w' d v → Q v w'.H) (fun c w' => W c σ w'.H) := h
  have h2 : Wp w (M.andThen (aSeq fs env) (fun ds => newCell (.dct (ks.zip ds))) w.st) (fun d w' => ∀ v, Rep w' d v → Q v w'.H) (fun c w' => W c σ w'.H) := h1
  unfold M.andThen at h2
  cases ea : aSeq fs env w.st with
  | bad => rw [ea] at h2; exact h2.elim
  | err c st' => rw [ea] at h2; exact h2
  | ok ds st' =>
    rw [ea] at h2
    intro w2 a2 e2 p vs hp hH rsR bR rvs hdl
    subst e2
    have own2 : ¬ Own w2.m w2.st p := rsR.rvo p (List.mem_cons_self ..)
    -- the dict becomes a cell
    have ownN : ∀ x, Own (mpNew w2.m w2.st.length p) (w2.st ++ [.dct (ks.zip ds)]) x → Own w2.m w2.st x ∨ x = p := fun x z => own_new z
    have bN : Bears (w2.res p) ⟨w2.K, mpNew w2.m w2.st.length p, w2.st ++ [.dct (ks.zip ds)], w2.H, w2.rv⟩ := ⟨fun i hi => mpNew_old hi, by simp [Wd.res], fun _ _ q => q, fun x o q => ⟨⟨q.1.1, fun z => by
      rcases ownN x z with z | z
      · exact q.1.2 z
      · exact q.2 (by rw [z]; exact List.mem_cons_self ..)⟩, fun z => q.2 (List.mem_cons_of_mem _ z)⟩, rfl⟩
    have cells : ∀ i c, (w2.st ++ [Cell.dct (ks.zip ds)])[i]? = some c → CellOk ⟨w2.K, mpNew w2.m w2.st.length p, w2.st ++ [.dct (ks.zip ds)], w2.H, w2.rv⟩ (mpNew w2.m w2.st.length p i) c := fun i c hc => by
      rcases at_new hc with ⟨hi, hc⟩ | ⟨hi, hc⟩
      · rw [mpNew_old hi]
        exact cell_bears bN (fun o q _ => q) (fun _ q => q) rfl (rsR.cells i c hc)
      · subst hc hi
        rw [mpNew_new]
        exact ⟨_, hH, repK_zip (bN.reps _ _ rvs)⟩
    have aN : Aft w ⟨w2.K, mpNew w2.m w2.st.length p, w2.st ++ [.dct (ks.zip ds)], w2.H, w2.rv⟩ := by
      refine ⟨a2.k, a2.rv, ⟨cells, fun i j c1 c2 q1 q2 l1 l2 q => ?_, fun x hx => a2.rs.rvs x hx, fun x hx z => ?_⟩, fun i hi => (mpNew_old (Nat.lt_of_lt_of_le hi a2.len)).trans (a2.ext i hi), Nat.le_trans a2.len (by simp), a2.tup, fun x o q => ?_⟩
      · have q : mpNew w2.m w2.st.length p i = mpNew w2.m w2.st.length p j := q
        rcases at_new q1 with ⟨hi, q1⟩ | ⟨hi, q1⟩
        · rw [mpNew_old hi] at q
          rcases at_new q2 with ⟨hj, q2⟩ | ⟨hj, q2⟩
          · rw [mpNew_old hj] at q
            exact a2.rs.inj i j c1 c2 q1 q2 l1 l2 q
          · rw [hj, mpNew_new] at q
            exact absurd ⟨i, c1, q1, l1, q⟩ own2
        · rw [hi, mpNew_new] at q
          rcases at_new q2 with ⟨hj, q2⟩ | ⟨hj, q2⟩
          · rw [mpNew_old hj] at q
            exact absurd ⟨j, c2, q2, l2, q.symm⟩ own2
          · rw [hi, hj]
      · rcases ownN x z with z | z
        · exact a2.rs.rvo x hx z
        · subst z; rw [a2.rv] at hx; exact r.rvs x hx hp
      · have q' := a2.fz x o q
        refine ⟨q'.1, fun z => ?_⟩
        rcases ownN x z with z | z
        · exact q'.2 z
        · subst z; exact absurd (q.1.symm.trans hp) (by simp)
    refine h2 _ aN rfl (.ref p) ?_
    simp only [Rep]
    exact ⟨by rw [mpNew_new], by simp⟩
/-! ## repr of data -/
def reprOk (p : PyData) : Bool := p.showable && decide (p.shown.length ≤ sizeLine) && decide (p.depth ≤ 60) && !p.hasDict
def dRepr : List D → Store → Option D
  | [.tup l], _ => match (D.tup l).data with
    | some p => if reprOk p then some (.str p.shown) else none
    | none => none
  | [.lst l], _ => match (D.lst l).data with
    | some p => if reprOk p then some (.str p.shown) else none
    | none => none
  | [.int i], _ => if i.natAbs.log2 < 1920 then some (.str (toString i)) else none
  | _, _ => none
def rReprD (K : PySem.W.Frag) : List V → Hp → VK → Prop := fun xs H Q => ∃ (x : Addr) (d : PyData), xs = [.ref x] ∧ Dp K H (.ref x) d ∧ reprOk d = true ∧ Q (.str d.shown) H
theorem cr_reprD (hg : X.A.guards = some []) (hu : X.A.units + 64 < cLine) : CallR X (.builtin "repr") (rReprD X.K) := by
  intro pins s σ H xs us Q I rel h
  obtain ⟨x, d, rfl, hd, hok, q⟩ := h
  obtain ⟨u, rfl, rx⟩ := vals1 rel
  cases (show u = Value.ref x from rx)
  obtain ⟨as, rr⟩ := Dp.reads I d (.ref x) (.ref x) hd rfl
  unfold reprOk at hok
  simp only [Bool.and_eq_true, decide_eq_true_eq, Bool.not_eq_true'] at hok
  obtain ⟨⟨⟨h1, h2⟩, h3⟩, h4⟩ := hok
  refine repr_of_reads' (h₀ := s.heap) rr h1 (fun z => by rw [h4] at z; cases z) hg (by omega) (fun _ _ z => z) ?_ h2
  intro h' ut tk keep
  refine ⟨.str d.shown, H, ?_, ⟨_, rfl⟩, q⟩
  exact I.un (Un.kept keep) (I.hok.kept keep)
theorem cd_repr (hg : X.A.guards = some []) (hu : X.A.units + 64 < cLine) : CallD X (.builtin "repr") dRepr := CallR.imp' ((cr_reprD hg hu).or SkE.call_repr_int) fun xs H Q h => by
  obtain ⟨w, ds, hk, rfl, rs, rd, q⟩ := h
  obtain ⟨d, e⟩ := wq_some q
  have e0 := e
  unfold dRepr at e
  split at e
  · rename_i l
    obtain ⟨v, rfl, r⟩ := reps1 rd
    split at e
    · rename_i p ep
      split at e
      · rename_i hok
        have r0 := r
        simp only [Rep] at r
        obtain ⟨x, ys, rfl, _⟩ := r
        exact .inl ⟨x, p, rfl, by rw [← hk]; exact dp_of _ _ p r0 ep, hok, q.here rs (e0.trans e.symm) (rep_str _)⟩
      · cases e
    · cases e
  · rename_i l
    obtain ⟨v, rfl, r⟩ := reps1 rd
    split at e
    · rename_i p ep
      split at e
      · rename_i hok
        have r0 := r
        simp only [Rep] at r
        obtain ⟨x, ys, rfl, _⟩ := r
        exact .inl ⟨x, p, rfl, by rw [← hk]; exact dp_of _ _ p r0 ep, hok, q.here rs (e0.trans e.symm) (rep_str _)⟩
      · cases e
    · cases e
  · rename_i i
    obtain ⟨v, rfl, r⟩ := reps1 rd
    simp only [Rep] at r
    split at e
    · rename_i hc
      exact .inr ⟨i, by rw [r], hc, q.here rs (e0.trans e.symm) (rep_str _)⟩
    · cases e
  · cases e
/-! ## xs[::-1] -/
def dRev : D → Store → Option D
  | .lst l, _ => some (.lst l.reverse)
  | _, _ => none
theorem reps_rev {w : Wd} : ∀ {ds : List D} {vs : List V}, Reps w ds vs → Reps w ds.reverse vs.reverse
  | [], vs, h => by simp only [Reps] at h; subst h; simp [Reps]
  | d :: ds, vs, h => by
    simp only [Reps] at h
    obtain ⟨x, xs, rfl, r, rs⟩ := h
    rw [List.reverse_cons, List.reverse_cons]
    exact reps_app (reps_rev rs) (by simp only [Reps]; exact ⟨x, [], rfl, r, rfl⟩)
theorem de_rev {k : Nat} {p1 p2 p3 : Pos} (ha : DE X W a fa) : DE X W (.Subscript a (.Slice none none (some (.UnaryOp .USub (.Constant (.int 1) k p1) p2)) p3) pos) (eUn dRev fa) := PE.imp' (pe_revL ha) fun σ H Q h => by
  obtain ⟨w, env, hk, rfl, r, n, h⟩ := h
  refine ⟨w, env, hk, rfl, r, n, (Wp.bind h).imp fun x w1 a1 h1 v rv => ?_⟩
  have q := Wq.of h1
  obtain ⟨d, e⟩ := wq_some q
  unfold dRev at e
  split at e
  · rename_i l
    simp only [Rep] at rv
    obtain ⟨x, xs, rfl, sq, rr, hl⟩ := rv
    show ∃ a xs, _ ∧ _ ∧ _
    exact ⟨x, xs, rfl, SqL.of sq.1.1, fun p hp => q.new a1.rs hp rfl (rep_new a1.rs hp (reps_rev rr) (by rw [List.length_reverse]; exact hl))⟩
  · cases e
end
end G
end

section
set_option Elab.async false
set_option linter.all false
set_option autoImplicit false
set_option maxRecDepth 100000
set_option maxHeartbeats 1000000
namespace G
open PySem PySem.Spec PyProof.Rows L2
/-! ## a def by its name -/
structure CalM (P : Program) (w : World) (K : PySem.W.Frag) (mg : Str → Option Value) (base : Heap) (k : Nat) (x : Str) (ps : List Str) (F : List D → M D) : Prop where
  ex : ∃ (f : Addr) (fd : FuncData), mg x = some (.ref f) ∧ PySem.W.keepIn K (.ref f) = true ∧ Binds K fd ps [] ∧ FnM P w K mg base k f fd ps F
theorem calm_zero {P : Program} {w : World} {K : PySem.W.Frag} {mg : Str → Option Value} {base : Heap} {x : Str} {ps : List Str} {f : Addr} {fd : FuncData} (hm : mg x = some (.ref f)) (hk : PySem.W.keepIn K (.ref f) = true) (hb : Binds K fd ps []) : CalM P w K mg base 0 x ps (fun _ => M.stuck) :=
  ⟨f, fd, hm, hk, hb, ⟨fun vs H Q E h => by obtain ⟨_, _, _, _, _, _, _, h⟩ := h; exact h.elim, fun A outer s H args us vs Q E _ _ _ _ _ h => by obtain ⟨_, _, _, _, _, _, _, h⟩ := h; exact h.elim⟩⟩
section
variable {X : Cx} {W : XW} {e a b c : Expr} {pos p : Pos} {fa fb fc : Ev → M D} {k : Nat} {ps : List Str} {x : Str} {es : List Expr}
theorem dcall {F : List D → M D} {fs : List (Ev → M D)} {Wx : WX} (C : CalM X.prog X.w X.K X.mg X.base k x ps F) (hgd : X.A.guards = some []) (hr : Room k X.A) (tk : L2N.Takes X Wx) (hW : W = wX X.K Wx) (hg : Gl X x) (ha : DA X W (e :: es) fs) (hl : fs.length = ps.length := by rfl)
    (hdb : (x == ("__debug__" : Str)) = false := by decide) (he : starEach (e :: es) X.env = (false, eval e X.env) :: starEach es X.env := by rfl) (hpl : (backTo pos (starEach es X.env)).any (·.1) = false := by rfl) : DE X W (.Call (.Name x p) (e :: es) [] pos) (eCall F fs) := by
  obtain ⟨f, fd, h1, h2, h3, h4⟩ := C.ex
  exact de_call h4 hgd hr tk hW hg h1 h2 h3 ha hl hdb he hpl
theorem dcall0 {F : List D → M D} {Wx : WX} (C : CalM X.prog X.w X.K X.mg X.base k x [] F) (hgd : X.A.guards = some []) (hr : Room k X.A) (tk : L2N.Takes X Wx) (hW : W = wX X.K Wx) (hg : Gl X x) (hdb : (x == ("__debug__" : Str)) = false := by decide) : DE X W (.Call (.Name x p) [] [] pos) (eCall F []) := by
  obtain ⟨f, fd, h1, h2, h3, h4⟩ := C.ex
  exact de_call0 h4 hgd hr tk hW hg h1 h2 h3 hdb
/-- the name in the i-th slot -/
theorem dv (i : Nat) (hN : X.N[i]? = some x := by rfl) (hv : Vis X.env.scope x := by first | exact Or.inl rfl | exact Or.inr (Or.inl rfl) | exact Or.inr (Or.inr rfl)) (hd : (x == ("__debug__" : Str)) = false := by decide) (hcd : (x == ("__classdict__" : Str)) = false := by decide) : DE X W (.Name x pos) (eVar i) := de_var i hN hv hd hcd
/-- a list's cell is given up -/
def freeL : D → M D := fun d st => match d with
  | .cell c => match st[c]? with
    | some (.lst l) => .ok (.lst l) (st.set c .dead)
    | _ => .bad
  | _ => .bad
def eFree (f : Ev → M D) : Ev → M D := fun env => do
  let d ← f env
  freeL d
theorem de_free (h : DE X W e fa) : DE X W e (eFree fa) := PE.imp' h fun σ H Q h => by
  obtain ⟨w, env, hk, rfl, r, n, h⟩ := h
  refine ⟨w, env, hk, rfl, r, n, (Wp.bind h).imp fun d w1 a1 h1 v rv => ?_⟩
  unfold freeL at h1
  split at h1
  · rename_i c
    split at h1
    · rename_i l el
      obtain ⟨a2, v2, r2, e2⟩ := aft_free (K := w1.K) (m := w1.m) (st := w1.st) (H := w1.H) (rv := w1.rv) a1.rs el
      simp only [Rep] at rv
      subst e2
      rw [rv.1]
      exact h1 _ a2 rfl _ r2
    · exact h1.elim
  · exact h1.elim
theorem room65 {A : Around} {n : Nat} (r : Room n A) : A.units + 65 < cLine := by have := r.un; omega
theorem room1 {A : Around} {n : Nat} (r : Room n A) : A.units + 1 < cLine := by have := r.un; omega
end
/-! ## the frame of a proof: the defs of a text by an index -/
structure Facts (ι : Type) (nm : ι → Str) (st : ι → Stmt) (free : List Str) (K : PySem.W.Frag) (mg : Str → Option Value) : Prop where
  mgf : ∀ i, mg (nm i) = some (.ref (He.ga K (nm i)))
  fd : ∀ i, ∃ fd, FunD K (nm i) (nm i) (defArgs (st i)) (defBody (st i)) (defScope (st i)) [] [] (He.ga K (nm i)) fd
  fr : ∀ x ∈ free, mg x = none
theorem calm_of {ι : Type} {nm : ι → Str} {st : ι → Stmt} {free : List Str} {P : Program} {w : World} {K : PySem.W.Frag} {mg : Str → Option Value} {base : Heap} {k : Nat} {N ps : List Str} {g : Ev → M Fl} (T : Facts ι nm st free K mg) (i : ι) (S : FnScope N ps (defScope (st i))) (hN : ps.length ≤ N.length)
    (hbd : ∀ fd, FunD K (nm i) (nm i) (defArgs (st i)) (defBody (st i)) (defScope (st i)) [] [] (He.ga K (nm i)) fd → Binds K fd ps [])
    (hb : ∀ (cdv : Value) (A : Around) (outer : List Env) (s : Shared) (H : Hp) (E : XK), A.guards = some [] → Room k (A.deeper (envOfC (nm i) (defScope (st i)) s.heap.objs.size (He.ga K (nm i)) cdv)) →
      DSs (cxOf (L2N.CX P w) P w K mg base N (nm i) (defScope (st i)) (He.ga K (nm i)) cdv A outer s H E) (wE K E) (defBody (st i)) g) : CalM P w K mg base (k + 1) (nm i) ps (runF N.length g) := by
  obtain ⟨fd, FD⟩ := T.fd i
  exact ⟨_, fd, T.mgf i, FD.kp, hbd fd FD, fnm_of FD S hN hb⟩
/-! ## == of two texts -/
def dEqS : D → D → Store → Option D
  | .str x, .str y, _ => some (.bl (x == y))
  | _, _, _ => none
def dNeS : D → D → Store → Option D
  | .str x, .str y, _ => some (.bl (!(x == y)))
  | _, _, _ => none
theorem od_eqS {X : Cx} : OpD X (compareOp .Eq) dEqS := OpR.imp' op_eq fun x y H Q h => by
  obtain ⟨w, a, b, hk, rfl, rs, ra, rb, q⟩ := h
  obtain ⟨d, e⟩ := wq_some q
  unfold dEqS at e
  split at e
  · rename_i u v
    cases e
    simp only [Rep] at ra rb
    subst ra; subst rb
    refine ⟨rfl, ?_⟩
    rw [dec_str]
    exact q.here rs rfl (rep_bl _)
  · cases e
theorem od_neS {X : Cx} : OpD X (compareOp .NotEq) dNeS := OpR.imp' op_ne fun x y H Q h => by
  obtain ⟨w, a, b, hk, rfl, rs, ra, rb, q⟩ := h
  obtain ⟨d, e⟩ := wq_some q
  unfold dNeS at e
  split at e
  · rename_i u v
    cases e
    simp only [Rep] at ra rb
    subst ra; subst rb
    refine ⟨rfl, ?_⟩
    rw [dec_str]
    exact q.here rs rfl (rep_bl _)
  · cases e
end G
end

section
set_option Elab.async false
set_option linter.all false
set_option autoImplicit false
set_option maxRecDepth 100000
set_option maxHeartbeats 1000000
namespace G
open PySem PySem.Spec PyProof.Rows L2
/-! ## the module's constants -/
inductive Con (K : PySem.W.Frag) (mg : Str → Option Value) (x : Str) : D → Prop
  | int {i : Int} {t : Tok} (h : mg x = some (.int i t)) : Con K mg x (.int i)
  | str {z : Str} {t : Tok} (h : mg x = some (.str z t)) : Con K mg x (.str z)
  | tup {zs : List Str} (h : mg x = some (.ref (He.ga K x))) (hs : ∀ H, SqT K H (He.ga K x) (zs.map V.str)) (hl : zs.length ≤ sizeLine) : Con K mg x (.tup (zs.map D.str))
theorem reps_strs {w : Wd} : ∀ zs : List Str, Reps w (zs.map D.str) (zs.map V.str)
  | [] => by simp [Reps]
  | z :: zs => by
    simp only [List.map_cons, Reps]
    exact ⟨_, _, rfl, by simp [Rep], reps_strs zs⟩
section
variable {X : Cx} {W : XW} {e a b c : Expr} {pos p : Pos} {fa fb fc : Ev → M D} {x : Str}
theorem de_con {d : D} (hg : Gl X x) (hc : Con X.K X.mg x d) (hd : (x == ("__debug__" : Str)) = false := by decide) : DE X W (.Name x pos) (eC d) := by
  cases hc with
  | @int i t h =>
    refine PE.imp' (pe_glob (v := .int i) hg h ⟨t, rfl⟩ hd) fun σ H Q h => ?_
    obtain ⟨w, env, hk, rfl, r, n, h⟩ := h
    exact Wp.ok_ (a := D.int i) r h _ (by simp [Rep])
  | @str z t h =>
    refine PE.imp' (pe_glob (v := .str z) hg h ⟨t, rfl⟩ hd) fun σ H Q h => ?_
    obtain ⟨w, env, hk, rfl, r, n, h⟩ := h
    exact Wp.ok_ (a := D.str z) r h _ (by simp [Rep])
  | @tup zs h hs hl =>
    refine PE.imp' (pe_glob (v := .ref (He.ga X.K x)) hg h rfl hd) fun σ H Q h => ?_
    obtain ⟨w, env, hk, rfl, r, n, h⟩ := h
    refine Wp.ok_ (a := D.tup (zs.map D.str)) r h _ ?_
    simp only [Rep]
    exact ⟨_, zs.map V.str, rfl, by rw [hk]; exact hs _, reps_strs zs, by simpa using hl⟩
/-! ## signs -/
def chars (z : Str) : List D := z.cps.toList.map fun c => D.str ⟨#[c]⟩
def asS : D → M Str
  | .str z => pure z
  | _ => M.stuck
def iChars (f : Ev → M D) : Ev → M (List D) := fun env => do
  let d ← f env
  let z ← asS d
  if z.length ≤ sizeLine then pure (chars z) else M.stuck
theorem asS_wp {w : Wd} {d : D} {P : Str → Wd → Prop} {V' : Str → Wd → Prop} (rs : RS w) (h : Wp w (asS d w.st) P V') : ∃ b, d = .str b ∧ P b w := by
  cases d with
  | str b => exact ⟨b, rfl, Wp.ok_ rs h⟩
  | _ => exact h.elim
theorem walks_str {w : Wd} {z : Str} (hz : z.length ≤ sizeLine) : Walks w (Its z) (chars z) where
  step := fun w' hk rs b i d e => by
    unfold chars at e
    rw [List.getElem?_map] at e
    cases q : z.cps.toList[i]? with
    | none => rw [q] at e; cases e
    | some c =>
      rw [q] at e
      cases e
      have hi : i < z.cps.size := by
        have := (List.getElem?_eq_some_iff.mp q).1
        simpa using this
      refine ⟨hi, fun v H' hv => ?_⟩
      obtain ⟨rfl, c', hc', rfl⟩ := hv
      have e3 : c' = c := by
        rw [Array.getElem?_toList] at q
        rw [hc'] at q
        cases q
        rfl
      subst e3
      exact ⟨w', .refl rs, rfl, rfl, rfl, by simp [Rep]⟩
  stop := fun w' hk rs b => by
    unfold chars
    rw [List.length_map]
    exact Nat.le_of_eq (by simp)
  len := by
    unfold chars
    rw [List.length_map]
    exact hz
theorem di_chars {tg : Expr} (h : DE X W a fa) : DI X W tg a (iChars fa) := by
  refine PI.imp' (pi_str h) fun σ H R h => ?_
  obtain ⟨w, env, hk, rfl, r, n, h⟩ := h
  refine ⟨w, env, hk, rfl, r, n, (Wp.bind h).imp fun d w1 a1 h1 v rv => ?_⟩
  obtain ⟨z, rfl, h2⟩ := asS_wp a1.rs (Wp.bind h1)
  simp only [Rep] at rv
  by_cases hc : z.length ≤ sizeLine
  · rw [if_pos hc] at h2
    exact ⟨z, rv, Wp.ok_ (a := chars z) a1.rs h2 _ (walks_str hc)⟩
  · rw [if_neg hc] at h2
    exact h2.elim
def sign? : D → Option Nat
  | .str z => match z.cps.toList with
    | [c] => some c
    | _ => none
  | _ => none
def dInS : D → D → Store → Option D := fun a b _ => match sign? a, b with
  | some c, .str z => some (.bl (decide (c ∈ z.cps.toList)))
  | _, _ => none
def dNotInS : D → D → Store → Option D := fun a b _ => match sign? a, b with
  | some c, .str z => some (.bl (!decide (c ∈ z.cps.toList)))
  | _, _ => none
theorem sign_some {d : D} {c : Nat} (h : sign? d = some c) : d = .str ⟨#[c]⟩ := by
  cases d with
  | str z =>
    obtain ⟨cs⟩ := z
    obtain ⟨l⟩ := cs
    simp only [sign?] at h
    split at h
    · cases h
      rfl
    · cases h
  | _ => cases h
theorem od_inS : OpD X (compareOp .In) dInS := OpR.imp' op_in_sign fun x y H Q h => by
  obtain ⟨w, a, b, hk, rfl, rs, ra, rb, q⟩ := h
  obtain ⟨d, e⟩ := wq_some q
  have e0 := e
  unfold dInS at e
  split at e
  · rename_i c z hs
    cases sign_some hs
    simp only [Rep] at ra rb
    exact ⟨c, z, ra, rb, q.here rs (e0.trans e.symm) (rep_bl _)⟩
  · cases e
theorem od_notInS : OpD X (compareOp .NotIn) dNotInS := OpR.imp' op_notIn_sign fun x y H Q h => by
  obtain ⟨w, a, b, hk, rfl, rs, ra, rb, q⟩ := h
  obtain ⟨d, e⟩ := wq_some q
  have e0 := e
  unfold dNotInS at e
  split at e
  · rename_i c z hs
    cases sign_some hs
    simp only [Rep] at ra rb
    exact ⟨c, z, ra, rb, q.here rs (e0.trans e.symm) (rep_bl _)⟩
  · cases e
/-! ## int of a truth -/
def dIntB : List D → Store → Option D
  | [.bl k], _ => some (.int (if k then 1 else 0))
  | _, _ => none
theorem cd_intB : CallD X (.type "int") dIntB := CallR.imp' call_int1 fun xs H Q h => by
  obtain ⟨w, ds, hk, rfl, rs, rd, q⟩ := h
  obtain ⟨d, e⟩ := wq_some q
  unfold dIntB at e
  split at e
  · rename_i k
    obtain ⟨v, rfl, r⟩ := reps1 rd
    simp only [Rep] at r
    exact .inr ⟨k, by rw [r], q.here rs rfl (rep_int _)⟩
  · cases e
/-! ## max of a list -/
def maxI : List Int → Option Int
  | [] => none
  | n :: r => some (r.foldl max n)
theorem foldl_max (r : List Int) : ∀ n : Int, (r.foldl max n = n ∨ r.foldl max n ∈ r) ∧ n ≤ r.foldl max n ∧ ∀ y ∈ r, y ≤ r.foldl max n := by
  induction r with
  | nil => intro n; exact ⟨.inl rfl, Int.le_refl _, by simp⟩
  | cons m r ih =>
    intro n
    obtain ⟨h1, h2, h3⟩ := ih (max n m)
    simp only [List.foldl_cons]
    refine ⟨?_, by omega, fun y hy => ?_⟩
    · rcases h1 with h1 | h1
      · rw [h1]
        by_cases z : n ≤ m
        · right; rw [Int.max_eq_right z]; simp
        · left; rw [Int.max_eq_left (by omega)]
      · right; simp [h1]
    · rcases List.mem_cons.mp hy with rfl | hy
      · omega
      · exact h3 y hy
def dMaxL : List D → Store → Option D
  | [.lst l], _ => (ints? l).bind fun ns => (maxI ns).map .int
  | _, _ => none
theorem cd_maxL (hc : X.calm = true) : CallD X (.builtin "max") dMaxL := CallR.imp' (cr_max hc) fun xs H Q h => by
  obtain ⟨w, ds, hk, rfl, rs, rd, q⟩ := h
  obtain ⟨d, e⟩ := wq_some q
  have e0 := e
  unfold dMaxL at e
  split at e
  · rename_i l
    obtain ⟨v, rfl, r⟩ := reps1 rd
    simp only [Rep] at r
    obtain ⟨a, ys, rfl, s, r1, l1⟩ := r
    cases qi : ints? l with
    | none => rw [qi] at e; cases e
    | some ns =>
      rw [qi] at e
      have ey := ints_reps qi r1
      subst ey
      cases ns with
      | nil => cases e
      | cons n r =>
        obtain ⟨f1, f2, f3⟩ := foldl_max r n
        refine ⟨a, n :: r, rfl, by rw [← hk]; exact SqL.of s.1.1, by simp, fun m hm hy => ?_⟩
        have em : m = r.foldl max n := by
          have a1 : m ≤ r.foldl max n := by
            rcases List.mem_cons.mp hm with rfl | hm
            · exact f2
            · exact f3 m hm
          have a2 : r.foldl max n ≤ m := by
            rcases f1 with f1 | f1
            · rw [f1]; exact hy n (by simp)
            · exact hy _ (by simp [f1])
          omega
        subst em
        exact q.here rs (e0.trans e.symm) (rep_int _)
  · cases e
end
end G
end

section
set_option Elab.async false
set_option linter.all false
set_option autoImplicit false
set_option maxRecDepth 100000
set_option maxHeartbeats 1000000
namespace G
open PySem PySem.Spec PyProof.Rows L2
section
variable {X : Cx} {W : XW} {e a b c : Expr} {pos p : Pos} {fa fb fc : Ev → M D} {x : Str}
/-! ## repr of any datum -/
def dReprA : List D → Store → Option D
  | [.non], _ => some (.str "None")
  | [.bl k], _ => some (.str (if k then "True" else "False"))
  | [.str z], _ => if (reprText z).length ≤ sizeLine then some (.str (reprText z)) else none
  | [.dct0], _ => some (.str (PyData.shown (.dict [])))
  | ds, st => dRepr ds st
theorem cr_none : CallR X (.builtin "repr") (fun xs H Q => xs = [.non] ∧ Q (.str "None") H) := by
  intro pins s σ H xs us Q I r h
  obtain ⟨rfl, q⟩ := h
  obtain ⟨u, rfl, ru⟩ := vals1 r
  cases (show u = Value.none from ru)
  exact PySem.P.repr_of_none ⟨.str _, H, I.tok _, ⟨_, rfl⟩, q⟩
theorem cr_bool : CallR X (.builtin "repr") (fun xs H Q => ∃ k : Bool, xs = [.bl k] ∧ Q (.str (if k then "True" else "False")) H) := by
  intro pins s σ H xs us Q I r h
  obtain ⟨k, rfl, q⟩ := h
  obtain ⟨u, rfl, ru⟩ := vals1 r
  cases (show u = Value.bool k from ru)
  refine PySem.P.repr_of_bool ?_
  exact ⟨.str (if k then "True" else "False"), H, I.tok _, by cases k <;> exact ⟨_, rfl⟩, q⟩
theorem cr_strR : CallR X (.builtin "repr") (fun xs H Q => ∃ z : Str, xs = [.str z] ∧ (reprText z).length ≤ sizeLine ∧ Q (.str (reprText z)) H) := by
  intro pins s σ H xs us Q I r h
  obtain ⟨z, rfl, hz, q⟩ := h
  obtain ⟨u, rfl, t, rfl⟩ := vals1 r
  exact PySem.P.repr_of_str ⟨.str _, H, I.tok _, ⟨_, rfl⟩, q⟩ hz
theorem cr_dct0 (hg : X.A.guards = some []) (hu : X.A.units + 64 < cLine) : CallR X (.builtin "repr") (fun xs H Q => ∃ a, xs = [.ref a] ∧ H a = some (.dK []) ∧ Q (.str (PyData.shown (.dict []))) H) := by
  intro pins s σ H xs us Q I r h
  obtain ⟨a, rfl, ha, q⟩ := h
  obtain ⟨u, rfl, ru⟩ := vals1 r
  cases (show u = Value.ref a from ru)
  obtain ⟨_, hne, vs, kv, dd⟩ := dk_of I.hok ha
  have hv : vs = [] := by cases kv; rfl
  subst hv
  obtain ⟨o, es, ep, h1, h2, h3, _, h5, _⟩ := dd
  have he : es.toList = [] := by
    generalize es.toList = l at h5
    cases h5; rfl
  have hsm : ¬ sysModules ∈ [a] := by
    intro z
    rw [List.mem_singleton.mp z] at hne
    simp at hne
  have rr : Reads s.heap (.ref a) (.dict []) (a :: [] ++ []) := .dict h1 h2.1 h3 (by rw [he]; exact .nil) (by rw [he]; exact .nil)
  refine repr_of_reads' (h₀ := s.heap) rr rfl (fun _ => hsm) hg (by show X.A.units + (PyData.depth (.dict []) + 1) < cLine; have : PyData.depth (.dict []) = 1 := rfl; omega) (fun _ _ z => z) ?_ (by decide)
  intro h' ut tk keep
  exact ⟨.str _, H, I.un (Un.kept keep) (I.hok.kept keep), ⟨_, rfl⟩, q⟩
theorem cd_reprA (hg : X.A.guards = some []) (hu : X.A.units + 64 < cLine) : CallD X (.builtin "repr") dReprA := CallR.imp' (cr_none.or (cr_bool.or (cr_strR.or ((cr_dct0 hg hu).or (cd_repr hg hu))))) fun xs H Q h => by
  obtain ⟨w, ds, hk, rfl, rs, rd, q⟩ := h
  obtain ⟨d, e⟩ := wq_some q
  have e0 := e
  unfold dReprA at e
  split at e
  · obtain ⟨v, rfl, r⟩ := reps1 rd
    simp only [Rep] at r
    exact .inl ⟨by rw [r], q.here rs rfl (rep_str _)⟩
  · rename_i k
    obtain ⟨v, rfl, r⟩ := reps1 rd
    simp only [Rep] at r
    exact .inr (.inl ⟨k, by rw [r], q.here rs rfl (rep_str _)⟩)
  · rename_i z
    obtain ⟨v, rfl, r⟩ := reps1 rd
    simp only [Rep] at r
    split at e
    · rename_i hz
      exact .inr (.inr (.inl ⟨z, by rw [r], hz, q.here rs (e0.trans e.symm) (rep_str _)⟩))
    · cases e
  · obtain ⟨v, rfl, r⟩ := reps1 rd
    simp only [Rep] at r
    obtain ⟨a, rfl, s⟩ := r
    exact .inr (.inr (.inr (.inl ⟨a, rfl, s.1.1, q.here rs rfl (rep_str _)⟩)))
  · rename_i ds' n1 n2 n3 n4
    refine .inr (.inr (.inr (.inr ⟨w, _, hk, rfl, rs, rd, ?_⟩)))
    obtain ⟨d', e', q'⟩ := q
    exact ⟨d', e.trans (e0.symm.trans e'), q'⟩
/-! ## split -/
def dSplit : D → D → Store → Option D
  | .str z, .str y, _ => if (y.length == 0) = false ∧ z.length + 2 ≤ sizeLine ∧ (Txt.split z y).length ≤ sizeLine then some (.lst ((Txt.split z y).map D.str)) else none
  | _, _, _ => none
def eSplit (fa fb : Ev → M D) : Ev → M D := fun env => do
  let d ← fa env
  let z ← asS d
  let y ← fb env
  lift (dSplit (.str z) y)
theorem de_split {apos : Pos} (ha : DE X W a fa) (hb : DE X W b fb) (hs : starEach [b] X.env = [(false, eval b X.env)] := by rfl) (hbase : attributeBase a "split" X.env (eval a X.env) = eval a X.env := by rfl) (hline : (apos.endLine == pos.line) = true := by rfl) :
    DE X W (.Call (.Attribute a "split" apos) [b] [] pos) (eSplit fa fb) := PE.imp' (pe_split ha hb hs hbase hline) fun σ H Q h => by
  obtain ⟨w, env, hk, rfl, r, n, h⟩ := h
  refine ⟨w, env, hk, rfl, r, n, (Wp.bind h).imp fun x w1 a1 h1 v rv => ?_⟩
  obtain ⟨z, rfl, h2⟩ := asS_wp a1.rs (Wp.bind h1)
  simp only [Rep] at rv
  refine ⟨⟨z, rv⟩, w1, env, a1.k.trans hk, rfl, a1.rs, n.after a1, (Wp.bind h2).imp fun y w2 a2 h3 u ru => ?_⟩
  have q := Wq.of h3
  obtain ⟨d, e⟩ := wq_some q
  have e0 := e
  unfold dSplit at e
  split at e
  · rename_i z' y' ez
    cases ez
    simp only [Rep] at ru
    split at e
    · rename_i hc
      refine ⟨z, _, rv, by rw [ru], hc.1, hc.2.1, fun p hp => ?_⟩
      refine q.new a2.rs hp (e0.trans e.symm) ?_
      exact rep_new a2.rs hp (reps_strs _) (by simpa using hc.2.2)
    · cases e
  · cases e
/-! ## d.get(k, x) of a dict's cell -/
def isDct (d : D) (st : Store) : Bool := match d with
  | .cell c => match st[c]? with
    | some (.dct _) => true
    | _ => false
  | _ => false
def chkD (d : D) : M Unit := fun st => if isDct d st = true then .ok () st else .bad
def dGet2 (o k z : D) (st : Store) : Option D := match o, keyOf k with
    | .cell c, some key => match st[c]? with
      | some (.dct l) => some ((valD l key).getD z)
      | _ => none
    | _, _ => none
def eGet2 (fo fk fx : Ev → M D) : Ev → M D := fun env => do
  let o ← fo env
  chkD o
  let k ← fk env
  let z ← fx env
  lift (dGet2 o k z)
theorem chkD_wp {w : Wd} {d : D} {P : Unit → Wd → Prop} {V' : Str → Wd → Prop} (rs : RS w) (h : Wp w (chkD d w.st) P V') : (∃ c l, d = .cell c ∧ w.st[c]? = some (.dct l)) ∧ P () w := by
  unfold chkD at h
  by_cases hd : isDct d w.st = true
  · rw [if_pos hd] at h
    refine ⟨?_, Wp.ok_ rs h⟩
    unfold isDct at hd
    split at hd
    · split at hd
      · rename_i c _ l e; exact ⟨c, l, rfl, e⟩
      · cases hd
    · cases hd
  · rw [if_neg hd] at h; exact h.elim
theorem de_get2 {apos : Pos} (hu : X.A.units + 1 < cLine) (ha : DE X W a fa) (hb : DE X W b fb) (hc : DE X W c fc) (m : M2 X a "get" apos b c pos) : DE X W (.Call (.Attribute a "get" apos) [b, c] [] pos) (eGet2 fa fb fc) := PE.imp' (pe_dget2 hu ha hb hc m) fun σ H Q h => by
  obtain ⟨w, env, hk, rfl, r, n, h⟩ := h
  refine ⟨w, env, hk, rfl, r, n, (Wp.bind h).imp fun x w1 a1 h1 v rv => ?_⟩
  obtain ⟨⟨c1, l1, rfl, e1⟩, h2⟩ := chkD_wp a1.rs (Wp.bind h1)
  have rv0 := rv
  simp only [Rep] at rv
  obtain ⟨kv1, q1, _⟩ := a1.rs.cells c1 _ e1
  refine ⟨_, rv.1, .inl ⟨kv1, .inl q1⟩, w1, env, a1.k.trans hk, rfl, a1.rs, n.after a1, (Wp.bind h2).imp fun y w2 a2 h3 u ru => ?_⟩
  refine ⟨w2, env, a2.k.trans (a1.k.trans hk), rfl, a2.rs, (n.after a1).after a2, (Wp.bind h3).imp fun z w3 a3 h4 t rt => ?_⟩
  have q := Wq.of h4
  obtain ⟨d, e⟩ := wq_some q
  have e0 := e
  unfold dGet2 at e
  split at e
  · rename_i c' key ec hkey
    cases ec
    split at e
    · rename_i l el
      obtain ⟨kvs, e2, r2⟩ := a3.rs.cells _ _ el
      have rv3 := (a2.trans a3).rep rv0
      simp only [Rep] at rv3
      have eu := keyOf_rep hkey ru
      subst eu
      have em : w1.m c1 = w3.m c1 := V.ref.inj (rv.1.symm.trans rv3.1)
      cases qv : valD l key with
      | some d1 =>
        obtain ⟨v1, ev, r1⟩ := valD_rep r2 qv
        refine ⟨some v1, ?_, q.here a3.rs (e0.trans (e.symm.trans (by rw [qv]; rfl))) r1⟩
        rw [← ev, em]
        exact DGet.k e2
      | none =>
        have ev := valD_none r2 qv
        refine ⟨none, ?_, q.here a3.rs (e0.trans (e.symm.trans (by rw [qv]; rfl))) rt⟩
        rw [← ev, em]
        exact DGet.k e2
    · cases e
  · cases e
/-! ## enumerate -/
def pairsD (l : List D) : List D := (l.zipIdx).map fun q => D.tup [.int (q.2 : Nat), q.1]
def iEnumL (f : Ev → M D) : Ev → M (List D) := fun env => do
  let d ← f env
  let l ← itemsL d
  pure (pairsD l)
theorem walks_enum {w : Wd} {a : Addr} {l : List D} (r : Rep w (.lst l) (.ref a)) : Walks w (Ite w.K a) (pairsD l) where
  step := fun w' hk rs b i d e => by
    have r' := b.rep _ _ r
    simp only [Rep] at r'
    obtain ⟨a', xs, ea, s, rr, _⟩ := r'
    cases ea
    unfold pairsD at e
    rw [List.getElem?_map, List.getElem?_zipIdx] at e
    cases q : l[i]? with
    | none => rw [q] at e; cases e
    | some d0 =>
      rw [q] at e
      simp only [Option.map_some, Nat.zero_add, Option.some.injEq] at e
      subst e
      obtain ⟨x0, ex, rx⟩ := reps_at rr q
      have sl : SqL w.K w'.H a xs := by rw [← hk]; exact SqL.of s.1.1
      refine ⟨⟨xs, x0, sl, ex⟩, fun y H' hy => ?_⟩
      obtain ⟨T, x1, rfl, hT, rfl, hx⟩ := hy
      have e1 := hx xs sl
      rw [ex] at e1
      cases e1
      refine ⟨⟨w'.K, w'.m, w'.st, upd w'.H T (.tup [.int (i : Nat), x0]), w'.rv⟩, aft_new (K := w'.K) (m := w'.m) (st := w'.st) (H := w'.H) (rv := w'.rv) rs hT, rfl, rfl, rfl, ?_⟩
      refine rep_newT rs hT ?_ (Nat.le_of_ble_eq_true rfl)
      simp only [Reps]
      exact ⟨_, _, rfl, by simp [Rep], _, _, rfl, rx, rfl⟩
  stop := fun w' hk rs b => by
    have r' := b.rep _ _ r
    simp only [Rep] at r'
    obtain ⟨a', xs, ea, s, rr, _⟩ := r'
    cases ea
    refine ⟨xs, by rw [← hk]; exact SqL.of s.1.1, ?_⟩
    unfold pairsD
    simp [reps_len rr]
  len := by
    simp only [Rep] at r
    obtain ⟨_, _, _, _, _, h⟩ := r
    unfold pairsD
    simpa using h
theorem itemsL_wp {w : Wd} {d : D} {P : List D → Wd → Prop} {V' : Str → Wd → Prop} (rs : RS w) (h : Wp w (itemsL d w.st) P V') : ∃ l, d = .lst l ∧ P l w := by
  cases d with
  | lst l => exact ⟨l, rfl, Wp.ok_ rs h⟩
  | _ => exact h.elim
theorem di_enum {elts : List Expr} {kk : Nat} {tpos : Pos} (hg : Gl X "enumerate") (hm : X.mg "enumerate" = none) (h : DE X W a fa) (hst : starEach [a] X.env = (false, eval a X.env) :: starEach [] X.env := by rfl) : DI X W (.Tuple elts kk tpos) (.Call (.Name "enumerate" p) [a] [] pos) (iEnumL fa) := by
  refine PI.imp' (pi_enum hg hm (pa_cons (es := []) h pa_nil hst) (hs := hst)) fun σ H R h => ?_
  obtain ⟨w, env, hk, rfl, r, n, h⟩ := h
  refine ⟨w, env, hk, rfl, r, n, (Wp.bind h).imp fun d w1 a1 h1 v rv => ?_⟩
  obtain ⟨l, rfl, h2⟩ := itemsL_wp a1.rs (Wp.bind h1)
  have rv0 := rv
  simp only [Rep] at rv
  obtain ⟨q, xs, rfl, s, rr, hl⟩ := rv
  refine ⟨q, xs, rfl, SqL.of s.1.1, ?_⟩
  have wk := walks_enum rv0
  rw [a1.k.trans hk] at wk
  exact Wp.ok_ (a := pairsD l) a1.rs h2 _ wk
/-! ## a, b = a list of two -/
def gtPairL (t1 t2 : D → Ev → M Ev) : D → Ev → M Ev := fun d env => match d with
  | .lst [a, b] => do
    let e1 ← t1 a env
    t2 b e1
  | _ => M.stuck
theorem gtPairL_wp {g1 g2 : D → Ev → M Ev} {w : Wd} {d : D} {env : Ev} {P : Ev → Wd → Prop} {V' : Str → Wd → Prop} (h : Wp w (gtPairL g1 g2 d env w.st) P V') : ∃ x y, d = .lst [x, y] ∧ Wp w ((g1 x env >>= fun e1 => g2 y e1) w.st) P V' := by
  cases d with
  | lst l =>
    match l, h with
    | [], h => exact h.elim
    | [x], h => exact h.elim
    | [x, y], h => exact ⟨x, y, rfl, h⟩
    | x :: y :: z :: l, h => exact h.elim
  | _ => exact h.elim
theorem dg_pairL {t1 t2 : Expr} {kk : Nat} {g1 g2 : D → Ev → M Ev} (hc : X.calm = true) (h1 : DG X W0 t1 g1) (h2 : DG X W0 t2 g2) (hs1 : (assignEach [t1, t2] X.env).map (·.2) = assign t1 X.env :: (assignEach [t2] X.env).map (·.2) := by rfl) (hs2 : (assignEach [t2] X.env).map (·.2) = assign t2 X.env :: (assignEach [] X.env).map (·.2) := by rfl)
    (hn : (assignEach [t1, t2] X.env).length = 2 := by rfl) (hst : (assignEach [t1, t2] X.env).findIdx? (·.1) = none := by rfl) : DG X W (.Tuple [t1, t2] kk pos) (fun d env => noErr (gtPairL g1 g2 d env)) := PG.imp' (pg_lst hc (pgs_cons h1 (pgs_cons h2 pgs_nil hs2) hs1) hn hst) fun v σ H Q h => by
  obtain ⟨w, env, d, hk, rfl, r, n, rv, h⟩ := h
  have h := noErr_wp (x := gtPairL g1 g2 d env) h
  obtain ⟨x, y, rfl, h⟩ := gtPairL_wp h
  simp only [Rep] at rv
  obtain ⟨p, xs, rfl, sq, rr, _⟩ := rv
  obtain ⟨u1, u2, rfl, r1, r2⟩ := reps2 rr
  refine ⟨p, [u1, u2], rfl, SqL.of sq.1.1, rfl, u1, [u2], rfl, w, env, x, hk, rfl, r, n, r1, (Wp.bind h).mono (fun e1 w1 a1 h1 σ1 n1 => ?_) fun _ _ _ z => z⟩
  refine ⟨u2, [], rfl, w1, e1, y, a1.k.trans hk, rfl, a1.rs, n1, a1.rep r2, h1.mono (fun e2 w2 a2 h2 σ2 n2 => ⟨rfl, h2 σ2 n2⟩) fun _ _ _ z => z⟩
end
end G
end

section
set_option Elab.async false
set_option linter.all false
set_option maxRecDepth 100000
set_option maxHeartbeats 4000000
namespace G
open PySem PySem.Spec PyProof.Rows L2
/-! ## a tuple times 0, times 1 -/
theorem tmul0 (l : Addr) (its : Array Value) (n : Nat) (dd : Option Addr) (sl : Array (Option Value)) (u : Tok) (he : its.isEmpty = false) :
    Meets (Builtin.«tuple.__mul__» ⟨[.ref l, .int 0 u], []⟩) (fun _ R s => s.heap.get? l = some { cls := .type "tuple", dict := dd, data := .seq its n, slots := sl } ∧ R (.ok (.ret (Value.ref s.heap.objs.size))) { s with heap := s.heap.push { cls := .type "tuple", data := .seq #[] } }) :=
  .of_wp fun prog w A R s h => by
    obtain ⟨hp, g, d, tk, os⟩ := s
    obtain ⟨hl, h⟩ := h
    have idx := AutoSeq1.idx_int
    have e1 : (its.isEmpty || (0 : Int) == 1) = false := by rw [he]; rfl
    wp_walk using wpAny_loadPart' hl
    repeat (first
      | (refine wpAny_ite_false (decide_eq_false (by rw [e1]; decide)) ?_; wp_walk using wpAny_loadPart' hl)
      | (refine wpAny_ite_true (decide_eq_true (by rfl)) ?_; wp_walk using wpAny_loadPart' hl)
      | (refine wpAny_ite_false (decide_eq_false (by decide)) ?_; wp_walk using wpAny_loadPart' hl))
    exact ⟨_, rfl, h⟩
theorem tmul1 (l : Addr) (its : Array Value) (n : Nat) (dd : Option Addr) (sl : Array (Option Value)) (u : Tok) :
    Meets (Builtin.«tuple.__mul__» ⟨[.ref l, .int 1 u], []⟩) (fun _ R s => s.heap.get? l = some { cls := .type "tuple", dict := dd, data := .seq its n, slots := sl } ∧ R (.ok (.ret (Value.ref l))) s) :=
  .of_wp fun prog w A R s h => by
    obtain ⟨hp, g, d, tk, os⟩ := s
    obtain ⟨hl, h⟩ := h
    have idx := AutoSeq1.idx_int
    have e1 : (its.isEmpty || (1 : Int) == 1) = true := by rw [show ((1 : Int) == 1) = true from rfl, Bool.or_true]
    wp_walk using wpAny_loadPart' hl
    repeat (first
      | (refine wpAny_ite_true (decide_eq_true (by rw [e1])) ?_; wp_walk using wpAny_loadPart' hl)
      | (refine wpAny_ite_false (decide_eq_false (by decide)) ?_; wp_walk using wpAny_loadPart' hl))
    exact ⟨_, rfl, h⟩
section
variable {X : Cx} {W : XW}
theorem op_t01 : OpR X (binaryOp .Mult) (fun x y H Q => ∃ l xs, x = .ref l ∧ SqT X.K H l xs ∧ xs ≠ [] ∧ ((y = .int 1 ∧ Q (.ref l) H) ∨ (y = .int 0 ∧ ∀ p, H p = none → Q (.ref p) (upd H p (.tup []))))) := by
  intro pins s σ H x y v u Q I rx ry h
  obtain ⟨l, xs, rfl, hT, hne, h⟩ := h
  cases rx
  obtain ⟨its, r, ⟨⟨cls, dd, data, sl⟩, ho, hc, n, hd⟩, hs⟩ := I.tuple hT
  simp only at hc hd
  subst hc hd
  have hi : its.toArray.isEmpty = false := by
    cases its with
    | nil => exact absurd (List.eq_nil_of_length_eq_zero (by rw [r.length]; rfl)) hne
    | cons a b => rfl
  rcases h with ⟨rfl, q⟩ | ⟨rfl, q⟩
  · obtain ⟨t, rfl⟩ := ry
    refine wpAny_binaryOp_repeat_ref (T := "tuple") (U := "int") (by decide) ⟨_, ho, rfl⟩ (fun s' => typeIs_int s' 1 t) noFill_tuple_mul F.fills_int_mul F.slot_int_rmul repeat_tuple F.slot_int_index.lookup ?_
    refine call_meets F.slot_int_rmul (typeIs_int s 1 t) F.entry_int_rmul (F.args_int_rmul_2 _ _) (int_rmul_tuple 1 t l its.toArray n dd sl) ⟨ho, rfl, ⟨_, ho, rfl⟩, ?_⟩
    refine call_meets F.slot_tuple_mul ⟨_, ho, rfl⟩ F.entry_tuple_mul (F.args_tuple_mul_2 _ _) (tmul1 l its.toArray n dd sl t) ⟨ho, ?_⟩
    exact ⟨.ref l, H, I, rfl, q⟩
  · obtain ⟨t, rfl⟩ := ry
    refine wpAny_binaryOp_repeat_ref (T := "tuple") (U := "int") (by decide) ⟨_, ho, rfl⟩ (fun s' => typeIs_int s' 0 t) noFill_tuple_mul F.fills_int_mul F.slot_int_rmul repeat_tuple F.slot_int_index.lookup ?_
    refine call_meets F.slot_int_rmul (typeIs_int s 0 t) F.entry_int_rmul (F.args_int_rmul_2 _ _) (int_rmul_tuple 0 t l its.toArray n dd sl) ⟨ho, rfl, ⟨_, ho, rfl⟩, ?_⟩
    refine call_meets F.slot_tuple_mul ⟨_, ho, rfl⟩ F.entry_tuple_mul (F.args_tuple_mul_2 _ _) (tmul0 l its.toArray n dd sl t hi) ⟨ho, ?_⟩
    refine ⟨.ref s.heap.objs.size, _, I.laid (t' := s.toks) (o := .tup []) (fun b ob q => Heap.get?_push_of_some _ q) (Nat.le_refl _) ?_, rfl, q _ (I.hok.fresh (Nat.le_refl _))⟩
    exact ⟨Nat.zero_le _, [], .nil, ⟨_, Heap.get?_push_size _ rfl, rfl, _, rfl⟩⟩
def dMulT : D → D → Store → Option D
  | .tup l, .int k, _ => if l ≠ [] ∧ 0 ≤ k ∧ k ≤ 1000 ∧ l.length ≤ 1000 then some (.tup (List.replicate k.toNat l).flatten) else none
  | _, _, _ => none
theorem reps_flat {w : Wd} {ds : List D} {xs : List V} (h : Reps w ds xs) : ∀ n, Reps w (List.replicate n ds).flatten (List.replicate n xs).flatten
  | 0 => by simp [Reps]
  | n + 1 => by
    rw [List.replicate_succ, List.flatten_cons, List.replicate_succ, List.flatten_cons]
    exact reps_app h (reps_flat h n)
theorem od_mulT : OpD X (binaryOp .Mult) dMulT := OpR.imp' (op_repT.or op_t01) fun x y H Q h => by
  obtain ⟨w, a, b, hk, rfl, rs, ra, rb, q⟩ := h
  obtain ⟨d, e⟩ := wq_some q
  have e0 := e
  unfold dMulT at e
  split at e
  · rename_i l k
    split at e
    · rename_i hc
      obtain ⟨h1, h2, h3, h4⟩ := hc
      have ra0 := ra
      simp only [Rep] at ra rb
      obtain ⟨p, xs, rfl, sq, rr, hl⟩ := ra
      subst rb
      have hx : xs ≠ [] := fun z => h1 (List.eq_nil_of_length_eq_zero (by rw [← reps_len rr, z]; rfl))
      have hxl : xs.length ≤ 1000 := by rw [reps_len rr]; exact h4
      have sq' : SqT X.K w.H p xs := by rw [← hk]; exact sq
      by_cases k2 : 2 ≤ k
      · refine .inl ⟨p, k, xs, rfl, rfl, sq', hx, k2, h3, hxl, fun p' hp => ?_⟩
        refine q.new rs hp (e0.trans e.symm) ?_
        refine rep_newT rs hp (reps_flat rr _) ?_
        rw [PyProof.Rows.lm_len_rep_flat, sizeLine_eq]
        have a1 : k.toNat * l.length ≤ 1000 * 1000 := Nat.mul_le_mul (by omega) h4
        omega
      · refine .inr ⟨p, xs, rfl, sq', hx, ?_⟩
        rcases (by omega : k = 1 ∨ k = 0) with rfl | rfl
        · refine .inl ⟨rfl, q.here rs (e0.trans (e.symm.trans ?_)) ra0⟩
          simp
        · refine .inr ⟨rfl, fun p' hp => q.new rs hp (e0.trans e.symm) ?_⟩
          refine rep_newT rs hp ?_ (Nat.zero_le _)
          simp [Reps]
    · cases e
  · cases e
end
/-! ## {} -/
def eDct0 : Ev → M D := fun _ => pure .dct0
theorem de_dct0 {X : Cx} {W : XW} {pos : Pos} : DE X W (.Dict [] [] pos) eDct0 := PE.imp' pe_dnewK fun σ H Q h => by
  obtain ⟨w, env, hk, rfl, r, n, h⟩ := h
  intro p hp
  have a1 := aft_new (K := w.K) (m := w.m) (st := w.st) (H := w.H) (rv := w.rv) (o := .dK []) r hp
  refine h _ a1 rfl (.ref p) ?_
  simp only [Rep]
  exact ⟨p, rfl, fr_new r hp⟩
/-! ## a Hook with one more look -/
def hookM (n : Nat) (fa : List He.Fa) (fn : List He.DefD) (ex : PySem.W.Frag → Bool) : PySem.W.Hook where
  α := He.AlD × Bool
  obs := fun s => (He.obsDG n fa fn s.heap.get?, ex (He.frG s.heap.get? (He.asD s.heap.get? n)))
  val := fun _ => (He.valD fn, true)
  says := fun _ h => ∃ K : PySem.W.Frag, K.In h ∧ He.SaysD fa fn K ∧ ex K = true
  of := fun _ _ e => ⟨_, He.frG_in, congrArg Prod.fst e, congrArg Prod.snd e⟩
  keeps := fun _ _ _ ⟨K, hK, c⟩ k => ⟨K, PySem.W.Frag.In.keeps hK k, c⟩
def obsM (n : Nat) (fa : List He.Fa) (fn : List He.DefD) (ex : PySem.W.Frag → Bool) (g : Addr → Option Obj) : He.AlD × Bool := (He.obsDG n fa fn g, ex (He.frG g (He.asD g n)))
theorem obsM_eq {n : Nat} {fa : List He.Fa} {fn : List He.DefD} {ex : PySem.W.Frag → Bool} {g : Addr → Option Obj} {s : Shared} (h : ∀ a, g a = s.heap.get? a) : obsM n fa fn ex g = (hookM n fa fn ex).obs s := by
  have e : g = s.heap.get? := funext h
  rw [e] <;> rfl
end G
end

section
set_option Elab.async false
set_option linter.all false
set_option maxRecDepth 100000
set_option maxHeartbeats 1000000
namespace G
open PySem PySem.Spec PyProof.Rows L2
/-! ## how the readings compute -/
def Res.bnd {α β : Type} (r : Res α) (f : α → M β) : Res β := match r with
  | .ok a st => f a st
  | .err c st => .err c st
  | .bad => .bad
def Res.sb {α : Type} (r : Res α) (env : Ev) (k : α → M Fl) : Res Fl := match r with
  | .ok a st => k a st
  | .err c st => .ok (.exc c env) st
  | .bad => .bad
def Res.noe {α : Type} (r : Res α) : Res α := match r with
  | .ok a st => .ok a st
  | _ => .bad
def lif (o : Option D) (st : Store) : Res D := match o with
  | some d => .ok d st
  | none => .bad
def nxt (g' : Ev → M Fl) : Fl → M Fl
  | .nx e => g' e
  | other => pure other
section
variable {α β : Type} {env : Ev} {st : Store} {fa fb fc : Ev → M D} {g g' : Ev → M Fl} {fs : List (Ev → M D)}
@[simp] theorem bnd_ok (a : α) (st : Store) (f : α → M β) : (Res.ok a st).bnd f = f a st := rfl
@[simp] theorem bnd_err (c : Str) (st : Store) (f : α → M β) : (Res.err c st).bnd f = .err c st := rfl
@[simp] theorem sb_ok (a : α) (st : Store) (env : Ev) (f : α → M Fl) : (Res.ok a st).sb env f = f a st := rfl
@[simp] theorem sb_err (c : Str) (st : Store) (env : Ev) (f : α → M Fl) : (Res.err c st).sb env f = .ok (.exc c env) st := rfl
@[simp] theorem noe_ok (a : α) (st : Store) : (Res.ok a st).noe = .ok a st := rfl
@[simp] theorem lif_some (d : D) (st : Store) : lif (some d) st = .ok d st := rfl
@[simp] theorem nxt_nx (e : Ev) : nxt g' (.nx e) = g' e := rfl
@[simp] theorem nxt_ret (d : D) : nxt g' (.ret d) st = .ok (.ret d) st := rfl
@[simp] theorem nxt_exc (c : Str) (e : Ev) : nxt g' (.exc c e) st = .ok (.exc c e) st := rfl
@[simp] theorem bind_app (x : M α) (f : α → M β) (st : Store) : (x >>= f) st = (x st).bnd f := rfl
@[simp] theorem pure_app' (a : α) (st : Store) : (pure a : M α) st = .ok a st := rfl
@[simp] theorem noErr_app (x : M α) (st : Store) : noErr x st = (x st).noe := rfl
@[simp] theorem stx_app (x : M α) (env : Ev) (k : α → M Fl) (st : Store) : stx x env k st = (x st).sb env k := rfl
@[simp] theorem lift_app (o : Store → Option D) (st : Store) : lift o st = lif (o st) st := by unfold lift lif; cases o st <;> rfl
@[simp] theorem sSeq_app : sSeq g g' env st = (g env st).bnd (nxt g') := by
  show (g env >>= _) st = _
  rw [bind_app]
  congr 1
@[simp] theorem sRet_app : sRet fa env st = (fa env st).sb env fun d st => .ok (.ret d) st := rfl
@[simp] theorem sNop_app : sNop env st = .ok (.nx env) st := rfl
@[simp] theorem sExpr_app : sExpr fa env st = (fa env st).sb env fun _ st => .ok (.nx env) st := rfl
@[simp] theorem sIf_app {t : Ev → M Bool} : sIf t g g' env st = (t env st).sb env fun b => if b = true then g env else g' env := rfl
@[simp] theorem sAsg_app {i : Nat} : sAsg i fa env st = (fa env st).sb env fun d st => .ok (.nx (env.set i (some d))) st := rfl
@[simp] theorem sPar_app {i j : Nat} : sPar i j fa fb env st = (fa env st).sb env fun d st => (fb env st).sb env fun e st => .ok (.nx ((env.set i (some d)).set j (some e))) st := rfl
@[simp] theorem sFor_app {fi : Ev → M (List D)} {tg : D → Ev → Option Ev} : sFor fi tg g env st = (fi env st).sb env fun l => forGo tg g l env := rfl
@[simp] theorem sAsgT_app {tg : D → Ev → M Ev} : sAsgT fa tg env st = (fa env st).sb env fun d st => (tg d env st).sb env fun e st => .ok (.nx e) st := rfl
@[simp] theorem sPutK_app : sPutK fa fb fc env st = (fc env st).sb env fun d st => (fa env st).sb env fun o st => (fb env st).sb env fun i st => (putKey o i d st).sb env fun _ st => .ok (.nx env) st := rfl
@[simp] theorem eC_app (d : D) : eC d env st = .ok d st := rfl
@[simp] theorem eVar_at (i : Nat) {d : D} (h : env[i]? = some (some d)) : eVar i env st = .ok d st := by unfold eVar; rw [h]
@[simp] theorem eOp_app {g : D → D → Store → Option D} : eOp g fa fb env st = (fa env st).bnd fun x st => (fb env st).bnd fun y st => lif (g x y st) st := by
  show (fa env >>= _) st = _
  simp only [bind_app, lift_app]
  congr 1
@[simp] theorem eUn_app {g : D → Store → Option D} : eUn g fa env st = (fa env st).bnd fun x st => lif (g x st) st := by
  show (fa env >>= _) st = _
  simp only [bind_app]
  congr 1
@[simp] theorem asB_bl (b : Bool) : asB (.bl b) st = .ok b st := rfl
@[simp] theorem asI_int (b : Int) : asI (.int b) st = .ok b st := rfl
@[simp] theorem tVal_app : tVal fa env st = (fa env st).bnd asB := rfl
@[simp] theorem tNot_app {t : Ev → M Bool} : tNot' t env st = (t env st).bnd fun b st => .ok (!b) st := rfl
@[simp] theorem tAnd_app {t u : Ev → M Bool} : tAnd' t u env st = (t env st).bnd fun b => if b = true then u env else fun st => .ok false st := rfl
@[simp] theorem tOr_app {t u : Ev → M Bool} : tOr' t u env st = (t env st).bnd fun b => if b = true then fun st => .ok true st else u env := rfl
@[simp] theorem aSeq_nil : aSeq [] env st = .ok [] st := rfl
@[simp] theorem aSeq_cons (f : Ev → M D) : aSeq (f :: fs) env st = (f env st).bnd fun d st => (aSeq fs env st).bnd fun ds st => .ok (d :: ds) st := rfl
@[simp] theorem eCall_app {F : List D → M D} : eCall F fs env st = (aSeq fs env st).bnd F := rfl
@[simp] theorem eB_app {g : List D → Store → Option D} : eB g fs env st = (aSeq fs env st).bnd fun ds st => lif (g ds st) st := by
  show (aSeq fs env >>= _) st = _
  simp only [bind_app]
  congr 1
@[simp] theorem eTup_app : eTup fs env st = (aSeq fs env st).bnd fun ds st => .ok (.tup ds) st := rfl
@[simp] theorem eLst_app : eLst fs env st = (aSeq fs env st).bnd fun ds st => .ok (.lst ds) st := rfl
@[simp] theorem eNewL_app : eNewL fs env st = (aSeq fs env st).bnd fun ds st => .ok (.cell st.length) (st ++ [.lst ds]) := rfl
@[simp] theorem eNewD_app {ks : List Key} : eNewD ks fs env st = (aSeq fs env st).bnd fun ds st => .ok (.cell st.length) (st ++ [.dct (ks.zip ds)]) := rfl
@[simp] theorem iSeq_app : iSeq fa env st = (fa env st).bnd items := rfl
@[simp] theorem items_tup (l : List D) : items (.tup l) st = .ok l st := rfl
@[simp] theorem items_lst (l : List D) : items (.lst l) st = .ok l st := rfl
theorem iRange_at {i : Int} {st' : Store} (h : fa env st = .ok (.int i) st') (h1 : i ≤ 16777216) (h2 : 0 ≤ i) : iRange fa env st = .ok (rangeD i.toNat) st' := by
  show (fa env >>= _) st = _
  rw [bind_app, h, bnd_ok, bind_app, asI_int, bnd_ok, if_pos ⟨h1, by omega⟩]
  rfl
@[simp] theorem eDispGet_app {ks : List Key} : eDispGet ks fs fb env st = (aSeq fs env st).bnd fun ds st => (fb env st).bnd fun k st => lif ((keyOf k).bind fun key => valD (ks.zip ds) key) st := by
  show (aSeq fs env >>= _) st = _
  simp only [bind_app]
  congr 1
@[simp] theorem gtName_app {i : Nat} {d : D} : gtName i d env st = .ok (env.set i (some d)) st := rfl
@[simp] theorem gtSub_app {d : D} : gtSub fa fb d env st = (fa env st).bnd fun o st => (fb env st).bnd fun i st => (putIdx o i d st).bnd fun _ st => .ok env st := rfl
@[simp] theorem gtPair_app {t1 t2 : D → Ev → M Ev} {a b : D} : gtPair t1 t2 (.tup [a, b]) env st = (t1 a env st).bnd fun e1 => t2 b e1 := rfl
@[simp] theorem pNo_app : pNo env st = .ok none st := rfl
@[simp] theorem pAt_app : pAt fa env st = (fa env st).bnd fun d st => (asI d st).bnd fun i st => .ok (some i) st := rfl
@[simp] theorem eSl_app {fl fh : Ev → M (Option Int)} : eSl fa fl fh env st = (fa env st).bnd fun d st => (fl env st).bnd fun lo st => (fh env st).bnd fun hi st => lif (dSl lo hi d st) st := by
  show (fa env >>= _) st = _
  simp only [bind_app]
  congr 1
@[simp] theorem eIf_app {t : Ev → M Bool} : eIf t fa fb env st = (t env st).bnd fun b => if b = true then fa env else fb env := rfl
@[simp] theorem dLt_int {i j : Int} : dLt (.int i) (.int j) st = some (.bl (decide (i < j))) := rfl
@[simp] theorem dLe_int {i j : Int} : dLe (.int i) (.int j) st = some (.bl (decide (i ≤ j))) := rfl
@[simp] theorem dGt_int {i j : Int} : dGt (.int i) (.int j) st = some (.bl (decide (j < i))) := rfl
@[simp] theorem dGe_int {i j : Int} : dGe (.int i) (.int j) st = some (.bl (decide (j ≤ i))) := rfl
@[simp] theorem dAdd_int {i j : Int} : dAdd (.int i) (.int j) st = some (.int (i + j)) := rfl
@[simp] theorem dSub_int {i j : Int} : dSub (.int i) (.int j) st = some (.int (i - j)) := rfl
@[simp] theorem dNeg_int {i : Int} : dNeg (.int i) st = some (.int (-i)) := rfl
theorem beq_decide (i j : Int) : (i == j) = decide (i = j) := rfl
@[simp] theorem dEq_int {i j : Int} : dEq (.int i) (.int j) st = some (.bl (decide (i = j))) := rfl
@[simp] theorem dNe_int {i j : Int} : dNe (.int i) (.int j) st = some (.bl (!decide (i = j))) := rfl
theorem mulOk_of {i j : Int} {a b : Nat} (h1 : i.natAbs < 2 ^ a) (h2 : j.natAbs < 2 ^ b) (h : a + b ≤ 1000000) (hp : 0 < a ∨ 0 < b) : mulOk i j = true := by
  have l1 : i.natAbs.log2 ≤ a := by
    by_cases z : i.natAbs = 0
    · rw [z]; exact Nat.zero_le _
    · exact Nat.le_of_lt ((Nat.log2_lt z).mpr h1)
  have l2 : j.natAbs.log2 ≤ b := by
    by_cases z : j.natAbs = 0
    · rw [z]; exact Nat.zero_le _
    · exact Nat.le_of_lt ((Nat.log2_lt z).mpr h2)
  have l3 : 0 < a → i.natAbs.log2 < a := fun ha => by
    by_cases z : i.natAbs = 0
    · rw [z]; exact ha
    · exact (Nat.log2_lt z).mpr h1
  have l4 : 0 < b → j.natAbs.log2 < b := fun ha => by
    by_cases z : j.natAbs = 0
    · rw [z]; exact ha
    · exact (Nat.log2_lt z).mpr h2
  unfold mulOk
  refine decide_eq_true ?_
  rcases hp with hp | hp
  · have := l3 hp; omega
  · have := l4 hp; omega
theorem dMul_of {i j : Int} (h : mulOk i j = true) : dMul (.int i) (.int j) st = some (.int (i * j)) := by simp only [dMul, if_pos h]
theorem dMod_of {i j : Int} (h : 0 < j) : dMod (.int i) (.int j) st = some (.int (i % j)) := by simp only [dMod, if_pos h]
theorem dDiv_of {i j : Int} (h : divOk j = true) : dDiv (.int i) (.int j) st = some (.int (i / j)) := by simp only [dDiv, if_pos h]
theorem dDivmod_of {i j : Int} (h : divOk j = true) : dDivmod [.int i, .int j] st = some (.tup [.int (i / j), .int (i % j)]) := by simp only [dDivmod, if_pos h]
end
/-! ## loops -/
section
variable {env : Ev} {st : Store} {fe : Ev → M D}
theorem eComp_of {vs : List Nat} {fi : Ev → M (List D)} {tg : D → Ev → Option Ev} {tt : Ev → M Bool} {l ds : List D} {st1 st2 : Store} (h1 : fi env st = .ok l st1) (h2 : compGo tg tt fe (evWipe env vs) l [] st1 = .ok ds st2) : eComp vs fi tg tt fe env st = .ok (.lst ds) st2 := by
  show (fi env >>= _) st = _
  rw [bind_app, h1, bnd_ok, bind_app, h2, bnd_ok]
  rfl
theorem compGo_inv {i : Nat} (I : Store → Prop) (P : D → Prop) : ∀ (l : List D) (acc : List D) (st : Store), (∀ d ∈ l, ∀ st, I st → ∃ y st', fe (env.set i (some d)) st = .ok y st' ∧ I st' ∧ P y) → I st →
    ∃ ys st', compGo (tgName i) (fun _ => pure true) fe env l acc st = .ok (acc ++ ys) st' ∧ I st' ∧ ys.length = l.length ∧ ∀ y ∈ ys, P y
  | [], acc, st, _, hi => ⟨[], st, by simp [compGo], hi, rfl, by simp⟩
  | d :: l, acc, st, h, hi => by
    obtain ⟨y, st1, e1, i1, p1⟩ := h d (by simp) st hi
    obtain ⟨ys, st2, e2, i2, hl, p2⟩ := compGo_inv I P l (acc ++ [y]) st1 (fun d hd => h d (by simp [hd])) i1
    refine ⟨y :: ys, st2, ?_, i2, by simp [hl], ?_⟩
    · unfold compGo
      simp only [tgName, bind_app, noErr_app, pure_app', noe_ok, bnd_ok, if_pos, e1]
      rw [e2]
      simp
    · intro z hz
      rcases List.mem_cons.mp hz with rfl | hz
      · exact p1
      · exact p2 z hz
theorem compGo_map {i : Nat} (f : D → D) : ∀ (l : List D) (acc : List D), (∀ d ∈ l, fe (env.set i (some d)) st = .ok (f d) st) → compGo (tgName i) (fun _ => pure true) fe env l acc st = .ok (acc ++ l.map f) st
  | [], acc, _ => by simp [compGo]
  | d :: l, acc, h => by
    have e1 := h d (by simp)
    have e2 := compGo_map f l (acc ++ [f d]) (fun d hd => h d (by simp [hd]))
    unfold compGo
    simp only [tgName, bind_app, noErr_app, pure_app', noe_ok, bnd_ok, if_pos, e1]
    rw [e2]
    simp
theorem pick {α β : Type} [Inhabited β] [DecidableEq α] {l : List α} {R : α → β → Prop} (h : ∀ d ∈ l, ∃ y, R d y) : ∃ f : α → β, ∀ d ∈ l, R d (f d) := by
  classical
  refine ⟨fun d => if hd : d ∈ l then Classical.choose (h d hd) else default, fun d hd => ?_⟩
  simp only [dif_pos hd]
  exact Classical.choose_spec (h d hd)
theorem pickD {β : Type} [Inhabited β] {l : List D} {R : D → β → Prop} (h : ∀ d ∈ l, ∃ y, R d y) : ∃ f : D → β, ∀ d ∈ l, R d (f d) := by
  classical
  exact pick h
theorem bools_map (l : List D) (f : D → Bool) : bools? (l.map fun d => D.bl (f d)) = some (l.map f) := by
  induction l with
  | nil => rfl
  | cons d l ih => simp only [List.map_cons, bools?, ih]; rfl
theorem ints_map (l : List D) (f : D → Int) : ints? (l.map fun d => D.int (f d)) = some (l.map f) := by
  induction l with
  | nil => rfl
  | cons d l ih => simp only [List.map_cons, ints?, ih]; rfl
theorem ints_map' (l : List Int) : ints? (l.map D.int) = some l := by
  induction l with
  | nil => rfl
  | cons d l ih => simp only [List.map_cons, ints?, ih]; rfl
/-- a loop that looks at each item and stops at the first bad one -/
theorem forGo_all {i : Nat} {g : Ev → M Fl} (J : Ev → Prop) (f : D → Bool) {r : D} : ∀ (l : List D) (env : Ev), J env → (∀ d ∈ l, ∀ env, J env → ∃ env', J env' ∧ g (env.set i (some d)) st = .ok (if f d = true then .nx env' else .ret r) st) →
    ∃ env', J env' ∧ forGo (tgName i) g l env st = .ok (if l.all f = true then .nx env' else .ret r) st
  | [], env, j, _ => ⟨env, j, by simp [forGo]⟩
  | d :: l, env, j, h => by
    obtain ⟨e1, j1, h1⟩ := h d (by simp) env j
    obtain ⟨e2, j2, h2⟩ := forGo_all J f l e1 j1 (fun d hd => h d (by simp [hd]))
    refine ⟨e2, j2, ?_⟩
    unfold forGo
    simp only [tgName, bind_app, h1, bnd_ok]
    by_cases q : f d = true
    · simp only [q, if_true, List.all_cons, Bool.true_and]; exact h2
    · simp [q]
/-- a loop with an invariant that ends no sooner -/
theorem forGo_inv {i : Nat} {g : Ev → M Fl} : ∀ (l : List D) (I : Nat → Ev → Store → Prop) (env : Ev) (st : Store), I 0 env st → (∀ k d, l[k]? = some d → ∀ env st, I k env st → ∃ env' st', I (k + 1) env' st' ∧ g (env.set i (some d)) st = .ok (.nx env') st') →
    ∃ env' st', I l.length env' st' ∧ forGo (tgName i) g l env st = .ok (.nx env') st'
  | [], I, env, st, h0, _ => ⟨env, st, h0, by simp [forGo]⟩
  | d :: l, I, env, st, h0, h => by
    obtain ⟨e1, s1, i1, h1⟩ := h 0 d rfl env st h0
    obtain ⟨e2, s2, i2, h2⟩ := forGo_inv l (fun k => I (k + 1)) e1 s1 i1 (fun k d' hd => h (k + 1) d' hd)
    refine ⟨e2, s2, i2, ?_⟩
    unfold forGo
    simp only [tgName, bind_app, h1, bnd_ok]
    exact h2
end
end G
end

section
set_option Elab.async false
set_option linter.all false
set_option maxRecDepth 100000
set_option maxHeartbeats 1000000
namespace G
open PySem PySem.Spec PyProof.Rows L2
/-! ## plain data of a bounded depth -/
def Sh (L : Nat) : Nat → D → Prop
  | _, .non => True
  | _, .bl _ => True
  | _, .int i => i.natAbs < 10 ^ 126
  | _, .str x => PyData.strOk x = true ∧ x.length ≤ 100
  | k + 1, .tup l => l.length ≤ L ∧ ∀ x ∈ l, Sh L k x
  | k + 1, .lst l => l.length ≤ L ∧ ∀ x ∈ l, Sh L k x
  | _, _ => False
theorem Sh.mono {L L' : Nat} (hL : L ≤ L') : ∀ {k k' : Nat} {d : D}, k ≤ k' → Sh L k d → Sh L' k' d
  | _, _, .non, _, _ => by simp [Sh]
  | _, _, .bl _, _, _ => by simp [Sh]
  | _, _, .int _, _, h => by simpa only [Sh] using h
  | _, _, .str x, _, h => by simpa only [Sh] using h
  | 0, _, .tup l, _, h => by simp [Sh] at h
  | 0, _, .lst l, _, h => by simp [Sh] at h
  | k + 1, 0, .tup l, hk, h => absurd hk (by omega)
  | k + 1, 0, .lst l, hk, h => absurd hk (by omega)
  | k + 1, k' + 1, .tup l, hk, h => by
    simp only [Sh] at h ⊢
    exact ⟨Nat.le_trans h.1 hL, fun x hx => Sh.mono hL (by omega) (h.2 x hx)⟩
  | k + 1, k' + 1, .lst l, hk, h => by
    simp only [Sh] at h ⊢
    exact ⟨Nat.le_trans h.1 hL, fun x hx => Sh.mono hL (by omega) (h.2 x hx)⟩
  | _, _, .cell _, _, h => by simp [Sh] at h
  | _, _, .dct0, _, h => by simp [Sh] at h
  | _, _, .exc _, _, h => by simp [Sh] at h
theorem sh_list {k : Nat} : ∀ (l : List D), (∀ x ∈ l, ∃ p, x.data = some p ∧ p.canLay0 = true ∧ p.depth ≤ k ∧ p.hasDict = false) → ∃ ps, D.datas l = some ps ∧ PyData.canLayAll0 ps = true ∧ PyData.depthAll ps ≤ k ∧ PyData.hasDictAll ps = false
  | [], _ => ⟨[], by simp [D.datas], by simp [PyData.canLayAll0], by simp [PyData.depthAll], by simp [PyData.hasDictAll]⟩
  | x :: l, h => by
    obtain ⟨p, e, c, q, z⟩ := h x (by simp)
    obtain ⟨ps, es, cs, qs, zs⟩ := sh_list l fun y hy => h y (by simp [hy])
    refine ⟨p :: ps, by simp only [D.datas, e, es], by simp only [PyData.canLayAll0, c, cs, Bool.and_self], ?_, by simp only [PyData.hasDictAll, z, zs, Bool.or_self]⟩
    simp only [PyData.depthAll]
    omega
theorem Sh.data {L : Nat} : ∀ {k : Nat} {d : D}, Sh L k d → ∃ p, d.data = some p ∧ p.canLay0 = true ∧ p.depth ≤ k ∧ p.hasDict = false
  | _, .non, _ => ⟨_, rfl, rfl, Nat.zero_le _, rfl⟩
  | _, .bl _, _ => ⟨_, rfl, rfl, Nat.zero_le _, rfl⟩
  | _, .int _, _ => ⟨_, rfl, rfl, Nat.zero_le _, rfl⟩
  | _, .str x, h => ⟨_, rfl, by simp only [Sh] at h; simpa only [PyData.canLay0] using h.1, Nat.zero_le _, rfl⟩
  | 0, .tup l, h => by simp [Sh] at h
  | 0, .lst l, h => by simp [Sh] at h
  | k + 1, .tup l, h => by
    simp only [Sh] at h
    obtain ⟨ps, e, c, q, z⟩ := sh_list l fun x hx => Sh.data (h.2 x hx)
    exact ⟨.tuple ps, by simp [D.data, e], by simpa [PyData.canLay0] using c, by simp only [PyData.depth]; omega, by simpa [PyData.hasDict] using z⟩
  | k + 1, .lst l, h => by
    simp only [Sh] at h
    obtain ⟨ps, e, c, q, z⟩ := sh_list l fun x hx => Sh.data (h.2 x hx)
    exact ⟨.list ps, by simp [D.data, e], by simpa [PyData.canLay0] using c, by simp only [PyData.depth]; omega, by simpa [PyData.hasDict] using z⟩
  | _, .cell _, h => by simp [Sh] at h
  | _, .dct0, h => by simp [Sh] at h
  | _, .exc _, h => by simp [Sh] at h
theorem Sh.shaped {L k : Nat} {d : D} (h : Sh L k d) (hk : k ≤ 64) : ∃ p, d.data = some p ∧ SeqAt.shaped p = true := by
  obtain ⟨p, e, c, q, _⟩ := h.data
  exact ⟨p, e, by simp only [SeqAt.shaped, c, Bool.true_and, decide_eq_true_eq]; omega⟩
/-- is d the text x? -/
def isW (d : D) (x : Str) : Bool := match d with
  | .str y => y == x
  | _ => false
theorem eqv_str {L k : Nat} {d : D} {p : PyData} {x : Str} (h : Sh L k d) (e : d.data = some p) : PyData.eqv p (.str x) = isW d x := by
  cases d with
  | tup l => simp only [D.data] at e; cases q : D.datas l with
    | none => rw [q] at e; cases e
    | some ps => rw [q] at e; cases e; rfl
  | lst l => simp only [D.data] at e; cases q : D.datas l with
    | none => rw [q] at e; cases e
    | some ps => rw [q] at e; cases e; rfl
  | non => cases e; rfl
  | bl b => cases e; rfl
  | int i => cases e; rfl
  | str y => cases e; rfl
  | cell _ => cases e
  | dct0 => cases e
  | exc _ => cases e
theorem beq_str_comm (x y : Str) : (x == y) = (y == x) := by
  by_cases h : x = y
  · subst h; rfl
  · have h2 : ¬ y = x := fun e => h e.symm
    rw [show (x == y) = false from by simpa using h, show (y == x) = false from by simpa using h2]
theorem eqv_str' {L k : Nat} {d : D} {p : PyData} {x : Str} (h : Sh L k d) (e : d.data = some p) : PyData.eqv (.str x) p = isW d x := by
  cases d with
  | tup l => simp only [D.data] at e; cases q : D.datas l with
    | none => rw [q] at e; cases e
    | some ps => rw [q] at e; cases e; rfl
  | lst l => simp only [D.data] at e; cases q : D.datas l with
    | none => rw [q] at e; cases e
    | some ps => rw [q] at e; cases e; rfl
  | non => cases e; rfl
  | bl b => cases e; rfl
  | int i => cases e; rfl
  | str y => cases e; exact beq_str_comm _ _
  | cell _ => cases e
  | dct0 => cases e
  | exc _ => cases e
theorem shaped_str {x : Str} (h : PyData.strOk x = true) : SeqAt.shaped (.str x) = true := by
  simp only [SeqAt.shaped, PyData.canLay0, h, PyData.depth]; rfl
section
variable {L k : Nat} {d : D} {st : Store}
theorem dEq_w {x : Str} (h : Sh L k d) (hk : k ≤ 64) (hx : PyData.strOk x = true) : dEq d (.str x) st = some (.bl (isW d x)) := by
  obtain ⟨p, e, s⟩ := h.shaped hk
  simp only [dEq, eqD, e, D.data, s, shaped_str hx, Bool.and_self, if_true, Option.map_some, eqv_str h e]
theorem dNe_w {x : Str} (h : Sh L k d) (hk : k ≤ 64) (hx : PyData.strOk x = true) : dNe d (.str x) st = some (.bl (!isW d x)) := by
  obtain ⟨p, e, s⟩ := h.shaped hk
  simp only [dNe, eqD, e, D.data, s, shaped_str hx, Bool.and_self, if_true, Option.map_some, eqv_str h e]
def strsD (xs : List Str) : List D := xs.map .str
theorem datas_strs : ∀ xs : List Str, D.datas (xs.map D.str) = some (xs.map PyData.str)
  | [] => rfl
  | x :: xs => by simp only [List.map_cons, D.datas, D.data, datas_strs xs]
theorem canLay_strs : ∀ xs : List Str, xs.all PyData.strOk = true → PyData.canLayAll0 (xs.map PyData.str) = true
  | [], _ => rfl
  | x :: xs, h => by
    simp only [List.all_cons, Bool.and_eq_true] at h
    simp only [List.map_cons, PyData.canLayAll0, PyData.canLay0, h.1, canLay_strs xs h.2, Bool.and_self]
theorem depth_strs : ∀ xs : List Str, PyData.depthAll (xs.map PyData.str) = 0
  | [] => rfl
  | x :: xs => by simp only [List.map_cons, PyData.depthAll, PyData.depth, depth_strs xs]; rfl
theorem inD_strs {xs : List Str} (h : Sh L k d) (hk : k ≤ 64) (hx : xs.all PyData.strOk = true) : inD d (.tup (xs.map D.str)) = some (xs.any fun x => isW d x) := by
  obtain ⟨p, e, s⟩ := h.shaped hk
  have s2 : SeqAt.shaped (.tuple (xs.map PyData.str)) = true := by
    simp only [SeqAt.shaped, PyData.canLay0, canLay_strs xs hx, PyData.depth, depth_strs]; rfl
  simp only [inD, e, D.data, datas_strs, Option.map_some, s, s2, Bool.and_self, if_true, List.any_map]
  congr 2
  funext x
  exact eqv_str' h e
theorem inD_strsL {xs : List Str} (h : Sh L k d) (hk : k ≤ 64) (hx : xs.all PyData.strOk = true) : inD d (.lst (xs.map D.str)) = some (xs.any fun x => isW d x) := by
  obtain ⟨p, e, s⟩ := h.shaped hk
  have s2 : SeqAt.shaped (.list (xs.map PyData.str)) = true := by
    simp only [SeqAt.shaped, PyData.canLay0, canLay_strs xs hx, PyData.depth, depth_strs]; rfl
  simp only [inD, e, D.data, datas_strs, Option.map_some, s, s2, Bool.and_self, if_true, List.any_map]
  congr 2
  funext x
  exact eqv_str' h e
theorem dIn_2 {x y : Str} (h : Sh L k d) (hk : k ≤ 64) (hx : [x, y].all PyData.strOk = true) : dIn d (.tup [.str x, .str y]) st = some (.bl (isW d x || isW d y)) := by
  have e := inD_strs h hk hx
  simp only [List.map_cons, List.map_nil, List.any_cons, List.any_nil, Bool.or_false] at e
  simp only [dIn, e, Option.map_some]
theorem dNotIn_2L {x y : Str} (h : Sh L k d) (hk : k ≤ 64) (hx : [x, y].all PyData.strOk = true) : dNotIn d (.lst [.str x, .str y]) st = some (.bl (!(isW d x || isW d y))) := by
  have e := inD_strsL h hk hx
  simp only [List.map_cons, List.map_nil, List.any_cons, List.any_nil, Bool.or_false] at e
  simp only [dNotIn, e, Option.map_some]
theorem dNotIn_3L {x y z : Str} (h : Sh L k d) (hk : k ≤ 64) (hx : [x, y, z].all PyData.strOk = true) : dNotIn d (.lst [.str x, .str y, .str z]) st = some (.bl (!(isW d x || (isW d y || isW d z)))) := by
  have e := inD_strsL h hk hx
  simp only [List.map_cons, List.map_nil, List.any_cons, List.any_nil, Bool.or_false] at e
  simp only [dNotIn, e, Option.map_some]
theorem dNotIn_ints {i a b : Int} : dNotIn (.int i) (.tup [.int a, .int b]) st = some (.bl (!(decide (a = i) || decide (b = i)))) := by
  have e : inD (.int i) (.tup [.int a, .int b]) = some (decide (a = i) || (decide (b = i) || false)) := rfl
  simp only [dNotIn, e, Option.map_some, Bool.or_false]
def qTup : D → Bool
  | .tup _ => true
  | _ => false
def qInt : D → Bool
  | .int _ => true
  | _ => false
def qBl : D → Bool
  | .bl _ => true
  | _ => false
def qStr : D → Bool
  | .str _ => true
  | _ => false
theorem dIsT_tuple (h : Sh L k d) : dIsT "tuple" d st = some (.bl (qTup d)) := by
  cases d <;> first | rfl | simp [Sh] at h
theorem dIsT_int (h : Sh L k d) : dIsT "int" d st = some (.bl (qInt d || qBl d)) := by
  cases d <;> first | rfl | simp [Sh] at h
theorem dIsT_bool (h : Sh L k d) : dIsT "bool" d st = some (.bl (qBl d)) := by
  cases d <;> first | rfl | simp [Sh] at h
theorem dIsT_str (h : Sh L k d) : dIsT "str" d st = some (.bl (qStr d)) := by
  cases d <;> first | rfl | simp [Sh] at h
@[simp] theorem eChain_app {fa fb fc : Ev → M D} {g g' : D → D → Store → Option D} {env : Ev} : eChain g g' fa fb fc env st = (fa env st).bnd fun x st => (fb env st).bnd fun y st => (lif (g x y st) st).bnd fun z st => (asB z st).bnd fun k st => if k = true then (fc env st).bnd (fun u st => lif (g' y u st) st) else .ok (.bl false) st := by
  show (fa env >>= _) st = _
  simp only [bind_app]
  congr 1
  funext x st
  simp only [bind_app]
  congr 1
  funext y st
  simp only [bind_app, lift_app]
  congr 1
  funext z st
  simp only [bind_app]
  congr 1
  funext k st
  cases k <;> rfl
end
section
variable {st : Store} {env : Ev} {fa fb : Ev → M D}
@[simp] theorem eAnd_app : eAnd fa fb env st = (fa env st).bnd fun d st => (asB d st).bnd fun b => if b = true then fb env else fun st => .ok (.bl false) st := rfl
@[simp] theorem eOr_app : eOr fa fb env st = (fa env st).bnd fun d st => (asB d st).bnd fun b => if b = true then fun st => .ok (.bl true) st else fb env := rfl
@[simp] theorem eNot_app : eNot fa env st = (fa env st).bnd fun d st => (asB d st).bnd fun b st => .ok (.bl (!b)) st := rfl
theorem atI_nat {l : List D} {k : Nat} (h : k < l.length) : atI l (k : Int) = l[k]? := by
  unfold atI ixN
  rw [if_pos (by omega), if_pos (by omega)]
  simp
@[simp] theorem dIdx_t0 (a : D) (l : List D) : dIdx (.tup (a :: l)) (.int 0) st = some a := atI_nat (l := a :: l) (k := 0) (by simp)
@[simp] theorem dIdx_t1 (a b : D) (l : List D) : dIdx (.tup (a :: b :: l)) (.int 1) st = some b := atI_nat (l := a :: b :: l) (k := 1) (by simp)
@[simp] theorem dIdx_t2 (a b c : D) (l : List D) : dIdx (.tup (a :: b :: c :: l)) (.int 2) st = some c := atI_nat (l := a :: b :: c :: l) (k := 2) (by simp)
@[simp] theorem dIdx_l0 (a : D) (l : List D) : dIdx (.lst (a :: l)) (.int 0) st = some a := atI_nat (l := a :: l) (k := 0) (by simp)
@[simp] theorem dIdx_l1 (a b : D) (l : List D) : dIdx (.lst (a :: b :: l)) (.int 1) st = some b := atI_nat (l := a :: b :: l) (k := 1) (by simp)
theorem dIdx_tn {l : List D} {k : Nat} {d : D} (h : l[k]? = some d) : dIdx (.tup l) (.int (k : Int)) st = some d := by
  have := (List.getElem?_eq_some_iff.mp h).1
  rw [← h]; exact atI_nat this
theorem dIdx_ln {l : List D} {k : Nat} {d : D} (h : l[k]? = some d) : dIdx (.lst l) (.int (k : Int)) st = some d := by
  have := (List.getElem?_eq_some_iff.mp h).1
  rw [← h]; exact atI_nat this
theorem dIdx_cn {l : List D} {c k : Nat} {d : D} (hc : cellL st c = some l) (h : l[k]? = some d) : dIdx (.cell c) (.int (k : Int)) st = some d := by
  have := (List.getElem?_eq_some_iff.mp h).1
  simp only [dIdx, hc, Option.bind_some]
  rw [← h]; exact atI_nat this
@[simp] theorem dLen_tup (l : List D) : dLen [.tup l] st = some (.int l.length) := rfl
@[simp] theorem dLen_lst (l : List D) : dLen [.lst l] st = some (.int l.length) := rfl
@[simp] theorem dTuple_lst (l : List D) : dTuple [.lst l] st = some (.tup l) := rfl
end
end G
end

section
set_option Elab.async false
set_option linter.all false
set_option maxRecDepth 100000
set_option maxHeartbeats 1000000
namespace G
open PySem PySem.Spec PyProof.Rows L2
section
variable {env : Ev} {st : Store} {fa fb fc fe : Ev → M D}
@[simp] theorem eSplit_app : eSplit fa fb env st = (fa env st).bnd fun d st => (asS d st).bnd fun z st => (fb env st).bnd fun y st => lif (dSplit (.str z) y st) st := by
  show (fa env >>= _) st = _
  simp only [bind_app]
  congr 1
@[simp] theorem asS_str (z : Str) : asS (.str z) st = .ok z st := rfl
@[simp] theorem eGet2_app : eGet2 fa fb fc env st = (fa env st).bnd fun o st => (chkD o st).bnd fun _ st => (fb env st).bnd fun k st => (fc env st).bnd fun z st => lif (dGet2 o k z st) st := by
  show (fa env >>= _) st = _
  simp only [bind_app]
  congr 1
@[simp] theorem eDct0_app : eDct0 env st = .ok .dct0 st := rfl
@[simp] theorem iEnumL_app : iEnumL fa env st = (fa env st).bnd fun d st => (itemsL d st).bnd fun l st => .ok (pairsD l) st := rfl
@[simp] theorem itemsL_lst (l : List D) : itemsL (.lst l) st = .ok l st := rfl
theorem iChars_at {z : Str} {st' : Store} (h : fa env st = .ok (.str z) st') (hz : z.length ≤ sizeLine) : iChars fa env st = .ok (chars z) st' := by
  show (fa env >>= _) st = _
  rw [bind_app, h, bnd_ok, bind_app, asS_str, bnd_ok, if_pos hz]
  rfl
@[simp] theorem gtPairL_app {t1 t2 : D → Ev → M Ev} {a b : D} : gtPairL t1 t2 (.lst [a, b]) env st = (t1 a env st).bnd fun e1 => t2 b e1 := rfl
/-- a list of those that are not so -/
theorem compGo_not {i : Nat} {tt : Ev → M Bool} (I : Store → Prop) (f : D → Bool) : ∀ (l acc : List D) (st : Store), i < env.length → (∀ d ∈ l, ∀ st, I st → ∃ st', tt (env.set i (some d)) st = .ok (!f d) st' ∧ I st') → I st →
    ∃ st', compGo (tgName i) tt (eVar i) env l acc st = .ok (acc ++ l.filter fun d => !f d) st' ∧ I st'
  | [], acc, st, _, _, hi => ⟨st, by simp [compGo], hi⟩
  | d :: l, acc, st, hl, h, hi => by
    obtain ⟨st1, e1, i1⟩ := h d (by simp) st hi
    have ev : ∀ st, eVar i (env.set i (some d)) st = .ok d st := fun st => eVar_at i (by simp [hl])
    by_cases q : f d = true
    · obtain ⟨st2, e2, i2⟩ := compGo_not I f l acc st1 hl (fun d hd => h d (by simp [hd])) i1
      refine ⟨st2, ?_, i2⟩
      unfold compGo
      simp only [tgName, bind_app, noErr_app, e1, noe_ok, bnd_ok, q]
      simp [q, e2]
    · obtain ⟨st2, e2, i2⟩ := compGo_not I f l (acc ++ [d]) st1 hl (fun d hd => h d (by simp [hd])) i1
      have q' : f d = false := by simpa using q
      refine ⟨st2, ?_, i2⟩
      unfold compGo
      simp only [tgName, bind_app, noErr_app, e1, noe_ok, bnd_ok, q']
      simp [q', ev, e2]
theorem filter_nil {l : List D} (f : D → Bool) : (l.filter fun d => !f d).isEmpty = l.all f := by
  induction l with
  | nil => rfl
  | cons d l ih =>
    by_cases q : f d = true
    · simp only [List.filter_cons, q, List.all_cons, Bool.true_and]; exact ih
    · have q' : f d = false := by simpa using q
      simp [q']
theorem dEq_nil {L k : Nat} {l : List D} (h : Sh L k (.lst l)) (hk : k ≤ 64) : dEq (.lst l) (.lst []) st = some (.bl l.isEmpty) := by
  obtain ⟨p, e, s⟩ := h.shaped hk
  have e2 : (D.lst []).data = some (.list []) := rfl
  have s2 : SeqAt.shaped (.list []) = true := rfl
  have ev : PyData.eqv p (.list []) = l.isEmpty := by
    cases l with
    | nil => cases e; rfl
    | cons d l =>
      simp only [D.data] at e
      cases q : D.datas (d :: l) with
      | none => rw [q] at e; cases e
      | some ps =>
        rw [q] at e
        cases e
        cases ps with
        | nil =>
          simp only [D.datas] at q
          split at q <;> cases q
        | cons p ps => rfl
  simp only [dEq, eqD, e, e2, s, s2, Bool.and_self, if_true, Option.map_some, ev]
theorem dEq_nilT {L k : Nat} {l : List D} (h : Sh L k (.tup l)) (hk : k ≤ 64) : dEq (.tup l) (.tup []) st = some (.bl l.isEmpty) := by
  obtain ⟨p, e, s⟩ := h.shaped hk
  have e2 : (D.tup []).data = some (.tuple []) := rfl
  have s2 : SeqAt.shaped (.tuple []) = true := rfl
  have ev : PyData.eqv p (.tuple []) = l.isEmpty := by
    cases l with
    | nil => cases e; rfl
    | cons d l =>
      simp only [D.data] at e
      cases q : D.datas (d :: l) with
      | none => rw [q] at e; cases e
      | some ps =>
        rw [q] at e
        cases e
        cases ps with
        | nil =>
          simp only [D.datas] at q
          split at q <;> cases q
        | cons p ps => rfl
  simp only [dEq, eqD, e, e2, s, s2, Bool.and_self, if_true, Option.map_some, ev]
theorem dNe_nilT {L k : Nat} {l : List D} (h : Sh L k (.tup l)) (hk : k ≤ 64) : dNe (.tup l) (.tup []) st = some (.bl (!l.isEmpty)) := by
  have e : dEq (.tup l) (.tup []) st = some (.bl l.isEmpty) := dEq_nilT h hk
  simp only [dEq] at e
  simp only [dNe]
  cases q : eqD (.tup l) (.tup []) with
  | none => rw [q] at e; cases e
  | some r => rw [q] at e; cases e; rfl
theorem sh_filter {L k : Nat} {l : List D} (f : D → Bool) (hl : l.length ≤ L) (h : ∀ x ∈ l, Sh L k x) : Sh L (k + 1) (.lst (l.filter f)) := by
  simp only [Sh]
  exact ⟨Nat.le_trans (List.length_filter_le _ _) hl, fun x hx => h x (List.mem_filter.mp hx).1⟩
end
end G
end

section
set_option Elab.async false
set_option linter.all false
set_option autoImplicit false
set_option maxRecDepth 100000
set_option maxHeartbeats 1000000
namespace G
open PySem PySem.Spec PyProof.Rows L2
section
variable {X : Cx} {W : XW} {e a b c : Expr} {s : Stmt} {pos apos : Pos} {fa fb fc : Ev → M D}
/-! ## lists in cells, changed by their methods -/
def isLst (d : D) (st : Store) : Bool := match d with
  | .cell c => match st[c]? with
    | some (.lst _) => true
    | _ => false
  | _ => false
def chkL (d : D) : M Unit := fun st => if isLst d st = true then .ok () st else .bad
theorem chkL_wp {w : Wd} {d : D} {P : Unit → Wd → Prop} {V' : Str → Wd → Prop} (rs : RS w) (h : Wp w (chkL d w.st) P V') : (∃ c l, d = .cell c ∧ w.st[c]? = some (.lst l)) ∧ P () w := by
  unfold chkL at h
  by_cases hd : isLst d w.st = true
  · rw [if_pos hd] at h
    refine ⟨?_, Wp.ok_ rs h⟩
    unfold isLst at hd
    split at hd
    · split at hd
      · rename_i c _ l e; exact ⟨c, l, rfl, e⟩
      · cases hd
    · cases hd
  · rw [if_neg hd] at h; exact h.elim
/-- the cell's list becomes another -/
def updL (d : D) (f : List D → Option (List D)) : M D := fun st => match d with
  | .cell c => match st[c]? with
    | some (.lst l) => match f l with
      | some l' => .ok .non (st.set c (.lst l'))
      | none => .bad
    | _ => .bad
  | _ => .bad
theorem updL_wp {w : Wd} {d : D} {f : List D → Option (List D)} {P : D → Wd → Prop} {V' : Str → Wd → Prop} (rs : RS w) (h : Wp w (updL d f w.st) P V') :
    ∃ c l l' xs, d = .cell c ∧ f l = some l' ∧ w.H (w.m c) = some (.lst xs) ∧ Reps w l xs ∧ l.length ≤ sizeLine ∧ ∀ xs', Reps w l' xs' → l'.length ≤ sizeLine → ∃ w', w'.H = upd w.H (w.m c) (.lst xs') ∧ Aft w w' ∧ P .non w' := by
  unfold updL at h
  split at h
  · rename_i c
    split at h
    · rename_i l el
      split at h
      · rename_i l' ef
        obtain ⟨xs, e1, r1, l1⟩ := rs.cells c _ el
        refine ⟨c, l, l', xs, rfl, ef, e1, r1, l1, fun xs' r' hl' => ?_⟩
        have up : ∀ b q, b ≠ w.m c → w.H b = some q → upd w.H (w.m c) (.lst xs') b = some q := fun b q hb z => by rw [upd_ne hb]; exact z
        have bb : Bears w ⟨w.K, w.m, w.st.set c (.lst l'), upd w.H (w.m c) (.lst xs'), w.rv⟩ := bears_set (c := .lst l') (c0 := .lst l) rs el trivial up
        have aa : Aft w ⟨w.K, w.m, w.st.set c (.lst l'), upd w.H (w.m c) (.lst xs'), w.rv⟩ := aft_set (c0 := .lst l) rs el trivial up ⟨_, upd_same, bb.reps _ _ r', hl'⟩
        exact ⟨_, rfl, aa, h _ aa rfl⟩
      · exact h.elim
    · exact h.elim
  · exact h.elim
def eLm (g : List D → List D → Option (List D)) (fo : Ev → M D) (fs : List (Ev → M D)) : Ev → M D := fun env => do
  let o ← fo env
  chkL o
  let ds ← aSeq fs env
  updL o (fun l => g l ds)
def gAppend (l : List D) : List D → Option (List D)
  | [y] => if l.length < sizeLine then some (l ++ [y]) else none
  | _ => none
def gExtend (l : List D) : List D → Option (List D)
  | [.lst ys] => if l.length + ys.length ≤ sizeLine then some (l ++ ys) else none
  | _ => none
def gInsert (l : List D) : List D → Option (List D)
  | [.int i, y] => if l.length < sizeLine ∧ 0 ≤ i ∧ i ≤ 1000000 then some (l.take i.toNat ++ [y] ++ l.drop i.toNat) else none
  | _ => none
def gClear (l : List D) : List D → Option (List D)
  | [] => some []
  | _ => none
/-- the reading of such a call -/
theorem lm_rd {g : List D → List D → Option (List D)} {fs : List (Ev → M D)} {r : V → List V → Hp → VK → Prop} {σ : L2.St} {H : Hp} {Q : VK}
    (hr : ∀ (w : Wd) (p : Addr) (l l' ds : List D) (xs vs : List V) (Q : VK), w.K = X.K → w.H p = some (.lst xs) → Reps w l xs → Reps w ds vs → l.length ≤ sizeLine → g l ds = some l' → (∀ xs', Reps w l' xs' → l'.length ≤ sizeLine → Q .non (upd w.H p (.lst xs'))) → r (.ref p) vs w.H Q)
    (h : rdE X.K W (eLm g fa fs) σ H Q) : tBM X.K "list" r (rdE X.K W fa) (rdA X.K W (aSeq fs)) σ H Q := by
  obtain ⟨w, env, hk, rfl, rs, n, h⟩ := h
  refine ⟨w, env, hk, rfl, rs, n, (Wp.bind h).imp fun x w1 a1 h1 v rv => ?_⟩
  obtain ⟨⟨c1, l1, rfl, e1⟩, h2⟩ := chkL_wp a1.rs (Wp.bind h1)
  have rv0 := rv
  simp only [Rep] at rv
  obtain ⟨xs1, q1, _⟩ := a1.rs.cells c1 _ e1
  refine ⟨by rw [rv.1]; exact .inl ⟨rfl, xs1, SqL.of q1⟩, w1, env, a1.k.trans hk, rfl, a1.rs, n.after a1, (Wp.bind h2).imp fun ds w2 a2 h3 vs rvs => ?_⟩
  obtain ⟨c, l, l', xs, ec, ef, eH, rl, hl, fin⟩ := updL_wp a2.rs h3
  cases ec
  have rv2 := a2.rep rv0
  simp only [Rep] at rv2
  rw [rv2.1]
  refine hr w2 _ l l' ds xs vs Q (a2.k.trans (a1.k.trans hk)) eH rl rvs hl ef fun xs' r' hl' => ?_
  obtain ⟨w3, e3, a3, p3⟩ := fin xs' r' hl'
  rw [← e3]
  exact p3 _ (by simp [Rep])
theorem de_append (ho : DE X W a fa) (hb : DE X W b fb)
    (hbase : attributeBase a "append" X.env (eval a X.env) = eval a X.env := by rfl) (hfew : ((backTo pos (starEach [b] X.env)).all (fun x => !x.1) && (backToKw pos (keywordEach [] X.env)).all (fun x => x.1.isSome)
      && decide ([b].length + ([] : List Keyword).length + (if ([] : List Keyword).isEmpty then 0 else 1) < 30)) = true := by rfl)
    (hline : (apos.endLine == pos.line) = true := by rfl) (hst : starEach [b] X.env = (false, eval b X.env) :: starEach [] X.env := by rfl) (hplain : (backTo pos (starEach [] X.env)).any (·.1) = false := by rfl) :
    DE X W (.Call (.Attribute a "append" apos) [b] [] pos) (eLm gAppend fa [fb]) := PE.imp' (pe_bm PySem.F.plainAttrs_list PySem.F.slot_list_append PySem.F.type_list_append mt_append ho (da_cons hb da_nil hst) hbase hfew hline hst hplain) fun σ H Q h =>
  lm_rd (fun w p l l' ds xs vs Q hk hH rl rd hl e q => by
    unfold gAppend at e
    split at e
    · rename_i y
      split at e
      · rename_i hc
        cases e
        obtain ⟨v, rfl, r⟩ := reps1 rd
        exact ⟨p, xs, v, rfl, rfl, hH, by rw [reps_len rl]; exact hc, q _ (reps_app rl rd) (by rw [List.length_append]; exact hc)⟩
      · cases e
    · cases e) h
theorem de_extend (ho : DE X W a fa) (hb : DE X W b fb)
    (hbase : attributeBase a "extend" X.env (eval a X.env) = eval a X.env := by rfl) (hfew : ((backTo pos (starEach [b] X.env)).all (fun x => !x.1) && (backToKw pos (keywordEach [] X.env)).all (fun x => x.1.isSome)
      && decide ([b].length + ([] : List Keyword).length + (if ([] : List Keyword).isEmpty then 0 else 1) < 30)) = true := by rfl)
    (hline : (apos.endLine == pos.line) = true := by rfl) (hst : starEach [b] X.env = (false, eval b X.env) :: starEach [] X.env := by rfl) (hplain : (backTo pos (starEach [] X.env)).any (·.1) = false := by rfl) :
    DE X W (.Call (.Attribute a "extend" apos) [b] [] pos) (eLm gExtend fa [fb]) := PE.imp' (pe_bm PySem.F.plainAttrs_list PySem.F.slot_list_extend PySem.F.type_list_extend mt_extend ho (da_cons hb da_nil hst) hbase hfew hline hst hplain) fun σ H Q h =>
  lm_rd (fun w p l l' ds xs vs Q hk hH rl rd hl e q => by
    unfold gExtend at e
    split at e
    · rename_i y
      split at e
      · rename_i hc
        cases e
        obtain ⟨v, rfl, r⟩ := reps1 rd
        simp only [Rep] at r
        obtain ⟨z, zs, rfl, fz, rz, lz⟩ := r
        exact ⟨p, z, xs, zs, rfl, rfl, hH, fz.1.1, by rw [reps_len rl, reps_len rz]; exact hc, q _ (reps_app rl rz) (by rw [List.length_append]; exact hc)⟩
      · cases e
    · cases e) h
theorem de_insert (ho : DE X W a fa) (hb : DE X W b fb) (hc : DE X W c fc)
    (hbase : attributeBase a "insert" X.env (eval a X.env) = eval a X.env := by rfl) (hfew : ((backTo pos (starEach [b, c] X.env)).all (fun x => !x.1) && (backToKw pos (keywordEach [] X.env)).all (fun x => x.1.isSome)
      && decide ([b, c].length + ([] : List Keyword).length + (if ([] : List Keyword).isEmpty then 0 else 1) < 30)) = true := by rfl)
    (hline : (apos.endLine == pos.line) = true := by rfl) (hst : starEach [b, c] X.env = (false, eval b X.env) :: starEach [c] X.env := by rfl) (hst2 : starEach [c] X.env = (false, eval c X.env) :: starEach [] X.env := by rfl) (hplain : (backTo pos (starEach [c] X.env)).any (·.1) = false := by rfl) :
    DE X W (.Call (.Attribute a "insert" apos) [b, c] [] pos) (eLm gInsert fa [fb, fc]) := PE.imp' (pe_bm PySem.F.plainAttrs_list PySem.F.slot_list_insert PySem.F.type_list_insert mt_insert ho (da_cons hb (da_cons hc da_nil hst2) hst) hbase hfew hline hst hplain) fun σ H Q h =>
  lm_rd (fun w p l l' ds xs vs Q hk hH rl rd hl e q => by
    unfold gInsert at e
    split at e
    · rename_i i y
      split at e
      · rename_i hc
        cases e
        obtain ⟨v, u, rfl, r, ru⟩ := reps2 rd
        simp only [Rep] at r
        refine ⟨p, xs, i, u, rfl, by rw [r], hH, by rw [reps_len rl]; exact hc.1, hc.2.1, by omega, q _ (reps_app (reps_app (reps_take _ rl) (by simp only [Reps]; exact ⟨u, [], rfl, ru, rfl⟩)) (reps_drop _ rl)) ?_⟩
        simp only [List.length_append, List.length_take, List.length_drop, List.length_cons, List.length_nil]
        omega
      · cases e
    · cases e) h
theorem de_clear (ho : DE X W a fa) (hbase : attributeBase a "clear" X.env (eval a X.env) = eval a X.env := by rfl) (hline : (apos.endLine == pos.line) = true := by rfl) :
    DE X W (.Call (.Attribute a "clear" apos) [] [] pos) (eLm gClear fa []) := PE.imp' (pe_bm0 PySem.F.plainAttrs_list PySem.F.slot_list_clear PySem.F.type_list_clear mt_clear ho hbase hline) fun σ H Q h => by
  obtain ⟨w, env, hk, rfl, rs, n, h⟩ := h
  refine ⟨w, env, hk, rfl, rs, n, (Wp.bind h).imp fun x w1 a1 h1 v rv => ?_⟩
  obtain ⟨⟨c1, l1, rfl, e1⟩, h2⟩ := chkL_wp a1.rs (Wp.bind h1)
  simp only [Rep] at rv
  obtain ⟨xs1, q1, _⟩ := a1.rs.cells c1 _ e1
  refine ⟨by rw [rv.1]; exact .inl ⟨rfl, xs1, SqL.of q1⟩, ?_⟩
  have h3 : Wp w1 (updL (.cell c1) (fun l => gClear l []) w1.st) _ _ := h2
  obtain ⟨c, l, l', xs, ec, ef, eH, rl, hl, fin⟩ := updL_wp a1.rs h3
  cases ec
  cases ef
  obtain ⟨w3, e3, a3, p3⟩ := fin [] (by simp [Reps]) (Nat.zero_le _)
  refine ⟨_, xs, rv.1, rfl, eH, ?_⟩
  rw [← e3]
  exact p3 _ (by simp [Rep])
/-! ## a list times an int, to be changed -/
def repL (d k : D) : M D := fun st => match d, k with
  | .lst l, .int k => if 0 ≤ k ∧ k ≤ 1000 ∧ l.length ≤ 1000 then .ok (.cell st.length) (st ++ [.lst (List.replicate k.toNat l).flatten]) else .bad
  | _, _ => .bad
def eRepC (fa fb : Ev → M D) : Ev → M D := fun env => do
  let d ← fa env
  let k ← fb env
  repL d k
/-- a new list at a free place becomes a cell -/
theorem aft_newL {w : Wd} {p : Addr} {l : List D} {xs : List V} (rs : RS w) (hp : w.H p = none) (r : Reps w l xs) (hl : l.length ≤ sizeLine) : Aft w ⟨w.K, mpNew w.m w.st.length p, w.st ++ [.lst l], upd w.H p (.lst xs), w.rv⟩ ∧ Rep ⟨w.K, mpNew w.m w.st.length p, w.st ++ [.lst l], upd w.H p (.lst xs), w.rv⟩ (.cell w.st.length) (.ref p) := by
  have b := bears_cell (K := w.K) (m := w.m) (st := w.st) (rv := w.rv) (c := .lst l) (same_upd (H := w.H) (p := p) (o := .lst xs) hp) hp
  refine ⟨aft_cell rs (same_upd hp) hp ⟨xs, upd_same, b.reps _ _ r, hl⟩, ?_⟩
  simp only [Rep]
  exact ⟨by rw [mpNew_new], by simp⟩
theorem de_repC (ha : DE X W a fa) (hb : DE X W b fb) : DE X W (.BinOp a .Mult b pos) (eRepC fa fb) := PE.imp' (pe_op op_rep ha hb) fun σ H Q h => by
  obtain ⟨w, env, hk, rfl, r, n, h⟩ := h
  refine ⟨w, env, hk, rfl, r, n, (Wp.bind h).imp fun x w1 a1 h1 v rv => ?_⟩
  refine ⟨w1, env, a1.k.trans hk, rfl, a1.rs, n.after a1, (Wp.bind h1).imp fun y w2 a2 h2 u ru => ?_⟩
  unfold repL at h2
  split at h2
  · rename_i l k
    split at h2
    · rename_i hc
      have rv2 := a2.rep rv
      simp only [Rep] at rv2 ru
      obtain ⟨p, xs, rfl, fz, rr, hl⟩ := rv2
      have hlen : (List.replicate k.toNat l).flatten.length ≤ sizeLine := by
        rw [PyProof.Rows.lm_len_rep_flat, sizeLine_eq]
        have a1 : k.toNat * l.length ≤ 1000 * 1000 := Nat.mul_le_mul (by omega) hc.2.2
        omega
      refine ⟨p, k, xs, rfl, ru, fz.1.1, by omega, by omega, ?_, fun p' hp => ?_⟩
      · rw [reps_len rr, sizeLine_eq]
        have a1 : l.length * k.toNat ≤ 1000 * 1000 := Nat.mul_le_mul hc.2.2 (by omega)
        omega
      · obtain ⟨a3, r3⟩ := aft_newL a2.rs hp (reps_flat rr k.toNat) hlen
        exact h2 _ a3 rfl _ r3
    · exact h2.elim
  · exact h2.elim
/-! ## reading lists in cells -/
theorem dp_cell {w : Wd} (rs : RS w) {c : Nat} {l : List D} {ps : List PyData} (h : cellL w.st c = some l) (e : D.datas l = some ps) : Dp w.K w.H (.ref (w.m c)) (.list ps) := by
  obtain ⟨xs, sq, r, _⟩ := cell_sq rs h
  exact .lst sq (dps_of l xs ps r e)
def dInC : D → D → Store → Option D := fun a b st => match b with
  | .cell c => (cellL st c).bind fun l => (inD a (.lst l)).map .bl
  | _ => none
theorem od_inC (hu : X.A.units + 65 < cLine) : OpD X (compareOp .In) dInC := OpR.imp' (op_inD hu) fun x y H Q h => by
  obtain ⟨w, a, b, hk, rfl, rs, ra, rb, q⟩ := h
  obtain ⟨d, e⟩ := wq_some q
  have e0 := e
  unfold dInC at e
  split at e
  · rename_i c
    cases qc : cellL w.st c with
    | none => rw [qc] at e; cases e
    | some l =>
      rw [qc] at e
      simp only [Option.bind_some] at e
      unfold inD at e
      cases qa : a.data with
      | none => rw [qa] at e; cases e
      | some p =>
        cases ql : D.datas l with
        | none => rw [qa] at e; simp [D.data, ql] at e
        | some qs =>
          rw [qa] at e
          simp only [D.data, ql, Option.map_some] at e
          by_cases hc : (SeqAt.shaped p && SeqAt.shaped (.list qs)) = true
          · rw [if_pos hc] at e
            simp only [Rep] at rb
            obtain ⟨s1, s2⟩ := Bool.and_eq_true_iff.mp hc
            rw [rb.1]
            exact ⟨p, qs, by rw [← hk]; exact dp_of a x p ra qa, by rw [← hk]; exact dp_cell rs qc ql, s1, s2, q.here rs (e0.trans e.symm) (rep_bl _)⟩
          · rw [if_neg hc] at e; cases e
  · cases e
def dReprC : List D → Store → Option D
  | [.cell c], st => (cellL st c).bind fun l => match (D.lst l).data with
    | some p => if reprOk p then some (.str p.shown) else none
    | none => none
  | _, _ => none
theorem cd_reprC (hg : X.A.guards = some []) (hu : X.A.units + 64 < cLine) : CallD X (.builtin "repr") dReprC := CallR.imp' (cr_reprD hg hu) fun xs H Q h => by
  obtain ⟨w, ds, hk, rfl, rs, rd, q⟩ := h
  obtain ⟨d, e⟩ := wq_some q
  have e0 := e
  unfold dReprC at e
  split at e
  · rename_i st' c
    obtain ⟨v, rfl, r⟩ := reps1 rd
    simp only [Rep] at r
    cases qc : cellL w.st c with
    | none => rw [qc] at e; cases e
    | some l =>
      rw [qc] at e
      simp only [Option.bind_some] at e
      split at e
      · rename_i p ep
        split at e
        · rename_i hok
          cases ql : D.datas l with
          | none => simp [D.data, ql] at ep
          | some qs =>
            simp only [D.data, ql, Option.map_some, Option.some.injEq] at ep
            subst ep
            exact ⟨_, .list qs, by rw [r.1], by rw [← hk]; exact dp_cell rs qc ql, hok, q.here rs (e0.trans e.symm) (rep_str _)⟩
        · cases e
      · cases e
  · cases e
/-! ## sorted ints -/
def insI (x : Int) : List Int → List Int
  | [] => [x]
  | y :: l => if x ≤ y then x :: y :: l else y :: insI x l
def sortI : List Int → List Int
  | [] => []
  | x :: l => insI x (sortI l)
theorem insI_perm (x : Int) : ∀ l, (insI x l).Perm (x :: l)
  | [] => .refl _
  | y :: l => by
    unfold insI
    split
    · exact .refl _
    · exact ((insI_perm x l).cons y).trans (.swap x y l)
theorem insI_sorted (x : Int) : ∀ l : List Int, l.Pairwise (· ≤ ·) → (insI x l).Pairwise (· ≤ ·)
  | [], _ => by simp [insI]
  | y :: l, h => by
    unfold insI
    obtain ⟨h1, h2⟩ := List.pairwise_cons.mp h
    split
    · rename_i hxy
      exact List.pairwise_cons.mpr ⟨fun z hz => by
        rcases List.mem_cons.mp hz with rfl | hz
        · exact hxy
        · exact Int.le_trans hxy (h1 z hz), h⟩
    · rename_i hxy
      refine List.pairwise_cons.mpr ⟨fun z hz => ?_, insI_sorted x l h2⟩
      rcases List.mem_cons.mp ((insI_perm x l).mem_iff.mp hz) with rfl | hz
      · omega
      · exact h1 z hz
theorem sortI_perm : ∀ l, (sortI l).Perm l
  | [] => .refl _
  | x :: l => (insI_perm x _).trans ((sortI_perm l).cons x)
theorem sortI_sorted : ∀ l, (sortI l).Pairwise (· ≤ ·)
  | [] => by simp [sortI]
  | x :: l => insI_sorted x _ (sortI_sorted l)
theorem sorted_uniqI : ∀ {l m : List Int}, l.Pairwise (· ≤ ·) → m.Pairwise (· ≤ ·) → l.Perm m → l = m
  | [], m, _, _, p => (List.Perm.eq_nil p.symm).symm
  | x :: l, [], _, _, p => absurd p.length_eq (by simp)
  | x :: l, y :: m, hl, hm, p => by
    obtain ⟨a1, a2⟩ := List.pairwise_cons.mp hl
    obtain ⟨b1, b2⟩ := List.pairwise_cons.mp hm
    have h1 : y ≤ x := by
      rcases List.mem_cons.mp (p.mem_iff.mp (List.mem_cons_self (a := x) (l := l))) with e | e
      · omega
      · exact b1 x e
    have h2 : x ≤ y := by
      rcases List.mem_cons.mp (p.mem_iff.mpr (List.mem_cons_self (a := y) (l := m))) with e | e
      · omega
      · exact a1 y e
    have e : x = y := by omega
    subst e
    rw [sorted_uniqI a2 b2 (List.Perm.cons_inv p)]
def dSortI : List D → Store → Option D
  | [.lst l], _ => (ints? l).map fun ns => .lst ((sortI ns).map .int)
  | _, _ => none
theorem reps_intsD {w : Wd} : ∀ ns : List Int, Reps w (ns.map D.int) (ns.map V.int)
  | [] => by simp [Reps]
  | z :: zs => by
    simp only [List.map_cons, Reps]
    exact ⟨_, _, rfl, by simp [Rep], reps_intsD zs⟩
theorem ints_len : ∀ {l : List D} {ns : List Int}, ints? l = some ns → ns.length = l.length
  | [], ns, h => by cases h; rfl
  | .int i :: l, ns, h => by
    cases q : ints? l with
    | none => simp [ints?, q] at h
    | some ms => simp [ints?, q] at h; subst h; simp [ints_len q]
  | .non :: _, _, h => by cases h
  | .bl _ :: _, _, h => by cases h
  | .str _ :: _, _, h => by cases h
  | .tup _ :: _, _, h => by cases h
  | .lst _ :: _, _, h => by cases h
  | .cell _ :: _, _, h => by cases h
  | .dct0 :: _, _, h => by cases h
  | .exc _ :: _, _, h => by cases h
theorem cd_sortI : CallD X (.builtin "sorted") dSortI := CallR.imp' cr_sortedI fun xs H Q h => by
  obtain ⟨w, ds, hk, rfl, rs, rd, q⟩ := h
  obtain ⟨d, e⟩ := wq_some q
  have e0 := e
  unfold dSortI at e
  split at e
  · rename_i l
    obtain ⟨v, rfl, r⟩ := reps1 rd
    simp only [Rep] at r
    obtain ⟨p, ys, rfl, fz, rr, hl⟩ := r
    cases qi : ints? l with
    | none => rw [qi] at e; cases e
    | some ns =>
      rw [qi] at e
      have ey := ints_reps qi rr
      subst ey
      refine ⟨p, ns, rfl, SqL.of fz.1.1, fun ns' p' pm so hp => ?_⟩
      have e2 : ns' = sortI ns := sorted_uniqI so (sortI_sorted ns) (pm.trans (sortI_perm ns).symm)
      subst e2
      refine q.new rs hp (e0.trans e.symm) (rep_new rs hp (reps_intsD _) ?_)
      rw [List.length_map, (sortI_perm ns).length_eq, ints_len qi]
      exact hl
  · cases e
end
end G
end

section
set_option Elab.async false
set_option linter.all false
set_option autoImplicit false
set_option maxRecDepth 100000
set_option maxHeartbeats 1000000
namespace G
open PySem PySem.Spec PyProof.Rows L2
section
variable {X : Cx} {W : XW} {e a b c : Expr} {s : Stmt} {ss : List Stmt} {pos : Pos} {fa fb fc : Ev → M D} {g g' : Ev → M Fl}
/-! ## a comprehension whose list is changed later -/
def eCompC (vs : List Nat) (fi : Ev → M (List D)) (tg : D → Ev → Option Ev) (tt : Ev → M Bool) (fe : Ev → M D) : Ev → M D := fun env => do
  let l ← fi env
  let ds ← compGo tg tt fe (evWipe env vs) l []
  newCell (.lst ds)
theorem comp_rdC {vs : List Nat} {fi : Ev → M (List D)} {tg : D → Ev → Option Ev} {is : List Nat} {tt : Ev → M Bool} {fe : Ev → M D} {t : TG} (ht : TgOk X.K t tg is) (hv : ∀ i ∈ is, i ∈ vs) {σ : L2.St} {H : Hp} {Q : VK} (h : rdE X.K W (eCompC vs fi tg tt fe) σ H Q) :
    tLc (rdI X.K W fi) t (rdT X.K (fun _ _ _ => False) tt) (rdE X.K (fun _ _ _ => False) fe) vs σ H Q := by
  obtain ⟨w, env, hk, rfl, r, n, h⟩ := h
  refine ⟨w, env, hk, rfl, r, n, (Wp.bind h).imp fun l w1 a1 h1 J hJ Dn hD => ?_⟩
  have h2 := Wp.bind h1
  have hk1 : w1.K = X.K := a1.k.trans hk
  -- the whole loop ends well
  obtain ⟨dsf, stf, ef⟩ : ∃ dsf stf, compGo tg tt fe (evWipe env vs) l [] w1.st = .ok dsf stf := by
    cases er : compGo tg tt fe (evWipe env vs) l [] w1.st with
    | ok dsf stf => exact ⟨dsf, stf, rfl⟩
    | bad => rw [er] at h2; exact h2.elim
    | err c stf =>
      exfalso
      have : ∀ (l acc : List D) (st : Store), compGo tg tt fe (evWipe env vs) l acc st ≠ .err c stf := by
        intro l
        induction l with
        | nil => intro acc st q; cases q
        | cons d r ih =>
          intro acc st q
          unfold compGo at q
          cases et : tg d (evWipe env vs) with
          | none => rw [et] at q; cases q
          | some e1 =>
            rw [et] at q
            have q : M.andThen (noErr (tt e1)) (fun b => if b = true then M.andThen (noErr (fe e1)) (fun y => compGo tg tt fe (evWipe env vs) r (acc ++ [y])) else compGo tg tt fe (evWipe env vs) r acc) st = .err c stf := q
            unfold M.andThen at q
            cases e2 : noErr (tt e1) st with
            | bad => rw [e2] at q; cases q
            | err c' s' => unfold noErr at e2; split at e2 <;> cases e2
            | ok b s1 =>
              rw [e2] at q
              simp only at q
              cases b with
              | false => exact ih _ _ q
              | true =>
                simp only [if_true] at q
                cases e3 : noErr (fe e1) s1 with
                | bad => rw [e3] at q; cases q
                | err c' s' => unfold noErr at e3; split at e3 <;> cases e3
                | ok y s2 => rw [e3] at q; exact ih _ _ q
      exact this _ _ _ er
  have hfin : ∀ w3, Aft w1 w3 → w3.st = stf ++ [.lst dsf] → ∀ v, Rep w3 (.cell stf.length) v → Q v w3.H := by
    have h1' : Wp w1 (M.andThen (compGo tg tt fe (evWipe env vs) l []) (fun ds => newCell (.lst ds)) w1.st) (fun d w' => ∀ v, Rep w' d v → Q v w'.H) (fun c w' => W c σ w'.H) := h1
    unfold M.andThen at h1'
    rw [ef] at h1'
    exact h1'
  refine ⟨fun i m H => m + i = l.length ∧ ∃ (w' : Wd) (ds : List D) (acc : List V), w'.K = X.K ∧ w'.H = H ∧ RS w' ∧ w'.rv = Dn :: w1.rv ∧ Lat w1 w' ∧ Bears w1 w' ∧ H Dn = some (.lst acc) ∧ Reps w' ds acc ∧ ds.length ≤ i ∧ compGo tg tt fe (evWipe env vs) (l.drop i) ds w'.st = .ok dsf stf,
    ⟨l.length, by simp, ⟨w1.K, w1.m, w1.st, upd w1.H Dn (.lst []), Dn :: w1.rv⟩, [], [], hk1, rfl, ?_, rfl, ?_, ?_, upd_same, by simp [Reps], Nat.zero_le _, by rw [List.drop_zero]; exact ef⟩, ?_⟩
  · -- the world with the new list
    have a0 : Aft w1 ⟨w1.K, w1.m, w1.st, upd w1.H Dn (.lst []), w1.rv⟩ := aft_new a1.rs hD
    refine ⟨fun i c hc => ?_, a0.rs.inj, fun x hx z => ?_, fun x hx z => ?_⟩
    · exact cell_bears (bears_res hD) (fun o q _ => same_upd hD _ _ q) (fun _ q => roL_same (same_upd hD) q) rfl (a1.rs.cells i c hc)
    · rcases List.mem_cons.mp hx with rfl | hx
      · have z : upd w1.H x (.lst []) x = none := z; rw [upd_same] at z; cases z
      · exact a0.rs.rvs x hx z
    · rcases List.mem_cons.mp hx with rfl | hx
      · exact (fz_new (w := w1) (o := .lst []) a1.rs hD).2 z
      · exact a0.rs.rvo x hx z
  · exact aft_new a1.rs hD
  · exact bears_res hD
  · rintro i m H1 ⟨hm, w', ds, acc, hk', rfl, rs', rv', lat, b', hDa, rd, hdl, eq⟩
    have hnD : ∀ x, x ∈ w1.rv → x ≠ Dn := fun x hx z => a1.rs.rvs x hx (by rw [z]; exact hD)
    have own' : ¬ Own w'.m w'.st Dn := rs'.rvo Dn (by rw [rv']; exact List.mem_cons_self ..)
    by_cases he : i = l.length
    · refine .inl ⟨by rw [he]; exact hJ.stop w' (hk'.trans hk1.symm) rs' b', ?_⟩
      rw [he, List.drop_length] at eq
      cases eq
      have ownN : ∀ x, Own (mpNew w'.m w'.st.length Dn) (w'.st ++ [.lst dsf]) x → Own w'.m w'.st x ∨ x = Dn := fun x z => own_new z
      have bN : Bears w' ⟨w'.K, mpNew w'.m w'.st.length Dn, w'.st ++ [.lst dsf], w'.H, w1.rv⟩ := ⟨fun i hi => mpNew_old hi, by simp, fun _ _ q => q, fun x o q => ⟨⟨q.1.1, fun z => by
        rcases ownN x z with z | z
        · exact q.1.2 z
        · exact q.2 (by rw [z, rv']; exact List.mem_cons_self ..)⟩, fun z => q.2 (by rw [rv']; exact List.mem_cons_of_mem _ z)⟩, rfl⟩
      have cells : ∀ i c, (w'.st ++ [Cell.lst dsf])[i]? = some c → CellOk ⟨w'.K, mpNew w'.m w'.st.length Dn, w'.st ++ [.lst dsf], w'.H, w1.rv⟩ (mpNew w'.m w'.st.length Dn i) c := fun i c hc => by
        rcases at_new hc with ⟨hi, hc⟩ | ⟨hi, hc⟩
        · rw [mpNew_old hi]
          exact cell_bears bN (fun o q _ => q) (fun _ q => q) rfl (rs'.cells i c hc)
        · subst hc hi
          rw [mpNew_new]
          exact ⟨acc, hDa, bN.reps _ _ rd, Nat.le_trans hdl (by rw [he]; exact hJ.len)⟩
      have aN : Aft w1 ⟨w'.K, mpNew w'.m w'.st.length Dn, w'.st ++ [.lst dsf], w'.H, w1.rv⟩ := by
        refine ⟨lat.k, rfl, ⟨cells, fun i j c1 c2 q1 q2 l1 l2 q => ?_, fun x hx => lat.rs.rvs x hx, fun x hx z => ?_⟩, fun i hi => (mpNew_old (Nat.lt_of_lt_of_le hi lat.len)).trans (lat.ext i hi), Nat.le_trans lat.len (by simp), lat.tup, fun x o q => ?_⟩
        · have q : mpNew w'.m w'.st.length Dn i = mpNew w'.m w'.st.length Dn j := q
          rcases at_new q1 with ⟨hi, q1⟩ | ⟨hi, q1⟩
          · rw [mpNew_old hi] at q
            rcases at_new q2 with ⟨hj, q2⟩ | ⟨hj, q2⟩
            · rw [mpNew_old hj] at q
              exact rs'.inj i j c1 c2 q1 q2 l1 l2 q
            · rw [hj, mpNew_new] at q
              exact absurd ⟨i, c1, q1, l1, q⟩ own'
          · rw [hi, mpNew_new] at q
            rcases at_new q2 with ⟨hj, q2⟩ | ⟨hj, q2⟩
            · rw [mpNew_old hj] at q
              exact absurd ⟨j, c2, q2, l2, q.symm⟩ own'
            · rw [hi, hj]
        · rcases ownN x z with z | z
          · exact lat.rs.rvo x hx z
          · exact hnD x hx z
        · have q' := lat.fz x o q
          refine ⟨q'.1, fun z => ?_⟩
          rcases ownN x z with z | z
          · exact q'.2 z
          · subst z; exact absurd (q.1.symm.trans hD) (by simp)
      refine hfin _ aN rfl (.ref Dn) ?_
      simp only [Rep]
      exact ⟨by rw [mpNew_new], by simp⟩
    · have hlt : i < l.length := by omega
      rw [List.drop_eq_getElem_cons hlt] at eq
      obtain ⟨go, yl⟩ := hJ.step w' (hk'.trans hk1.symm) rs' b' i l[i] (by simp [hlt])
      refine .inr ⟨go, fun H' => (m - 1) + (i + 1) = l.length ∧ ∃ (w' : Wd) (ds : List D) (acc : List V), w'.K = X.K ∧ w'.H = H' ∧ RS w' ∧ w'.rv = Dn :: w1.rv ∧ Lat w1 w' ∧ Bears w1 w' ∧ H' Dn = some (.lst acc) ∧ Reps w' ds acc ∧ ds.length ≤ i + 1 ∧ compGo tg tt fe (evWipe env vs) (l.drop (i + 1)) ds w'.st = .ok dsf stf,
        fun H' hN => ⟨m - 1, by omega, hN⟩, fun x H' hx => ?_⟩
      obtain ⟨w2, a2, e2, rfl, em2, rx⟩ := yl x H' hx
      unfold compGo at eq
      cases et : tg l[i] (evWipe env vs) with
      | none => rw [et] at eq; cases eq
      | some e1 =>
        rw [et] at eq
        obtain ⟨bb, s3, eb, eq3⟩ := bind_inv eq
        have eb := noErr_ok eb
        -- after any step of the turn the list so far stands
        have keep : ∀ w3, Aft w' w3 → w3.K = X.K ∧ RS w3 ∧ w3.rv = Dn :: w1.rv ∧ Lat w1 w3 ∧ Bears w1 w3 ∧ w3.H Dn = some (.lst acc) ∧ Reps w3 ds acc := fun w3 a3 => by
          refine ⟨a3.k.trans hk', a3.rs, a3.rv.trans rv', ?_, b'.trans a3.bears, (a3.fz Dn _ ⟨hDa, own'⟩).1, a3.reps rd⟩
          refine lat.trans ⟨a3.k, rfl, ⟨fun i c hc => cell_rv (fun x hx => by rw [a3.rv, rv']; exact List.mem_cons_of_mem _ hx) (a3.rs.cells i c hc), a3.rs.inj, fun x hx => a3.rs.rvs x (by rw [a3.rv, rv']; exact List.mem_cons_of_mem _ hx), fun x hx => a3.rs.rvo x (by rw [a3.rv, rv']; exact List.mem_cons_of_mem _ hx)⟩, a3.ext, a3.len, a3.tup, a3.fz⟩
        refine ht w2 (evWipe env vs) (wipe σ vs) l[i] x e1 _ (a2.k.trans hk') ?_ rx et fun σ2 n2 hw2 => ?_
        · have nb : REnv w' (evWipe env vs) (wipe σ vs) := ⟨((n.after a1).wipe vs).len, fun j d ej => let ⟨v, e1, rv⟩ := ((n.after a1).wipe vs).at_ j d ej; ⟨v, e1, b'.rep _ _ rv⟩⟩
          exact nb.after a2
        · refine ⟨by rw [hw2 vs hv, wipe_wipe], ?_⟩
          refine ⟨w2, e1, a2.k.trans hk', rfl, a2.rs, n2, wp_nov (by rw [e2]; exact eb) fun w3 a3 e3 => ?_⟩
          cases bb with
          | false =>
            refine iteF ⟨by omega, w3, ds, acc, ?_⟩
            obtain ⟨k1, k2, k3, k4, k5, k6, k7⟩ := keep w3 (a2.trans a3)
            exact ⟨k1, rfl, k2, k3, k4, k5, k6, k7, by omega, by rw [e3]; exact eq3⟩
          | true =>
            obtain ⟨y, s4, ey, eq4⟩ := bind_inv eq3
            have ey := noErr_ok ey
            refine iteT ⟨w3, e1, a3.k.trans (a2.k.trans hk'), rfl, a3.rs, n2.after a3, wp_nov (by rw [e3]; exact ey) fun w4 a4 e4 v rv => ?_⟩
            obtain ⟨k1, k2, k3, k4, k5, k6, k7⟩ := keep w4 ((a2.trans a3).trans a4)
            have own4 : ¬ Own w4.m w4.st Dn := k2.rvo Dn (by rw [k3]; exact List.mem_cons_self ..)
            refine ⟨acc, k6, by rw [reps_len k7]; exact Nat.lt_of_le_of_lt hdl (Nat.lt_of_lt_of_le hlt hJ.len), by omega, ⟨w4.K, w4.m, w4.st, upd w4.H Dn (.lst (acc ++ [v])), w4.rv⟩, ds ++ [y], acc ++ [v], k1, rfl, ?_⟩
            -- the write at the reserved address
            have up : ∀ b u, b ≠ Dn → w4.H b = some u → upd w4.H Dn (.lst (acc ++ [v])) b = some u := fun b u hb q => by rw [upd_ne hb]; exact q
            have tupk : ∀ a xs, SqT w4.K w4.H a xs → SqT w4.K (upd w4.H Dn (.lst (acc ++ [v]))) a xs := fun a xs q => by
              rcases q with (q | ⟨o, q⟩) | q
              · exact .inl (.inl (up _ _ (ne_of q k6 (by intro z; cases z)) q))
              · exact .inl (.inr ⟨o, up _ _ (ne_of q k6 (by intro z; cases z)) q⟩)
              · exact .inr q
            have bW : Bears w4 ⟨w4.K, w4.m, w4.st, upd w4.H Dn (.lst (acc ++ [v])), w4.rv⟩ := ⟨fun _ _ => rfl, Nat.le_refl _, tupk, fun x o q => ⟨⟨up _ _ (fun z => q.2 (by rw [z, k3]; exact List.mem_cons_self ..)) q.1.1, q.1.2⟩, q.2⟩, rfl⟩
            have cellk : ∀ i c, w4.st[i]? = some c → CellOk ⟨w4.K, w4.m, w4.st, upd w4.H Dn (.lst (acc ++ [v])), w4.rv⟩ (w4.m i) c := fun i c hc => by
              have q := k2.cells i c hc
              by_cases lv : c.live
              · have hne : w4.m i ≠ Dn := fun z => own4 ⟨i, c, hc, lv, z⟩
                exact cell_bears bW (fun o q _ => up _ _ hne q) (fun xs q => by
                  rcases q with ⟨u, q⟩ | q
                  · exact .inl ⟨u, up _ _ hne q⟩
                  · exact .inr q) rfl q
              · cases c with
                | ro l' =>
                  obtain ⟨xs, q1, q2, q3⟩ := q
                  refine ⟨xs, ?_, bW.reps _ _ q2, q3⟩
                  rcases q1 with ⟨u, q1⟩ | q1
                  · exact .inl ⟨u, up _ _ (ne_of q1 k6 (by intro z; cases z)) q1⟩
                  · exact .inr q1
                | dead => trivial
                | _ => exact absurd trivial lv
            have rsW : RS ⟨w4.K, w4.m, w4.st, upd w4.H Dn (.lst (acc ++ [v])), w4.rv⟩ := ⟨cellk, k2.inj, fun x hx z => by
                by_cases hxD : x = Dn
                · subst hxD; have z : upd w4.H x (.lst (acc ++ [v])) x = none := z; rw [upd_same] at z; cases z
                · have z : upd w4.H Dn (.lst (acc ++ [v])) x = none := z; rw [upd_ne hxD] at z; exact k2.rvs x hx z, k2.rvo⟩
            refine ⟨rsW, k3, ?_, k5.trans bW, upd_same, ?_, by rw [List.length_append]; simp; omega, by rw [e4]; exact eq4⟩
            · -- up to the reserved address all is later
              refine ⟨k4.k, rfl, ⟨fun i c hc => cell_rv (w := ⟨w4.K, w4.m, w4.st, upd w4.H Dn (.lst (acc ++ [v])), w4.rv⟩) (fun x hx => by show x ∈ w4.rv; rw [k3]; exact List.mem_cons_of_mem _ hx) (cellk i c hc), k2.inj, fun x hx z => ?_, fun x hx => k2.rvo x (by rw [k3]; exact List.mem_cons_of_mem _ hx)⟩, k4.ext, k4.len, fun a xs q => tupk a xs (k4.tup a xs q), fun x o q => ?_⟩
              · have z : upd w4.H Dn (.lst (acc ++ [v])) x = none := z
                rw [upd_ne (hnD x hx)] at z
                exact k2.rvs x (by rw [k3]; exact List.mem_cons_of_mem _ hx) z
              · have q' := k4.fz x o q
                exact ⟨up _ _ (fun z => by rw [z] at q; exact absurd (q.1.symm.trans hD) (by simp)) q'.1, q'.2⟩
            · exact reps_app (bW.reps _ _ k7) (by simp only [Reps]; exact ⟨v, [], rfl, bW.rep _ _ rv, rfl⟩)
theorem ds_setCompC (i : Nat) {y : Str} {py spos : Pos} {elt tgt iter : Expr} {scope : Scope} {own : List (Str × Nat)} {t : TG} {tg : D → Ev → Option Ev} {is : List Nat} {fi : Ev → M (List D)} {fe : Ev → M D} (hc : X.calm = true) (hN : X.N.Nodup) (hy : X.N[i]? = some y) (hyl : X.env.scope.names.lookup y = some .local)
    (hsw : swapsWith (.ListComp elt [⟨tgt, iter, [], 0⟩] scope pos) (some (.Name y py)) spos.line X.env = pure true) (hi : DI X W tgt iter fi) (ok : BlkOk X.N X.env.scope scope own)
    (hg : Blk X scope fun X' => PG X' tgt t) (ht : TgOk X.K t tg is) (hv : ∀ i ∈ is, i ∈ own.map (·.2)) (he : Blk X scope fun X' => DE X' W0 elt fe) (hs : ∀ x, foldedSetIterable iter X.env x = pure x := by intro _; rfl) :
    DS X W (.Assign [.Name y py] (.ListComp elt [⟨tgt, iter, [], 0⟩] scope pos) spos) (sAsg i (eCompC (own.map (·.2)) fi tg (fun _ => pure true) fe)) := by
  refine PS.imp' (ps_setLc (tt := rdT X.K W0 fun _ => pure true) (te := rdE X.K W0 fe) hc hN hy hyl hsw hi ok hg (fun s H C cl fp => ?_) he hs) fun D' σ H h => ?_
  · exact ⟨fun pins s σ H Q I h => pts_nil.run pins s σ H Q I (by
      obtain ⟨w, env, hk, rfl, r, n, h⟩ := h
      exact Wp.ok_ (a := true) r h)⟩
  · exact comp_rdC ht hv (asg_rd h)
/-! ## targets ((a, b), c) -/
def tgPP (i j k : Nat) : D → Ev → Option Ev := fun d env => match d with
  | .tup [.tup [a, b], c] => some (((env.set i (some a)).set j (some b)).set k (some c))
  | _ => none
theorem tgok_PP (K : PySem.W.Frag) (i j k : Nat) : TgOk K (gTup K 2 (gCons (gTup K 2 (gCons (gName i) (gCons (gName j) gNil))) (gCons (gName k) gNil))) (tgPP i j k) [i, j, k] := fun w env σ d v env' Q hk n r e q => by
  unfold tgPP at e
  split at e
  · rename_i a b c
    cases e
    simp only [Rep] at r
    obtain ⟨x, xs, rfl, s, r, _⟩ := r
    obtain ⟨u1, u2, rfl, r1, r2⟩ := reps2 r
    simp only [Rep] at r1
    obtain ⟨y, ys, rfl, s1, rr1, _⟩ := r1
    obtain ⟨t1, t2, rfl, q1, q2⟩ := reps2 rr1
    refine ⟨x, [.ref y, u2], rfl, by rw [← hk]; exact s, rfl, .ref y, [u2], rfl, y, [t1, t2], rfl, by rw [← hk]; exact s1, rfl, t1, [t2], rfl, t2, [], rfl, rfl, u2, [], rfl, rfl, ?_⟩
    refine q _ (((n.set i q1).set j q2).set k r2) fun vs hv => ?_
    rw [wipe_set (hv k (by simp)), wipe_set (hv j (by simp)), wipe_set (hv i (by simp))]
  · cases e
end
end G
end

section
set_option Elab.async false
set_option linter.all false
set_option maxRecDepth 100000
set_option maxHeartbeats 2000000
namespace PySem
open Sem (wp)
open AutoSeq1 (wpAny_loadPart')
/-! ## enumerate(a tuple) -/
theorem meets_enumerate_newT (l : Addr) (items : Array Value) (n : Nat) (dct : Option Addr) (sl : Array (Option Value)) :
    Meets (Builtin.«enumerate.__new__» ⟨[.type "enumerate", .ref l], []⟩) (fun _ R s => s.heap.get? l = some { cls := .type "tuple", dict := dct, data := .seq items n, slots := sl } ∧
      R (.ok (.ret (.ref (s.heap.push { cls := .type "tuple_iterator", data := .fields #[.ref l, .int 0 0] }).objs.size)))
        { s with heap := (s.heap.push { cls := .type "tuple_iterator", data := .fields #[.ref l, .int 0 0] }).push { cls := .type "enumerate", data := .fields #[.none, .bool false, .ref s.heap.objs.size, rawInt 0, .none, .none] } }) :=
  .of_wp fun prog w A R s h => by
    obtain ⟨hp, g, d, tk, os⟩ := s; obtain ⟨hl, h⟩ := h
    have hsub := sub_enumerate
    have hL : Heap.IsTuple (Shared.heap ⟨hp, g, d, tk, os⟩) l items := ⟨_, hl, rfl, n, rfl⟩
    wp_walk using wpAny_loadPart' hl
    refine wpAny_stack_any fun st => wpAny_pure ?_
    split
    · rename_i c _ _ _ _ _
      cases (c == Value.type "enumerate")
      · wp_walk using wpAny_loadPart' hl, wpAny_pyIter_tuple hL
        exact ⟨_, rfl, h⟩
      · wp_walk using wpAny_loadPart' hl, wpAny_pyIter_tuple hL
        exact ⟨_, rfl, h⟩
    · wp_walk using wpAny_loadPart' hl, wpAny_pyIter_tuple hL
      exact ⟨_, rfl, h⟩
section
variable {prog : Program} {w : World} {A : Around} {E : Value → Shared → Prop} {s : Shared}
theorem call_enumerate_tuple {l : Addr} {items : Array Value} {Q : Value → Shared → Prop} (hL : s.heap.IsTuple l items)
    (h : ∀ h', IsEnum h' (s.heap.objs.size + 1) s.heap.objs.size 0 .none → h'.IsTupleIter s.heap.objs.size l 0 → h'.objs.size = s.heap.objs.size + 2 →
      (∀ b o, s.heap.get? b = some o → h'.get? b = some o) → Q (.ref (s.heap.objs.size + 1)) { s with heap := h' }) :
    wpAny (model prog w) A (call (.type "enumerate") [.ref l]) Q E s := by
  obtain ⟨⟨c, dct, dt, sl⟩, hl, hc, n, hd⟩ := hL
  replace hc : c = .type "tuple" := hc
  replace hd : dt = .seq items n := hd
  subst hc hd
  refine callType_new F.called_enumerate (by decide) (F.typeCall_enumerate_1 _) (F.newCall_enumerate_1 _) (fun obj => F.args_object_init_2 obj _) F.entry_enumerate_new
    (meets_enumerate_newT l items n dct sl) ⟨hl, ?_⟩
  have hz : (s.heap.push { cls := .type "tuple_iterator", data := .fields #[.ref l, .int 0 0] }).objs.size = s.heap.objs.size + 1 := Heap.size_push ..
  show _ ∧ _
  rw [hz]
  have he : IsEnum ((s.heap.push { cls := .type "tuple_iterator", data := .fields #[.ref l, .int 0 0] }).push
      { cls := .type "enumerate", data := .fields #[.none, .bool false, .ref s.heap.objs.size, rawInt 0, .none, .none] }) (s.heap.objs.size + 1) s.heap.objs.size 0 .none := by
    have := Heap.get?_push_size (s.heap.push { cls := .type "tuple_iterator", data := .fields #[.ref l, .int 0 0] })
      (o := { cls := .type "enumerate", data := .fields #[.none, .bool false, .ref s.heap.objs.size, rawInt 0, .none, .none] }) rfl
    rw [hz] at this; exact this
  refine ⟨⟨_, he, rfl⟩, h _ he ⟨_, Heap.get?_push_of_some _ (Heap.get?_push_size _ rfl), rfl, rfl⟩ (by rw [Heap.size_push, hz]) fun b o x => Heap.get?_push_of_some _ (Heap.get?_push_of_some _ x)⟩
end
end PySem
namespace G
open PySem PySem.Spec PyProof.Rows L2
def IteT (K : PySem.W.Frag) (a : Addr) : It :=
  ⟨fun i H => ∃ (xs : List V) (x : V), SqT K H a xs ∧ xs[i]? = some x, fun i H v H' => ∃ T x, v = .ref T ∧ H T = none ∧ H' = upd H T (.tup [.int (i : Nat), x]) ∧ ∀ xs, SqT K H a xs → xs[i]? = some x, fun i H => ∃ xs : List V, SqT K H a xs ∧ xs.length ≤ i⟩
theorem turn_enumT {P : Program} {w : World} {K : PySem.W.Frag} {elts : List Expr} {kk : Nat} {tpos : Pos} (a e it : Addr) :
    Turn P w K (.Tuple elts kk tpos) (IteT K a) [e, it] e (fun i h => (∃ old, IsEnum h e it ((i : Nat) : Int) old) ∧ h.IsTupleIter it a i ∧ e ≠ it) where
  mem := by simp
  obj := fun i h st b hb => by
    obtain ⟨⟨old, he⟩, ⟨o, ho, hc, hd⟩, _⟩ := st
    have e' : b = e ∨ b = it := by simpa using hb
    rcases e' with z | z
    · rw [z]; exact ⟨_, he, fun v q => nomatch q⟩
    · rw [z]; exact ⟨o, ho, fun v q => by rw [hd] at q; cases q⟩
  keep := fun i h h' st k => let ⟨⟨old, he⟩, hi, hne⟩ := st; ⟨⟨old, k e (by simp) _ he⟩, hi.at fun o q => k it (by simp) o q, hne⟩
  item := by
    intro X hP hw hK hc i pins s σ H E I hf st hg
    subst hP hw hK
    obtain ⟨⟨old, he⟩, hit, hne⟩ := st
    obtain ⟨xs, x, hq, hx⟩ := hg
    obtain ⟨its, rv, p, hz⟩ := I.tuple hq
    obtain ⟨u, hu, ru⟩ := rv.get hx
    have pT : s.heap.IsTuple a its.toArray := p
    have hel : e < s.heap.objs.size := Heap.lt_size he
    have hil : it < s.heap.objs.size := by obtain ⟨_, q, _⟩ := hit; exact Heap.lt_size q
    have hai : a ≠ it := fun z => by
      obtain ⟨o1, h1, c1, _⟩ := hit
      obtain ⟨o2, h2, c2, _⟩ := pT
      rw [z, h1] at h2
      cases h2
      rw [c1] at c2
      exact absurd (Value.type.inj c2) (by decide)
    have hae : e ≠ a := fun z => by
      obtain ⟨o2, h2, c2, _⟩ := pT
      have he' : s.heap.get? e = _ := he
      rw [← z, he'] at h2
      cases h2
      exact absurd (Value.type.inj c2) (by decide)
    have D := Draws.tuple (prog := X.prog) (w := X.w) (A := X.A.in1) (I.ok.hd hc) it a hai its.toArray
    refine wpAny_pyNext_enum_itemD D he ⟨hit, pT⟩ (by have := (List.getElem?_eq_some_iff.mp hu).1; simpa using this) hne (by simp [hne, hae]) fun x' h' tk hP' ho hit' hT hsz hk => ?_
    have ex : x' = u := by
      have h1 : its.toArray[i]? = some x' := hP'
      have h2 : its.toArray[i]? = some u := by simpa using hu
      rw [h1] at h2
      cases h2; rfl
    subst ex
    refine ⟨_, rfl, wpAny_letOwnedTupleGo_enum (s := { s with heap := h', toks := tk + 1 }) ho fun h'' he' sb => ?_⟩
    have hT2 : h''.get? s.heap.objs.size = some { cls := .type "tuple", data := .seq #[.int i tk, x'] } := (sb.2 _ (Nat.ne_of_gt hel)).trans hT
    have new : ObjOk X.prog X.w (upd H s.heap.objs.size (.tup [.int (i : Nat), x])) h'' s.heap.objs.size (.tup [.int (i : Nat), x]) :=
      ⟨by show 2 ≤ sizeLine; decide, [.int i tk, x'], .cons ⟨_, rfl⟩ (.cons ru .nil), ⟨_, hT2, rfl, _, rfl⟩⟩
    have I1 : Inv X pins σ (upd H s.heap.objs.size (.tup [.int (i : Nat), x])) { s with heap := h'', toks := tk + 1 } :=
      I.turnedNew (ch := [e, it]) (fun b ob hb q => (sb.2 b (fun z => hb (by simp [z]))).trans (hk b ob (fun z => hb (by simp [z])) (fun z => hb (by simp [z])) q)) hf (Nat.le_refl _) new
    refine ⟨.ref s.heap.objs.size, _, I1, rfl, ⟨_, x, rfl, I.hok.fresh (Nat.le_refl _), rfl, fun ys hy => by rw [I.tuple_inj hy hq]; exact hx⟩, ⟨⟨x', ?_⟩, hit'.1.at fun o q => (sb.2 it (Ne.symm hne)).trans q, hne⟩, fun b hb => ?_⟩
    · have e1 : ((i + 1 : Nat) : Int) = (i : Int) + 1 := by omega
      rw [e1]; exact he'
    · have hb' : b < s.heap.objs.size := by
        have e' : b = e ∨ b = it := by simpa using hb
        rcases e' with z | z
        · rw [z]; exact hel
        · rw [z]; exact hil
      rw [upd_ne (Nat.ne_of_lt hb')]
      exact (hf b hb).1
  done := by
    intro X hP hw hK hc i pins s σ H E I hf st hg
    subst hP hw hK
    obtain ⟨⟨old, he⟩, hit, hne⟩ := st
    obtain ⟨xs, hq, hx⟩ := hg
    obtain ⟨its, rv, p, hz⟩ := I.tuple hq
    have pT : s.heap.IsTuple a its.toArray := p
    obtain ⟨f0, f1, f2, f3, f4, f5⟩ := hf it (by simp)
    have hl := rv.length
    have hai : a ≠ it := fun z => by
      obtain ⟨o1, h1, c1, _⟩ := hit
      obtain ⟨o2, h2, c2, _⟩ := pT
      rw [z, h1] at h2
      cases h2
      rw [c1] at c2
      exact absurd (Value.type.inj c2) (by decide)
    have D : Draws X.prog X.w X.A.in1 it [it, a] i (fun k v => True) (fun k h => k = i ∧ h.IsTupleIter it a i ∧ h.IsTuple a its.toArray) := by
      refine ⟨fun _ _ st => let ⟨o, ho, _⟩ := st.2.1; ⟨o, ho⟩, fun _ _ _ st hk => ⟨st.1, st.2.1.at fun o e => hk it (by simp) o e, st.2.2.at fun o e => hk a (by simp) o e⟩, fun k s Q E hi st hQ => ?_, fun s Q E st hE => ?_⟩
      · exact absurd st.1 (by omega)
      · exact wpAny_nextOf_tuple_end (I.ok.hd hc) st.2.1 st.2.2 (by simp; omega) hE
    exact wpAny_pyNext_enum_endD D he ⟨rfl, hit, pT⟩ fun h' eb => ⟨rfl, I.turned (t' := s.toks) (fun b o hb q => eb b o hb q) f0 f1 f3 f4 f5⟩
  self := fun A i s Q E st h => let ⟨⟨_, he⟩, _⟩ := st; wpAny_pyIter_enum he h
def iEnumTL (K : PySem.W.Frag) (ta : TA) : TI := fun σ H R => ta σ H fun vs H1 => ∃ a xs, vs = [.ref a] ∧ SqT K H1 a xs ∧ R (IteT K a) H1
theorem pi_enumT {X : Cx} {e : Expr} {ta : TA} {p pos tpos : Pos} {elts : List Expr} {kk : Nat} (hg : Gl X "enumerate") (hm : X.mg "enumerate" = none) (ha : PA X [e] ta) (hs : starEach [e] X.env = [(false, eval e X.env)] := by rfl) :
    PI X (.Tuple elts kk tpos) (.Call (.Name "enumerate" p) [e] [] pos) (iEnumTL X.K ta) := by
  refine ⟨fun pins s σ H R I h => ?_⟩
  refine Call_ (ld_blt I hg hm boot_enumerate (PyProof.Rows.callWith_type1 (thn (ha.run pos pins s σ H _ I h) fun us s1 ⟨vs, H1, I1, r1, q1⟩ => ?_) hs rfl))
  obtain ⟨a, xs, ex, hq, q⟩ := q1
  subst ex
  cases r1 with
  | cons r rr =>
    cases rr
    cases r
    obtain ⟨its, rv, p', hz⟩ := I1.tuple hq
    refine call_enumerate_tuple (show s1.heap.IsTuple a its.toArray from p') fun h' he hit hsz hk => wpAny_pyIter_enum he ?_
    have I2 : Inv X pins σ H1 { s1 with heap := h' } := I1.kept (t' := s1.toks) hk
    refine ⟨s1.heap.objs.size + 1, [s1.heap.objs.size + 1, s1.heap.objs.size], _, _, H1, rfl, I2, turn_enumT a (s1.heap.objs.size + 1) s1.heap.objs.size, ⟨⟨.none, he⟩, hit, Nat.succ_ne_self _⟩, fun b hb => ?_, q⟩
    have e' : b = s1.heap.objs.size + 1 ∨ b = s1.heap.objs.size := by simpa using hb
    have hle : s1.heap.objs.size ≤ b := by
      rcases e' with z | z
      · rw [z]; exact Nat.le_add_right _ _
      · rw [z]; exact Nat.le_refl _
    exact I1.fpOk hle (I1.hok.fresh hle)
def iEnumT (f : Ev → M D) : Ev → M (List D) := fun env => do
  let d ← f env
  let l ← itemsT d
  pure (pairsD l)
theorem walks_enumT {w : Wd} {a : Addr} {l : List D} (r : Rep w (.tup l) (.ref a)) : Walks w (IteT w.K a) (pairsD l) where
  step := fun w' hk rs b i d e => by
    have r' := b.rep _ _ r
    simp only [Rep] at r'
    obtain ⟨a', xs, ea, s, rr, _⟩ := r'
    cases ea
    unfold pairsD at e
    rw [List.getElem?_map, List.getElem?_zipIdx] at e
    cases q : l[i]? with
    | none => rw [q] at e; cases e
    | some d0 =>
      rw [q] at e
      simp only [Option.map_some, Nat.zero_add, Option.some.injEq] at e
      subst e
      obtain ⟨x0, ex, rx⟩ := reps_at rr q
      have sl : SqT w.K w'.H a xs := by rw [← hk]; exact s
      refine ⟨⟨xs, x0, sl, ex⟩, fun y H' hy => ?_⟩
      obtain ⟨T, x1, rfl, hT, rfl, hx⟩ := hy
      have e1 := hx xs sl
      rw [ex] at e1
      cases e1
      refine ⟨⟨w'.K, w'.m, w'.st, upd w'.H T (.tup [.int (i : Nat), x0]), w'.rv⟩, aft_new (K := w'.K) (m := w'.m) (st := w'.st) (H := w'.H) (rv := w'.rv) rs hT, rfl, rfl, rfl, ?_⟩
      refine rep_newT rs hT ?_ (Nat.le_of_ble_eq_true rfl)
      simp only [Reps]
      exact ⟨_, _, rfl, by simp [Rep], _, _, rfl, rx, rfl⟩
  stop := fun w' hk rs b => by
    have r' := b.rep _ _ r
    simp only [Rep] at r'
    obtain ⟨a', xs, ea, s, rr, _⟩ := r'
    cases ea
    refine ⟨xs, by rw [← hk]; exact s, ?_⟩
    unfold pairsD
    simp [reps_len rr]
  len := by
    simp only [Rep] at r
    obtain ⟨_, _, _, _, _, h⟩ := r
    unfold pairsD
    simpa using h
section
variable {X : Cx} {W : XW} {a : Expr} {pos p : Pos} {fa : Ev → M D}
theorem itemsT_wp {w : Wd} {d : D} {P : List D → Wd → Prop} {V' : Str → Wd → Prop} (rs : RS w) (h : Wp w (itemsT d w.st) P V') : ∃ l, d = .tup l ∧ P l w := by
  cases d with
  | tup l => exact ⟨l, rfl, Wp.ok_ rs h⟩
  | _ => exact h.elim
theorem di_enumT {elts : List Expr} {kk : Nat} {tpos : Pos} (hg : Gl X "enumerate") (hm : X.mg "enumerate" = none) (h : DE X W a fa) (hst : starEach [a] X.env = (false, eval a X.env) :: starEach [] X.env := by rfl) : DI X W (.Tuple elts kk tpos) (.Call (.Name "enumerate" p) [a] [] pos) (iEnumT fa) := by
  refine PI.imp' (pi_enumT hg hm (pa_cons (es := []) h pa_nil hst) (hs := hst)) fun σ H R h => ?_
  obtain ⟨w, env, hk, rfl, r, n, h⟩ := h
  refine ⟨w, env, hk, rfl, r, n, (Wp.bind h).imp fun d w1 a1 h1 v rv => ?_⟩
  obtain ⟨l, rfl, h2⟩ := itemsT_wp a1.rs (Wp.bind h1)
  have rv0 := rv
  simp only [Rep] at rv
  obtain ⟨q, xs, rfl, s, rr, hl⟩ := rv
  refine ⟨q, xs, rfl, by rw [← hk, ← a1.k]; exact s, ?_⟩
  have wk := walks_enumT rv0
  rw [a1.k.trans hk] at wk
  exact Wp.ok_ (a := pairsD l) a1.rs h2 _ wk
end
end G
end

section
set_option Elab.async false
set_option linter.all false
set_option autoImplicit false
set_option maxRecDepth 100000
set_option maxHeartbeats 1000000
namespace G
open PySem PySem.Spec PyProof.Rows L2
/-! ## dict(pairs)[k] -/
def pairK : D → Option (Key × D)
  | .tup [.str k, v] => some (.inr k, v)
  | _ => none
def pairsK : List D → Option (List (Key × D))
  | [] => some []
  | d :: r => match pairK d, pairsK r with
    | some kv, some l => some (kv :: l)
    | _, _ => none
def asPairs : D → M (List (Key × D)) := fun d => match d with
  | .lst l => match pairsK l with
    | some kvs => if (kvs.map (·.1)).Nodup then pure kvs else M.stuck
    | none => M.stuck
  | _ => M.stuck
def eDictGet (fa fb : Ev → M D) : Ev → M D := fun env => do
  let d ← fa env
  let kvs ← asPairs d
  let k ← fb env
  lift fun _ => (keyOf k).bind fun key => valD kvs key
theorem asPairs_wp {w : Wd} {d : D} {P : List (Key × D) → Wd → Prop} {V' : Str → Wd → Prop} (rs : RS w) (h : Wp w (asPairs d w.st) P V') : ∃ l kvs, d = .lst l ∧ pairsK l = some kvs ∧ (kvs.map (·.1)).Nodup ∧ P kvs w := by
  cases d with
  | lst l =>
    cases e : pairsK l with
    | none => simp only [asPairs, e] at h; exact h.elim
    | some kvs =>
      simp only [asPairs, e] at h
      by_cases hn : (kvs.map (·.1)).Nodup
      · rw [if_pos hn] at h
        exact ⟨l, kvs, rfl, e, hn, Wp.ok_ rs h⟩
      · rw [if_neg hn] at h
        exact h.elim
  | _ => exact h.elim
theorem pairs_rep {w : Wd} : ∀ {l : List D} {kvs : List (Key × D)} {xs : List V}, Reps w l xs → pairsK l = some kvs → ∃ (ps : List Addr) (us : List (Key × V)), xs = ps.map V.ref ∧ Paired (fun p kv => SqT w.K w.H p [kV kv.1, kv.2]) ps us ∧ RepK w kvs us
  | [], kvs, xs, h, e => by
    cases e
    simp only [Reps] at h
    subst h
    exact ⟨[], [], rfl, .nil, rfl⟩
  | d :: l, kvs, xs, h, e => by
    simp only [Reps] at h
    obtain ⟨x, ys, rfl, r1, r2⟩ := h
    simp only [pairsK] at e
    cases q1 : pairK d with
    | none => rw [q1] at e; cases e
    | some kv =>
      cases q2 : pairsK l with
      | none => rw [q1, q2] at e; cases e
      | some kvs' =>
        rw [q1, q2] at e
        cases e
        obtain ⟨ps, us, rfl, pp, rk⟩ := pairs_rep r2 q2
        unfold pairK at q1
        split at q1
        · rename_i k v
          cases q1
          simp only [Rep] at r1
          obtain ⟨a, zs, rfl, sq, rz, _⟩ := r1
          obtain ⟨u1, u2, rfl, ru1, ru2⟩ := reps2 rz
          simp only [Rep] at ru1
          subst ru1
          exact ⟨a :: ps, (.inr k, u2) :: us, rfl, .cons sq pp, ⟨(.inr k, u2), us, rfl, rfl, ru2, rk⟩⟩
        · cases q1
theorem repK_keys {w : Wd} : ∀ {l : List (Key × D)} {us : List (Key × V)}, RepK w l us → us.map (·.1) = l.map (·.1)
  | [], us, h => by simp only [RepK] at h; subst h; rfl
  | x :: l, us, h => by
    obtain ⟨y, ys, rfl, e, _, rs⟩ := h
    simp only [List.map_cons, e, repK_keys rs]
section
variable {X : Cx} {W : XW} {a b : Expr} {pos p cpos : Pos} {fa fb : Ev → M D}
theorem de_dictGet (hu : X.A.units + 1 < cLine) (hcalm : X.calm = true) (hg : Gl X "dict") (hm : X.mg "dict" = none) (ha : DE X W a fa) (hb : DE X W b fb) (hs : NoSl b := by intro _ _; rfl)
    (he : starEach [a] X.env = (false, eval a X.env) :: starEach [] X.env := by rfl) (hpl : (backTo cpos (starEach [] X.env)).any (·.1) = false := by rfl) :
    DE X W (.Subscript (.Call (.Name "dict" p) [a] [] cpos) b pos) (eDictGet fa fb) :=
  PE.imp' (pe_dget hu (pe_callTy (call_dictP hcalm) hg hm (by decide +kernel) (pa_cons ha pa_nil he) (by decide) (by decide) he hpl) hb hs) fun σ H Q h => by
    obtain ⟨w, env, hk, rfl, r, n, h⟩ := h
    refine ⟨w, env, hk, rfl, r, n, (Wp.bind h).imp fun d w1 a1 h1 v rv => ?_⟩
    obtain ⟨l, kvs, rfl, ek, nd, h2⟩ := asPairs_wp a1.rs (Wp.bind h1)
    simp only [Rep] at rv
    obtain ⟨q, xs, rfl, fz, rr, hl⟩ := rv
    obtain ⟨ps, us, rfl, pp, rk⟩ := pairs_rep rr ek
    have hk1 : w1.K = X.K := a1.k.trans hk
    refine ⟨q, ps, us, rfl, SqL.of fz.1.1, by rw [← hk1]; exact pp, fun p' hp => ?_⟩
    have em : mergeK [] us = us := by
      have := merge_nodup (kvs := us) (acc := []) (by simpa [repK_keys rk] using nd)
      simpa using this
    rw [em]
    have a2 : Aft w1 ⟨w1.K, w1.m, w1.st, upd w1.H p' (.dK us), w1.rv⟩ := aft_new a1.rs hp
    have f2 : Fz ⟨w1.K, w1.m, w1.st, upd w1.H p' (.dK us), w1.rv⟩ p' (.dK us) := fz_new (w := w1) (o := .dK us) a1.rs hp
    refine ⟨⟨w1.K, w1.m, w1.st, upd w1.H p' (.dK us), w1.rv⟩, env, hk1, rfl, a2.rs, (n.after a1).after a2, ((Wp.bind h2).after a2).imp fun y w3 a3 h3 u ru => ?_⟩
    have q3 := Wq.of h3
    obtain ⟨d', e⟩ := wq_some q3
    cases kk : keyOf y with
    | none => rw [kk] at e; cases e
    | some key =>
      rw [kk] at e
      have rk3 : RepK w3 kvs us := a3.bears.repK _ _ (a2.bears.repK _ _ rk)
      obtain ⟨z, ez, rz⟩ := valD_rep rk3 e
      refine ⟨p', z, rfl, by rw [keyOf_rep kk ru, ← ez]; exact DGet.k (a3.fz p' _ f2).1, ?_⟩
      exact q3.here a3.rs (by rw [kk]; exact e) rz
end
end G
end

section
set_option Elab.async false
set_option linter.all false
set_option maxRecDepth 100000
set_option maxHeartbeats 2000000
namespace G
open PySem PySem.Spec PyProof.Rows L2
/-! ## an order of keys: a place, a name -/
abbrev SK := List Int × Str
def ofS (z : Str) : List Int := z.cps.toList.map Int.ofNat
theorem ofS_inj {a b : Str} (h : ofS a = ofS b) : a = b := by
  obtain ⟨⟨a⟩⟩ := a
  obtain ⟨⟨b⟩⟩ := b
  unfold ofS at h
  have : a = b := by
    have inj : Function.Injective Int.ofNat := fun x y e => Int.ofNat.inj e
    exact (List.map_inj_right (fun x y e => inj e)).mp h
  rw [this]
def lexK (a b : SK) : Bool := if a.1 = b.1 then HT.lexLt (ofS a.2) (ofS b.2) else HT.lexLt a.1 b.1
theorem lx_irr : ∀ l, HT.lexLt l l = false
  | [] => rfl
  | x :: l => by simp [HT.lexLt, lx_irr l]
theorem lx_asy : ∀ l m, HT.lexLt l m = true → HT.lexLt m l = false
  | [], [], h => by cases h
  | [], _ :: _, _ => rfl
  | _ :: _, [], h => by cases h
  | x :: l, y :: m, h => by
    simp only [HT.lexLt] at h ⊢
    by_cases e : x = y
    · subst e; simp only [if_true] at h ⊢; exact lx_asy l m h
    · rw [if_neg e] at h; rw [if_neg (Ne.symm e)]
      have := of_decide_eq_true h
      exact decide_eq_false (by omega)
theorem lx_tri : ∀ l m, HT.lexLt l m = false → HT.lexLt m l = false → l = m
  | [], [], _, _ => rfl
  | [], _ :: _, h, _ => by cases h
  | _ :: _, [], _, h => by cases h
  | x :: l, y :: m, h, k => by
    simp only [HT.lexLt] at h k
    by_cases e : x = y
    · subst e; simp only [if_true] at h k; rw [lx_tri l m h k]
    · rw [if_neg e] at h; rw [if_neg (Ne.symm e)] at k
      have h1 := of_decide_eq_false h
      have h2 := of_decide_eq_false k
      omega
theorem lx_tr : ∀ l m n, HT.lexLt l m = true → HT.lexLt m n = true → HT.lexLt l n = true
  | [], [], _, h, _ => by cases h
  | [], _ :: _, [], _, h => by cases h
  | [], _ :: _, _ :: _, _, _ => rfl
  | _ :: _, [], _, h, _ => by cases h
  | _ :: _, _ :: _, [], _, h => by cases h
  | x :: l, y :: m, z :: n, h, k => by
    simp only [HT.lexLt] at h k ⊢
    by_cases e : x = y
    · subst e
      simp only [if_true] at h
      by_cases f : x = z
      · subst f; simp only [if_true] at k ⊢; exact lx_tr l m n h k
      · rw [if_neg f] at k ⊢; exact k
    · rw [if_neg e] at h
      have h1 := of_decide_eq_true h
      by_cases f : y = z
      · subst f; rw [if_neg e]; exact h
      · rw [if_neg f] at k
        have k1 := of_decide_eq_true k
        rw [if_neg (by omega)]
        exact decide_eq_true (by omega)
theorem lk_tri {a b : SK} (h : lexK a b = false) (k : lexK b a = false) : a = b := by
  unfold lexK at h k
  by_cases e : a.1 = b.1
  · rw [if_pos e] at h; rw [if_pos e.symm] at k
    exact Prod.ext e (ofS_inj (lx_tri _ _ h k))
  · rw [if_neg e] at h; rw [if_neg (Ne.symm e)] at k
    exact absurd (lx_tri _ _ h k) e
theorem lk_asy {a b : SK} (h : lexK a b = true) : lexK b a = false := by
  unfold lexK at h ⊢
  by_cases e : a.1 = b.1
  · rw [if_pos e] at h; rw [if_pos e.symm]; exact lx_asy _ _ h
  · rw [if_neg e] at h; rw [if_neg (Ne.symm e)]; exact lx_asy _ _ h
theorem lk_irr (a : SK) : lexK a a = false := by unfold lexK; rw [if_pos rfl]; exact lx_irr _
theorem lk_tr {a b c : SK} (h : lexK a b = true) (k : lexK b c = true) : lexK a c = true := by
  unfold lexK at h k ⊢
  by_cases e : a.1 = b.1
  · rw [if_pos e] at h
    by_cases f : b.1 = c.1
    · rw [if_pos f] at k; rw [if_pos (e.trans f)]; exact lx_tr _ _ _ h k
    · rw [if_neg f] at k; rw [e, if_neg f]; exact k
  · rw [if_neg e] at h
    by_cases f : b.1 = c.1
    · rw [if_pos f] at k; rw [← f, if_neg e]; exact h
    · rw [if_neg f] at k
      have z := lx_tr _ _ _ h k
      rw [if_neg (fun q => by rw [q, lx_irr] at z; cases z)]
      exact z
theorem lk_swo {α : Type} (k : α → SK) : SrtO.Swo fun v u => lexK (k v) (k u) := by
  refine ⟨fun x y h => lk_asy h, fun x y z h1 h2 => ?_⟩
  show lexK (k z) (k x) = false
  cases q : lexK (k z) (k x) with
  | false => rfl
  | true =>
    cases p : lexK (k x) (k y) with
    | true =>
      have := lk_tr q p
      rw [this] at h2; cases h2
    | false =>
      have e := lk_tri p h1
      rw [← e] at h2
      rw [q] at h2; cases h2
theorem ltS_eq (a b : Str) : decide (a.cps.toList < b.cps.toList) = HT.lexLt (ofS a) (ofS b) := by
  unfold ofS
  generalize a.cps.toList = l
  generalize b.cps.toList = m
  induction l generalizing m with
  | nil => cases m <;> simp [HT.lexLt]
  | cons x l ih =>
    cases m with
    | nil => simp [HT.lexLt]
    | cons y m =>
      simp only [List.map_cons, HT.lexLt, Int.ofNat_eq_natCast]
      by_cases e : x = y
      · subst e
        simp only [if_true, ← ih m]
        exact decide_eq_decide.mpr (by rw [List.cons_lt_cons_iff]; simp)
      · rw [if_neg (by omega)]
        refine decide_eq_decide.mpr ?_
        rw [List.cons_lt_cons_iff]
        constructor
        · rintro (h | ⟨h, _⟩)
          · omega
          · exact absurd h e
        · exact fun h => .inl (by omega)
/-! ## a sort -/
section
variable {α β : Type}
def insB (lt : α → α → Bool) (x : α) : List α → List α
  | [] => [x]
  | y :: l => if lt y x then y :: insB lt x l else x :: y :: l
def isort (lt : α → α → Bool) : List α → List α
  | [] => []
  | x :: l => insB lt x (isort lt l)
theorem insB_perm (lt : α → α → Bool) (x : α) : ∀ l, (insB lt x l).Perm (x :: l)
  | [] => .refl _
  | y :: l => by
    unfold insB
    split
    · exact ((insB_perm lt x l).cons y).trans (.swap x y l)
    · exact .refl _
theorem isort_perm (lt : α → α → Bool) : ∀ l, (isort lt l).Perm l
  | [] => .refl _
  | x :: l => (insB_perm lt x _).trans ((isort_perm lt l).cons x)
theorem insB_srtd {lt : α → α → Bool} (O : SrtO.Swo lt) (x : α) : ∀ l, SrtO.Srtd lt l → SrtO.Srtd lt (insB lt x l)
  | [], _ => List.pairwise_singleton _ _
  | y :: l, h => by
    obtain ⟨h1, h2⟩ := List.pairwise_cons.mp h
    unfold insB
    split
    · rename_i hyx
      refine List.pairwise_cons.mpr ⟨fun z hz => ?_, insB_srtd O x l h2⟩
      rcases List.mem_cons.mp ((insB_perm lt x l).mem_iff.mp hz) with rfl | hz
      · exact O.1 _ _ hyx
      · exact h1 z hz
    · rename_i hyx
      have hyx : lt y x = false := by simpa using hyx
      refine List.pairwise_cons.mpr ⟨fun z hz => ?_, h⟩
      rcases List.mem_cons.mp hz with rfl | hz
      · exact hyx
      · exact O.2 _ _ _ hyx (h1 z hz)
theorem isort_srtd {lt : α → α → Bool} (O : SrtO.Swo lt) : ∀ l, SrtO.Srtd lt (isort lt l)
  | [] => List.Pairwise.nil
  | x :: l => insB_srtd O x _ (isort_srtd O l)
theorem insB_map (lt : β → β → Bool) (f : α → β) (x : α) : ∀ l, insB lt (f x) (l.map f) = (insB (fun a b => lt (f a) (f b)) x l).map f
  | [] => rfl
  | y :: l => by
    simp only [List.map_cons, insB, insB_map lt f x l]
    split <;> simp
theorem isort_map (lt : β → β → Bool) (f : α → β) : ∀ l, isort lt (l.map f) = (isort (fun a b => lt (f a) (f b)) l).map f
  | [] => rfl
  | x :: l => by simp only [List.map_cons, isort, isort_map lt f l, insB_map]
theorem srtd_uniq {lt : α → α → Bool} : ∀ {l m : List α}, SrtO.Srtd lt l → SrtO.Srtd lt m → l.Perm m → (∀ x ∈ l, ∀ y ∈ l, lt x y = false → lt y x = false → x = y) → l = m
  | [], m, _, _, p, _ => (List.Perm.eq_nil p.symm).symm
  | x :: l, [], _, _, p, _ => absurd p.length_eq (by simp)
  | x :: l, y :: m, hl, hm, p, inj => by
    obtain ⟨a1, a2⟩ := List.pairwise_cons.mp hl
    obtain ⟨b1, b2⟩ := List.pairwise_cons.mp hm
    have hy : y ∈ x :: l := p.mem_iff.mpr (List.mem_cons_self ..)
    have e : x = y := by
      rcases List.mem_cons.mp (p.mem_iff.mp (List.mem_cons_self (a := x) (l := l))) with e | e
      · exact e
      · rcases List.mem_cons.mp hy with e2 | e2
        · exact e2.symm
        · exact inj x (List.mem_cons_self ..) y hy (b1 x e) (a1 y e2)
    subst e
    rw [srtd_uniq a2 b2 (List.Perm.cons_inv p) fun u hu v hv => inj u (List.mem_cons_of_mem _ hu) v (List.mem_cons_of_mem _ hv)]
theorem nodup_inj {κ : Type} {f : α → κ} : ∀ {l : List α}, (l.map f).Nodup → ∀ x ∈ l, ∀ y ∈ l, f x = f y → x = y
  | [], _, x, hx, _, _, _ => absurd hx (by simp)
  | a :: l, h, x, hx, y, hy, e => by
    obtain ⟨h1, h2⟩ := List.nodup_cons.mp h
    rcases List.mem_cons.mp hx with ex | hx' <;> rcases List.mem_cons.mp hy with ey | hy'
    · rw [ex, ey]
    · rw [ex] at e
      have h3 : f a ∈ l.map f := List.mem_map.mpr ⟨y, hy', e.symm⟩
      exact absurd h3 h1
    · rw [ey] at e
      have h3 : f a ∈ l.map f := List.mem_map.mpr ⟨x, hx', e⟩
      exact absurd h3 h1
    · exact nodup_inj h2 x hx' y hy' e
end
/-! ## keys as data, as values -/
def stepP (k : SK) : PyData := .tuple [.tuple (k.1.map .int), .str k.2]
theorem eqv_ints : ∀ a b : List Int, PyData.eqvAll (a.map .int) (b.map .int) = decide (a = b)
  | [], [] => rfl
  | [], _ :: _ => rfl
  | _ :: _, [] => rfl
  | x :: a, y :: b => by
    have e1 : PyData.eqvAll (PyData.int x :: a.map .int) (PyData.int y :: b.map .int) = (PyData.eqv (.int x) (.int y) && PyData.eqvAll (a.map .int) (b.map .int)) := by
      first | rfl | simp [PyData.eqvAll]
    have e2 : PyData.eqv (.int x) (.int y) = (x == y) := by first | rfl | simp [PyData.eqv]
    simp only [List.map_cons, e1, e2, eqv_ints a b]
    by_cases h : x = y <;> by_cases g : a = b <;> simp [h, g]
theorem eqv_step (k k' : SK) : PyData.eqv (stepP k) (stepP k') = decide (k = k') := by
  obtain ⟨a, x⟩ := k
  obtain ⟨b, y⟩ := k'
  have e : PyData.eqv (stepP (a, x)) (stepP (b, y)) = (PyData.eqvAll (a.map .int) (b.map .int) && ((x == y) && true)) := by
    first | rfl | simp [PyData.eqv, PyData.eqvAll, stepP]
  rw [e, eqv_ints]
  by_cases h : a = b <;> by_cases g : x = y <;> simp [h, g]
end G
end

section
set_option Elab.async false
set_option linter.all false
set_option maxRecDepth 100000
set_option maxHeartbeats 2000000
namespace G
open PySem PySem.Spec PyProof.Rows L2 PySem.W SrtO
/-! ## how such keys compare in the heap -/
theorem readsAll2 {h : Heap} {vs : List Value} {d e : PyData} {as : List Addr} (r : ReadsAll h vs [d, e] as) : ∃ u v bs cs, vs = [u, v] ∧ Reads h u d bs ∧ Reads h v e cs := by
  cases r with
  | cons r1 r2 =>
    cases r2 with
    | cons r3 r4 =>
      cases r4
      exact ⟨_, _, _, _, rfl, r1, r3⟩
theorem readsInts {h : Heap} : ∀ {ns : List Int} {vs : List Value} {as : List Addr}, ReadsAll h vs (ns.map .int) as → IntsAre vs ns
  | [], vs, as, r => by cases r; exact .nil
  | n :: ns, vs, as, r => by
    cases r with
    | cons r1 r2 =>
      cases r1
      exact .cons _ _ (readsInts r2)
theorem readsTup {h : Heap} {v : Value} {ds : List PyData} {as : List Addr} (r : Reads h v (.tuple ds) as) : ∃ a o vs n bs, v = .ref a ∧ h.get? a = some o ∧ o.cls = .type "tuple" ∧ o.data = .seq vs n ∧ ReadsAll h vs.toList ds bs := by
  cases r with
  | tuple h1 h2 h3 h4 => exact ⟨_, _, _, _, _, rfl, h1, h2, h3, h4⟩
/-- a key's tuple in the heap -/
structure KeyAt (h : Heap) (v : Value) (k : SK) : Prop where
  ex : ∃ a o xs n b ob ys m t, v = .ref a ∧ h.get? a = some o ∧ o.cls = .type "tuple" ∧ o.data = .seq xs n ∧ xs.toList = [.ref b, .str k.2 t] ∧ h.get? b = some ob ∧ ob.cls = .type "tuple" ∧ ob.data = .seq ys m ∧ IntsAre ys.toList k.1
theorem keyAt {h : Heap} {v : Value} {k : SK} {as : List Addr} (r : Reads h v (stepP k) as) : KeyAt h v k := by
  obtain ⟨a, o, xs, n, bs, rfl, h1, h2, h3, h4⟩ := readsTup r
  obtain ⟨u, v, cs, ds, e, r1, r2⟩ := readsAll2 h4
  obtain ⟨b, ob, ys, m, es, rfl, g1, g2, g3, g4⟩ := readsTup r1
  cases r2
  exact ⟨a, o, xs, n, b, ob, ys, m, _, rfl, h1, h2, h3, e, g1, g2, g3, readsInts g4⟩
section
variable {prog : Program} {w : World} {A : Around} {s : Shared}
theorem canLay_ints : ∀ ns : List Int, PyData.canLayAll0 (ns.map .int) = true
  | [] => rfl
  | n :: ns => by simp only [List.map_cons, PyData.canLayAll0, PyData.canLay0, canLay_ints ns]; rfl
theorem depth_ints : ∀ ns : List Int, PyData.depthAll (ns.map .int) = 0
  | [] => rfl
  | n :: ns => by simp only [List.map_cons, PyData.depthAll, PyData.depth, depth_ints ns]; rfl
theorem places_eq {b b' : Addr} {ob ob' : Obj} {ys ys' : Array Value} {m m' : Nat} {ns ns' : List Int} (g1 : s.heap.get? b = some ob) (g2 : ob.cls = .type "tuple") (g3 : ob.data = .seq ys m) (g4 : IntsAre ys.toList ns)
    (g1' : s.heap.get? b' = some ob') (g2' : ob'.cls = .type "tuple") (g3' : ob'.data = .seq ys' m') (g4' : IntsAre ys'.toList ns') (hu : A.units + 4 < cLine) : SeqAt.EqAt A s (.ref b) (.ref b') (decide (ns = ns')) := by
  have rd : ∀ {h : Heap} {vs : List Value} {ns : List Int}, IntsAre vs ns → ReadsAll h vs (ns.map .int) [] := fun {h vs ns} z => by
    induction z with
    | nil => exact .nil
    | cons n t z ih => exact ReadsAll.cons (as := []) (bs := []) (Reads.int n t) ih
  have r1 : Reads s.heap (.ref b) (.tuple (ns.map .int)) [] := .tuple g1 g2 g3 (rd g4)
  have r2 : Reads s.heap (.ref b') (.tuple (ns'.map .int)) [] := .tuple g1' g2' g3' (rd g4')
  have e : PyData.eqv (.tuple (ns.map .int)) (.tuple (ns'.map .int)) = decide (ns = ns') := by
    have : PyData.eqv (.tuple (ns.map .int)) (.tuple (ns'.map .int)) = PyData.eqvAll (ns.map .int) (ns'.map .int) := by first | rfl | simp [PyData.eqv]
    rw [this, eqv_ints]
  rw [← e]
  refine SeqAt.eqAt_reads _ _ A s _ _ _ _ r1 r2 (by simp [PyData.canLay0, canLay_ints]) (by simp [PyData.canLay0, canLay_ints]) ?_
  simp only [PyData.depth, depth_ints]
  omega
theorem places_lt {b b' : Addr} {ob ob' : Obj} {ys ys' : Array Value} {m m' : Nat} {ns ns' : List Int} (g1 : s.heap.get? b = some ob) (g2 : ob.cls = .type "tuple") (g3 : ob.data = .seq ys m) (g4 : IntsAre ys.toList ns)
    (g1' : s.heap.get? b' = some ob') (g2' : ob'.cls = .type "tuple") (g3' : ob'.data = .seq ys' m') (g4' : IntsAre ys'.toList ns') (hu : A.units < cLine) : Ob.RcOp .Lt A s (.ref b) (.ref b') (HT.lexLt ns ns') := fun prog w E Q h =>
  HT.lt_tupInts (prog := prog) (w := w) (E := E) (Q := Q) ⟨ob, g1, g2, m, g3⟩ ⟨ob', g1', g2', m', g3'⟩ g4 g4' hu h
theorem names_lt {x y : Str} {t u : Tok} : Ob.RcOp .Lt A s (.str x t) (.str y u) (HT.lexLt (ofS x) (ofS y)) := fun prog w E Q h => by
  rw [← ltS_eq] at h
  exact lt_str (prog := prog) (w := w) (E := E) (Q := Q) h
/-- two keys' tuples, as the sort's own comparison has them -/
theorem key_lt {v v' : Value} {k k' : SK} (hv : KeyAt s.heap v k) (hv' : KeyAt s.heap v' k') (hu : A.units + 8 < cLine) : wpAny (model prog w) A (keyLt' (tuples' false) v v') (fun r s' => s' = s ∧ r = lexK k k') (fun _ _ => False) s := by
  obtain ⟨a, o, xs, n, b, ob, ys, m, t, rfl, h1, h2, h3, h4, h5, h6, h7, h8⟩ := hv
  obtain ⟨a', o', xs', n', b', ob', ys', m', t', rfl, h1', h2', h3', h4', h5', h6', h7', h8'⟩ := hv'
  refine kat_lt h1 h3 h1' h3' ?_
  rw [h4, h4']
  have hz : decide (xs.size < xs'.size) = false := by
    have e1 : xs.size = 2 := by rw [← Array.length_toList, h4]; rfl
    have e2 : xs'.size = 2 := by rw [← Array.length_toList, h4']; rfl
    rw [e1, e2]; rfl
  rw [hz]
  show KatLex prog w A false false _ [(.ref b, .ref b'), (.str k.2 t, .str k'.2 t')] 0 s
  unfold lexK
  refine kat_cons (places_eq h5 h6 h7 h8 h5' h6' h7' h8' (by omega) prog w _ _ ?_)
  refine kat_go (fun e1 => ?_) (fun e1 => ?_)
  · have ex : k.1 = k'.1 := of_decide_eq_true e1
    refine kat_yes (kat_cons (SeqAt.EqAt.str_str k.2 t k'.2 t' prog w _ _ ?_))
    refine kat_go (fun e2 => ?_) (fun e2 => ?_)
    · have ey : k.2 = k'.2 := by simpa using e2
      refine kat_yes (kat_nil ⟨rfl, ?_⟩)
      rw [if_pos ex, ey, lx_irr]
    · refine kat_no (kat_one _ _ ?_)
      refine names_lt (A := A) prog w _ _ ?_
      exact ⟨rfl, by rw [if_pos ex]⟩
  · have ex : ¬ k.1 = k'.1 := of_decide_eq_false e1
    refine kat_no (kat_one _ _ ?_)
    refine places_lt h5 h6 h7 h8 h5' h6' h7' h8' (by omega) prog w _ _ ?_
    exact ⟨rfl, by rw [if_neg ex]⟩
/-- .. as < has them, when they differ -/
theorem key_rc {v v' : Value} {k k' : SK} (hv : KeyAt s.heap v k) (hv' : KeyAt s.heap v' k') (hne : k ≠ k') (hu : A.units + 8 < cLine) : Ob.RcOp .Lt A s v v' (lexK k k') := by
  obtain ⟨a, o, xs, n, b, ob, ys, m, t, rfl, h1, h2, h3, h4, h5, h6, h7, h8⟩ := hv
  obtain ⟨a', o', xs', n', b', ob', ys', m', t', rfl, h1', h2', h3', h4', h5', h6', h7', h8'⟩ := hv'
  have e1 : xs.size = 2 := by rw [← Array.length_toList, h4]; rfl
  have e2 : xs'.size = 2 := by rw [← Array.length_toList, h4']; rfl
  have x0 : ∀ h : 0 < xs.size, xs[0] = .ref b := fun h => by
    have : xs.toList[0]? = some (.ref b) := by rw [h4]; rfl
    simpa [h] using this
  have x1 : ∀ h : 1 < xs.size, xs[1] = .str k.2 t := fun h => by
    have : xs.toList[1]? = some (.str k.2 t) := by rw [h4]; rfl
    simpa [h] using this
  have y0 : ∀ h : 0 < xs'.size, xs'[0] = .ref b' := fun h => by
    have : xs'.toList[0]? = some (.ref b') := by rw [h4']; rfl
    simpa [h] using this
  have y1 : ∀ h : 1 < xs'.size, xs'[1] = .str k'.2 t' := fun h => by
    have : xs'.toList[1]? = some (.str k'.2 t') := by rw [h4']; rfl
    simpa [h] using this
  have hu1 : A.in1.units + 4 < cLine := by
    have : A.in1.units ≤ A.units + 1 := by first | exact Nat.le_refl _ | simp [Around.in1]
    omega
  have R := Ob.RcOp.tuples_lt (A := A) (s := s) (e := fun j => if j = 0 then decide (k.1 = k'.1) else (k.2 == k'.2)) (r := fun j => if j = 0 then HT.lexLt k.1 k'.1 else HT.lexLt (ofS k.2) (ofS k'.2)) (l := a) (b := a') (items := xs) (items2 := xs') ⟨o, h1, h2, n, h3⟩ ⟨o', h1', h2', n', h3'⟩ (by omega) (fun j p1 p2 => by
      rcases (by omega : j = 0 ∨ j = 1) with rfl | rfl
      · rw [x0, y0]
        exact places_eq h5 h6 h7 h8 h5' h6' h7' h8' hu1
      · rw [x1, y1]
        exact SeqAt.EqAt.str_str k.2 t k'.2 t') (fun j p1 p2 _ => by
      rcases (by omega : j = 0 ∨ j = 1) with rfl | rfl
      · rw [x0, y0]
        exact places_lt h5 h6 h7 h8 h5' h6' h7' h8' (by omega)
      · rw [x1, y1]
        exact names_lt)
  have e : Ob.lexAt (fun j => if j = 0 then decide (k.1 = k'.1) else (k.2 == k'.2)) (fun j => if j = 0 then HT.lexLt k.1 k'.1 else HT.lexLt (ofS k.2) (ofS k'.2)) (decide (xs.size < xs'.size)) 0 (min xs.size xs'.size) = lexK k k' := by
    rw [e1, e2]
    show (if decide (k.1 = k'.1) = true then (if (k.2 == k'.2) = true then decide (2 < 2) else HT.lexLt (ofS k.2) (ofS k'.2)) else HT.lexLt k.1 k'.1) = lexK k k'
    unfold lexK
    by_cases p : k.1 = k'.1
    · have q : ¬ k.2 = k'.2 := fun z => hne (Prod.ext p z)
      simp [p, q]
    · simp [p]
  rw [e] at R
  exact R
/-- a pair of a key and a datum -/
structure PairAt (h : Heap) (v : Value) (k : SK) : Prop where
  ex : ∃ a o xs n u r, v = .ref a ∧ h.get? a = some o ∧ o.cls = .type "tuple" ∧ o.data = .seq xs n ∧ xs.toList = [u, r] ∧ KeyAt h u k ∧ ∃ as, Reads h u (stepP k) as
theorem pair_lt {v v' : Value} {k k' : SK} (hv : PairAt s.heap v k) (hv' : PairAt s.heap v' k') (hs : k = k' → v = v') (ok : PyData.strOk k.2 = true) (ok' : PyData.strOk k'.2 = true) (hu : A.units + 8 < cLine) : wpAny (model prog w) A (keyLt' (tuples' false) v v') (fun r s' => s' = s ∧ r = lexK k k') (fun _ _ => False) s := by
  obtain ⟨a, o, xs, n, u, r, rfl, h1, h2, h3, h4, ku, as, ru⟩ := hv
  obtain ⟨a', o', xs', n', u', r', rfl, h1', h2', h3', h4', ku', as', ru'⟩ := hv'
  refine kat_lt h1 h3 h1' h3' ?_
  rw [h4, h4']
  have hz : decide (xs.size < xs'.size) = false := by
    have e1 : xs.size = 2 := by rw [← Array.length_toList, h4]; rfl
    have e2 : xs'.size = 2 := by rw [← Array.length_toList, h4']; rfl
    rw [e1, e2]; rfl
  rw [hz]
  show KatLex prog w A false false _ [(u, u'), (r, r')] 0 s
  have cl : ∀ {k : SK}, PyData.strOk k.2 = true → (stepP k).canLay0 = true := fun {k} h => by simp [stepP, PyData.canLay0, PyData.canLayAll0, canLay_ints, h]
  have dp : ∀ k : SK, (stepP k).depth ≤ 2 := fun k => by simp [stepP, PyData.depth, PyData.depthAll, depth_ints]
  have q := SeqAt.eqAt_reads _ _ A s _ _ _ _ ru ru' (cl ok) (cl ok') (by have := dp k; have := dp k'; omega)
  rw [eqv_step] at q
  refine kat_cons (q prog w _ _ ?_)
  refine kat_go (fun e1 => ?_) (fun e1 => ?_)
  · have ex : k = k' := of_decide_eq_true e1
    have ea := hs ex
    cases ea
    rw [h1] at h1'
    cases h1'
    rw [h3] at h3'
    cases h3'
    rw [h4] at h4'
    cases h4'
    refine kat_yes (kat_cons (SeqAt.EqAt.same r prog w _ _ ?_))
    exact kat_yes (kat_nil ⟨rfl, by rw [ex, lk_irr]⟩)
  · have ex : ¬ k = k' := of_decide_eq_false e1
    refine kat_no (kat_one _ _ ?_)
    exact key_rc ku ku' ex hu prog w _ _ ⟨rfl, rfl⟩
end
end G
end

section
set_option Elab.async false
set_option linter.all false
set_option maxRecDepth 100000
set_option maxHeartbeats 2000000
namespace G
open PySem PySem.Spec PyProof.Rows L2 PySem.W SrtO
theorem ints_inj : ∀ {a b : List Int}, a.map PyData.int = b.map PyData.int → a = b
  | [], [], _ => rfl
  | [], _ :: _, h => by cases h
  | _ :: _, [], h => by cases h
  | x :: a, y :: b, h => by
    simp only [List.map_cons, List.cons.injEq, PyData.int.injEq] at h
    rw [h.1, ints_inj h.2]
theorem stepP_inj {k k' : SK} (h : stepP k = stepP k') : k = k' := by
  obtain ⟨a, x⟩ := k
  obtain ⟨b, y⟩ := k'
  unfold stepP at h
  simp only [PyData.tuple.injEq, List.cons.injEq, PyData.str.injEq, and_true] at h
  rw [ints_inj h.1, h.2]
/-- an item: a key (false), a key with a datum (true) -/
def El (b : Bool) (h : Heap) (v : Value) (k : SK) : Prop := match b with
  | false => ∃ as, Reads h v (stepP k) as
  | true => ∃ d as, Reads h v (.tuple [stepP k, d]) as
theorem El.keeps {b : Bool} {h h' : Heap} {v : Value} {k : SK} (e : El b h v k) (hk : ∀ b o, h.get? b = some o → h'.get? b = some o) : El b h' v k := by
  cases b with
  | false => obtain ⟨as, r⟩ := e; exact ⟨as, PyProof.Rows.Reads.keeps hk r⟩
  | true => obtain ⟨d, as, r⟩ := e; exact ⟨d, as, PyProof.Rows.Reads.keeps hk r⟩
theorem El.uniq {b : Bool} {h : Heap} {v : Value} {k k' : SK} (e : El b h v k) (e' : El b h v k') : k = k' := by
  cases b with
  | false =>
    obtain ⟨as, r⟩ := e
    obtain ⟨as', r'⟩ := e'
    exact stepP_inj (PySem.Reads.unique r _ _ r').1
  | true =>
    obtain ⟨d, as, r⟩ := e
    obtain ⟨d', as', r'⟩ := e'
    have := (PySem.Reads.unique r _ _ r').1
    simp only [PyData.tuple.injEq, List.cons.injEq] at this
    exact stepP_inj this.1
theorem El.pair {h : Heap} {v : Value} {k : SK} (e : El true h v k) : PairAt h v k := by
  obtain ⟨d, as, r⟩ := e
  obtain ⟨a, o, xs, n, bs, rfl, h1, h2, h3, h4⟩ := readsTup r
  obtain ⟨u, r0, cs, ds, e, r1, r2⟩ := readsAll2 h4
  exact ⟨a, o, xs, n, u, r0, rfl, h1, h2, h3, e, keyAt r1, _, r1⟩
theorem El.first {b : Bool} {h : Heap} {v : Value} {k : SK} (e : El b h v k) : ∃ a o xs n f, v = .ref a ∧ h.get? a = some o ∧ o.cls = .type "tuple" ∧ o.data = .seq xs n ∧ xs[0]? = some f ∧ ∃ c oc, f = .ref c ∧ h.get? c = some oc ∧ oc.cls = .type "tuple" := by
  cases b with
  | false =>
    obtain ⟨as, r⟩ := e
    obtain ⟨a, o, xs, n, b, ob, ys, m, t, rfl, h1, h2, h3, h4, h5, h6, h7, h8⟩ := (keyAt r).ex
    exact ⟨a, o, xs, n, .ref b, rfl, h1, h2, h3, by rw [← Array.getElem?_toList, h4]; rfl, b, ob, rfl, h5, h6⟩
  | true =>
    obtain ⟨a, o, xs, n, u, r, rfl, h1, h2, h3, h4, ku, _⟩ := e.pair.ex
    obtain ⟨c, oc, xs', n', b, ob, ys, m, t, rfl, g1, g2, _⟩ := ku.ex
    exact ⟨a, o, xs, n, .ref c, rfl, h1, h2, h3, by rw [← Array.getElem?_toList, h4]; rfl, c, oc, rfl, g1, g2⟩
theorem el_firsts {b : Bool} {h : Heap} {kv : Value → SK} : ∀ vs : List Value, (∀ v ∈ vs, El b h v (kv v)) → ∃ fs, KatTups h vs fs ∧ fs.length = vs.length ∧ ∀ f ∈ fs, ∃ c oc, f = .ref c ∧ h.get? c = some oc ∧ oc.cls = .type "tuple"
  | [], _ => ⟨[], KatTups.nil, rfl, by simp⟩
  | v :: vs, hv => by
    obtain ⟨a, o, xs, n, f, rfl, h1, h2, h3, h4, h5⟩ := (hv v (by simp)).first
    obtain ⟨fs, t, l, hf⟩ := el_firsts vs fun u hu => hv u (by simp [hu])
    exact ⟨f :: fs, KatTups.cons h1 h2 h3 h4 t, by simp [l], fun g hg => by
      rcases List.mem_cons.mp hg with rfl | hg
      · exact h5
      · exact hf g hg⟩
section
variable {X : Cx} {W : XW}
def ElV (b : Bool) (K : PySem.W.Frag) (H : Hp) (x : V) (k : SK) : Prop := match b with
  | false => Dp K H x (stepP k)
  | true => ∃ d, Dp K H x (.tuple [stepP k, d])
abbrev srtZ {α : Type} (l : List (α × SK)) : List α := (isort (fun x y => lexK x.2 y.2) l).map (·.1)
def rSortK (b : Bool) (K : PySem.W.Frag) : List V → Hp → VK → Prop := fun vs H Q => ∃ (a : Addr) (xs : List V) (ks : List SK), vs = [.ref a] ∧ SqL K H a xs ∧ Paired (ElV b K H) xs ks ∧ ks.Nodup ∧ (∀ k ∈ ks, PyData.strOk k.2 = true) ∧
  ∀ p, H p = none → Q (.ref p) (upd H p (.lst (srtZ (xs.zip ks))))
theorem tri_of {b : Bool} {pins : List (Addr × Obj)} {σ : L2.St} {H : Hp} {s : Shared} (I : Inv X pins σ H s) : ∀ {xs : List V} {its : List Value} {ks : List SK}, Vals xs its → Paired (ElV b X.K H) xs ks → ∃ T : List (V × Value × SK), T.map (·.1) = xs ∧ T.map (·.2.1) = its ∧ T.map (·.2.2) = ks ∧ ∀ t ∈ T, RelV t.1 t.2.1 ∧ El b s.heap t.2.1 t.2.2
  | [], its, ks, rv, p => by
    cases rv
    cases p
    exact ⟨[], rfl, rfl, rfl, by simp⟩
  | x :: xs, its, ks, rv, p => by
    cases rv with
    | @cons _ u _ us r1 r2 =>
      cases p with
      | @cons _ k _ ks' p1 p2 =>
        obtain ⟨T, e1, e2, e3, h⟩ := tri_of I r2 p2
        refine ⟨(x, u, k) :: T, by simp [e1], by simp [e2], by simp [e3], fun t ht => ?_⟩
        rcases List.mem_cons.mp ht with rfl | ht
        · refine ⟨r1, ?_⟩
          cases b with
          | false => obtain ⟨as, r⟩ := Dp.reads I _ _ _ p1 r1; exact ⟨as, r⟩
          | true => obtain ⟨d, p1⟩ := p1; obtain ⟨as, r⟩ := Dp.reads I _ _ _ p1 r1; exact ⟨d, as, r⟩
        · exact h t ht
theorem vals_map : ∀ {T : List (V × Value × SK)}, (∀ t ∈ T, RelV t.1 t.2.1) → Vals (T.map (·.1)) (T.map (·.2.1))
  | [], _ => .nil
  | t :: T, h => .cons (h t (by simp)) (vals_map fun u hu => h u (by simp [hu]))
theorem cr_sortK (b : Bool) (hu : X.A.units + 12 < cLine) : CallR X (.builtin "sorted") (rSortK b X.K) := by
  intro pins s σ H vs us Q I r h
  obtain ⟨a, xs, ks, rfl, hs, hp, nd, ok, q⟩ := h
  obtain ⟨its, rv, hl, hz⟩ := I.list hs
  rw [Vals.ref1 r]
  obtain ⟨T, e1, e2, e3, hT⟩ := tri_of I rv hp
  classical
  let kv : Value → SK := fun v => if h : ∃ k, El b s.heap v k then Classical.choose h else ([], "")
  have hkv : ∀ t ∈ T, kv t.2.1 = t.2.2 := fun t ht => by
    have ex : ∃ k, El b s.heap t.2.1 k := ⟨_, (hT t ht).2⟩
    show (if h : ∃ k, El b s.heap t.2.1 k then Classical.choose h else ([], "")) = t.2.2
    rw [dif_pos ex]
    exact (Classical.choose_spec ex).uniq (hT t ht).2
  have hel : ∀ v ∈ its, El b s.heap v (kv v) ∧ PyData.strOk (kv v).2 = true := fun v hv => by
    rw [← e2] at hv
    obtain ⟨t, ht, rfl⟩ := List.mem_map.mp hv
    rw [hkv t ht]
    exact ⟨(hT t ht).2, ok _ (by rw [← e3]; exact List.mem_map.mpr ⟨t, ht, rfl⟩)⟩
  have inj : ∀ v ∈ its, ∀ u ∈ its, kv v = kv u → v = u := fun v hv u hu' e => by
    rw [← e2] at hv hu'
    obtain ⟨t, ht, rfl⟩ := List.mem_map.mp hv
    obtain ⟨t', ht', rfl⟩ := List.mem_map.mp hu'
    rw [hkv t ht, hkv t' ht'] at e
    rw [nodup_inj (f := fun t : V × Value × SK => t.2.2) (by rw [e3]; exact nd) t ht t' ht' e]
  refine SrtO.sorted_ord (lk_swo kv) hl.isList (by rw [← rv.length]; exact hz) (fun h2 h₁ a' ha kk => ?_) fun out h1 h2 => ?_
  · intro h' keep
    have kp : ∀ b o, s.heap.get? b = some o → h'.get? b = some o := fun b o e => keep b o (kk b o e).1 (kk b o e).2
    have hel' : ∀ v ∈ its, El b h' v (kv v) := fun v hv => (hel v hv).1.keeps kp
    obtain ⟨fs, t1, t2, t3⟩ := el_firsts its hel'
    have hu2 : X.A.in1.in1.units + 8 < cLine := by
      have a1 : X.A.in1.units ≤ X.A.units + 1 := by first | exact Nat.le_refl _ | simp [Around.in1]
      have a2 : X.A.in1.in1.units ≤ X.A.in1.units + 1 := by first | exact Nat.le_refl _ | simp [Around.in1]
      omega
    refine ⟨tuples' false, fun Q E hq => ?_, ?_⟩
    · refine kat_kind (T := .type "tuple") t1 (by omega) (fun f hf => ?_) (by rfl) ?_
      · obtain ⟨c, oc, rfl, hc, ht⟩ := t3 f hf
        exact fun A Q E s k q => wpAny_typeOf_ref (k _ _ hc) (by rw [ht]; exact q)
      · have e : (Value.type "tuple" != Value.type "tuple") = false := by first | decide +kernel | rfl
        rw [e]
        exact hq
    · intro p p' hp' hp''
      show wpAny (model X.prog X.w) X.A.in1.in1 (keyLt' (tuples' false) p.1 p'.1) (fun r s' => s' = _ ∧ r = lexK (kv p.1) (kv p'.1)) (fun _ _ => False) _
      cases b with
      | false =>
        obtain ⟨as, r1⟩ := hel' p.1 hp'
        obtain ⟨as', r2⟩ := hel' p'.1 hp''
        exact key_lt (s := { s with heap := h' }) (keyAt r1) (keyAt r2) hu2
      | true =>
        exact pair_lt (s := { s with heap := h' }) (hel' p.1 hp').pair (hel' p'.1 hp'').pair (inj p.1 hp' p'.1 hp'') (hel p.1 hp').2 (hel p'.1 hp'').2 hu2
  · have eo : out = (isort (fun x y : V × Value × SK => lexK x.2.2 y.2.2) T).map (·.2.1) := by
      have pt := isort_perm (fun x y : V × Value × SK => lexK x.2.2 y.2.2) T
      have pm : ((isort (fun x y : V × Value × SK => lexK x.2.2 y.2.2) T).map (·.2.1)).Perm its := by
        have := pt.map (fun t : V × Value × SK => t.2.1)
        rw [e2] at this
        exact this
      refine srtd_uniq h1 ?_ (h2.perm.trans pm.symm) fun v hv u hu' q1 q2 => inj v (h2.perm.mem_iff.mp hv) u (h2.perm.mem_iff.mp hu') (lk_tri q1 q2)
      refine List.pairwise_map.mpr ?_
      have so := isort_srtd (lk_swo fun t : V × Value × SK => t.2.2) T
      refine List.Pairwise.imp_of_mem (fun {x y} hx hy z => ?_) so
      show lexK (kv y.2.1) (kv x.2.1) = false
      rw [hkv x (pt.mem_iff.mp hx), hkv y (pt.mem_iff.mp hy)]
      exact z
    have ey : srtZ (xs.zip ks) = (isort (fun x y : V × Value × SK => lexK x.2.2 y.2.2) T).map (·.1) := by
      have ez : xs.zip ks = T.map fun t => (t.1, t.2.2) := by
        rw [← e1, ← e3, List.zip_map']
      show (isort (fun x y : V × SK => lexK x.2 y.2) (xs.zip ks)).map (·.1) = _
      rw [ez, isort_map (fun x y : V × SK => lexK x.2 y.2) (fun t : V × Value × SK => (t.1, t.2.2)), List.map_map]
      rfl
    have rvs : Vals (srtZ (xs.zip ks)) out := by
      rw [ey, eo]
      exact vals_map fun t ht => (hT t ((isort_perm _ T).mem_iff.mp ht)).1
    obtain ⟨ep, he'⟩ := PyProof.Rows.sortedAll_at s.heap its out.toArray
    have hlen : (srtZ (xs.zip ks)).length ≤ sizeLine := by
      rw [rvs.length, h2.len, ← rv.length]; exact hz
    exact ⟨.ref _, upd H (s.heap.objs.size + 1) (.lst (srtZ (xs.zip ks))), I.laid (t' := s.toks) (fun _ _ => PyProof.Rows.sortedAll_old) (Nat.le_succ _) ⟨hlen, out, ep, rvs, he'⟩, rfl, q _ (I.hok.fresh (Nat.le_succ _))⟩
end
end G
end

section
set_option Elab.async false
set_option linter.all false
set_option maxRecDepth 100000
set_option maxHeartbeats 2000000
namespace G
open PySem PySem.Spec PyProof.Rows L2
/-! ## sorted(..) of steps -/
def keyS : D → Option SK
  | .tup [.tup p, .str nm] => (ints? p).map fun ns => (ns, nm)
  | _ => none
def keyD (b : Bool) (d : D) : Option SK := match b, d with
  | false, d => keyS d
  | true, .tup [k, r] => match r.data with
    | some _ => keyS k
    | none => none
  | _, _ => none
def keysD (b : Bool) : List D → Option (List SK)
  | [] => some []
  | d :: l => match keyD b d, keysD b l with
    | some k, some ks => some (k :: ks)
    | _, _ => none
def srtD (b : Bool) (l : List D) : Option (List D) := (keysD b l).bind fun ks => if ks.Nodup ∧ (ks.all fun k => PyData.strOk k.2) = true then some (srtZ (l.zip ks)) else none
def dSort (b : Bool) : List D → Store → Option D
  | [.lst l], _ => (srtD b l).map .lst
  | [.cell c], st => (cellL st c).bind fun l => (srtD b l).map .lst
  | _, _ => none
theorem datas_ints : ∀ {p : List D} {ns : List Int}, ints? p = some ns → D.datas p = some (ns.map .int)
  | [], ns, h => by cases h; rfl
  | .int i :: l, ns, h => by
    cases q : ints? l with
    | none => simp [ints?, q] at h
    | some ms => simp [ints?, q] at h; subst h; simp [D.datas, D.data, datas_ints q]
  | .non :: _, _, h => by cases h
  | .bl _ :: _, _, h => by cases h
  | .str _ :: _, _, h => by cases h
  | .tup _ :: _, _, h => by cases h
  | .lst _ :: _, _, h => by cases h
  | .cell _ :: _, _, h => by cases h
  | .dct0 :: _, _, h => by cases h
  | .exc _ :: _, _, h => by cases h
theorem keyS_data {d : D} {k : SK} (h : keyS d = some k) : d.data = some (stepP k) := by
  unfold keyS at h
  split at h
  · rename_i p nm
    cases q : ints? p with
    | none => rw [q] at h; cases h
    | some ns =>
      rw [q] at h
      cases h
      simp [D.data, D.datas, datas_ints q, stepP]
  · cases h
theorem keyD_el {b : Bool} {w : Wd} {d : D} {x : V} {k : SK} (r : Rep w d x) (h : keyD b d = some k) : ElV b w.K w.H x k := by
  cases b with
  | false => exact dp_of d x _ r (keyS_data h)
  | true =>
    unfold keyD at h
    split at h
    · rename_i q; cases q
    · rename_i k' r' _
      split at h
      · rename_i p ep
        exact ⟨p, dp_of _ x _ r (by simp [D.data, D.datas, keyS_data h, ep])⟩
      · cases h
    · cases h
theorem keysD_el {b : Bool} {w : Wd} : ∀ {l : List D} {xs : List V} {ks : List SK}, Reps w l xs → keysD b l = some ks → Paired (ElV b w.K w.H) xs ks ∧ ∃ T : List (D × V × SK), T.map (·.1) = l ∧ T.map (·.2.1) = xs ∧ T.map (·.2.2) = ks ∧ ∀ t ∈ T, Rep w t.1 t.2.1
  | [], xs, ks, r, h => by
    cases h
    simp only [Reps] at r
    subst r
    exact ⟨.nil, [], rfl, rfl, rfl, by simp⟩
  | d :: l, xs, ks, r, h => by
    simp only [Reps] at r
    obtain ⟨x, ys, rfl, r1, r2⟩ := r
    simp only [keysD] at h
    cases q1 : keyD b d with
    | none => rw [q1] at h; cases h
    | some k =>
      cases q2 : keysD b l with
      | none => rw [q1, q2] at h; cases h
      | some ks' =>
        rw [q1, q2] at h
        cases h
        obtain ⟨p, T, e1, e2, e3, hT⟩ := keysD_el r2 q2
        refine ⟨.cons (keyD_el r1 q1) p, (d, x, k) :: T, by simp [e1], by simp [e2], by simp [e3], fun t ht => ?_⟩
        rcases List.mem_cons.mp ht with rfl | ht
        · exact r1
        · exact hT t ht
theorem reps_map {w : Wd} : ∀ {T : List (D × V × SK)}, (∀ t ∈ T, Rep w t.1 t.2.1) → Reps w (T.map (·.1)) (T.map (·.2.1))
  | [], _ => by simp [Reps]
  | t :: T, h => by
    simp only [List.map_cons, Reps]
    exact ⟨_, _, rfl, h t (by simp), reps_map fun u hu => h u (by simp [hu])⟩
theorem srtD_rd {b : Bool} {w : Wd} {l l' : List D} {xs : List V} (r : Reps w l xs) (h : srtD b l = some l') : ∃ ks, Paired (ElV b w.K w.H) xs ks ∧ ks.Nodup ∧ (∀ k ∈ ks, PyData.strOk k.2 = true) ∧ Reps w l' (srtZ (xs.zip ks)) ∧ l'.length = l.length := by
  unfold srtD at h
  cases q : keysD b l with
  | none => rw [q] at h; cases h
  | some ks =>
    rw [q] at h
    simp only [Option.bind_some] at h
    split at h
    · rename_i hc
      cases h
      obtain ⟨p, T, e1, e2, e3, hT⟩ := keysD_el r q
      refine ⟨ks, p, hc.1, fun k hk => List.all_eq_true.mp hc.2 k hk, ?_, ?_⟩
      · have a1 : srtZ (l.zip ks) = (isort (fun x y : D × V × SK => lexK x.2.2 y.2.2) T).map (·.1) := by
          have ez : l.zip ks = T.map fun t => (t.1, t.2.2) := by rw [← e1, ← e3, List.zip_map']
          show (isort (fun x y : D × SK => lexK x.2 y.2) (l.zip ks)).map (·.1) = _
          rw [ez, isort_map (fun x y : D × SK => lexK x.2 y.2) (fun t : D × V × SK => (t.1, t.2.2)), List.map_map]
          rfl
        have a2 : srtZ (xs.zip ks) = (isort (fun x y : D × V × SK => lexK x.2.2 y.2.2) T).map (·.2.1) := by
          have ez : xs.zip ks = T.map fun t => (t.2.1, t.2.2) := by rw [← e2, ← e3, List.zip_map']
          show (isort (fun x y : V × SK => lexK x.2 y.2) (xs.zip ks)).map (·.1) = _
          rw [ez, isort_map (fun x y : V × SK => lexK x.2 y.2) (fun t : D × V × SK => (t.2.1, t.2.2)), List.map_map]
          rfl
        rw [a1, a2]
        exact reps_map fun t ht => hT t ((isort_perm _ T).mem_iff.mp ht)
      · show ((isort (fun x y : D × SK => lexK x.2 y.2) (l.zip ks)).map (·.1)).length = _
        rw [List.length_map, (isort_perm _ _).length_eq, ← e1, ← e3]
        simp
    · cases h
section
variable {X : Cx} {W : XW} {e a : Expr} {pos p : Pos} {fa : Ev → M D}
theorem cd_sort (b : Bool) (hu : X.A.units + 12 < cLine) : CallD X (.builtin "sorted") (dSort b) := CallR.imp' (cr_sortK b hu) fun xs H Q h => by
  obtain ⟨w, ds, hk, rfl, rs, rd, q⟩ := h
  obtain ⟨d, e⟩ := wq_some q
  have e0 := e
  unfold dSort at e
  split at e
  · rename_i l
    obtain ⟨v, rfl, r⟩ := reps1 rd
    simp only [Rep] at r
    obtain ⟨p, ys, rfl, fz, rr, hl⟩ := r
    cases qs : srtD b l with
    | none => rw [qs] at e; cases e
    | some l' =>
      rw [qs] at e
      obtain ⟨ks, h1, h2, h3, h4, h5⟩ := srtD_rd rr qs
      exact ⟨p, ys, ks, rfl, SqL.of fz.1.1, by rw [← hk]; exact h1, h2, h3, fun p' hp => q.new rs hp (e0.trans e.symm) (rep_new rs hp h4 (by rw [h5]; exact hl))⟩
  · rename_i st' c
    obtain ⟨v, rfl, r⟩ := reps1 rd
    simp only [Rep] at r
    cases qc : cellL w.st c with
    | none => rw [qc] at e; cases e
    | some l =>
      rw [qc] at e
      simp only [Option.bind_some] at e
      obtain ⟨ys, sq, rr, hl⟩ := cell_sq rs qc
      cases qs : srtD b l with
      | none => rw [qs] at e; cases e
      | some l' =>
        rw [qs] at e
        obtain ⟨ks, h1, h2, h3, h4, h5⟩ := srtD_rd rr qs
        exact ⟨_, ys, ks, by rw [r.1], by rw [← hk]; exact sq, by rw [← hk]; exact h1, h2, h3, fun p' hp => q.new rs hp (e0.trans e.symm) (rep_new rs hp h4 (by rw [h5]; exact hl))⟩
  · cases e
/-- sorted(e), to be changed later -/
def sortC (b : Bool) (ds : List D) : M D := fun st => match dSort b ds st with
  | some (.lst l) => .ok (.cell st.length) (st ++ [.lst l])
  | _ => .bad
def eSortC (b : Bool) (fs : List (Ev → M D)) : Ev → M D := fun env => do
  let ds ← aSeq fs env
  sortC b ds
theorem de_sortC (b : Bool) (hu : X.A.units + 12 < cLine) (hg : Gl X "sorted") (hm : X.mg "sorted" = none) (ha : DA X W [a] [fa]) (he : starEach [a] X.env = (false, eval a X.env) :: starEach [] X.env := by rfl) (hpl : (backTo pos (starEach [] X.env)).any (·.1) = false := by rfl) :
    DE X W (.Call (.Name "sorted" p) [a] [] pos) (eSortC b [fa]) := PE.imp' (pe_callB (cr_sortK b hu) hg hm (by decide +kernel) ha (by decide) (by decide) he hpl) fun σ H Q h => by
  obtain ⟨w, env, hk, rfl, r, n, h⟩ := h
  refine ⟨w, env, hk, rfl, r, n, (Wp.bind h).imp fun ds w1 a1 h1 vs rvs => ?_⟩
  unfold sortC at h1
  have hk1 := a1.k.trans hk
  split at h1
  · rename_i l' e
    unfold dSort at e
    split at e
    · rename_i l
      obtain ⟨v, rfl, r⟩ := reps1 rvs
      simp only [Rep] at r
      obtain ⟨p, ys, rfl, fz, rr, hl⟩ := r
      cases qs : srtD b l with
      | none => rw [qs] at e; cases e
      | some l'' =>
        rw [qs] at e
        simp only [Option.map_some, Option.some.injEq, D.lst.injEq] at e
        subst e
        obtain ⟨ks, g1, g2, g3, g4, g5⟩ := srtD_rd rr qs
        refine ⟨p, ys, ks, rfl, SqL.of fz.1.1, by rw [← hk1]; exact g1, g2, g3, fun p' hp => ?_⟩
        obtain ⟨a3, r3⟩ := aft_newL a1.rs hp g4 (by rw [g5]; exact hl)
        exact h1 _ a3 rfl _ r3
    · rename_i st' c
      obtain ⟨v, rfl, r⟩ := reps1 rvs
      simp only [Rep] at r
      cases qc : cellL w1.st c with
      | none => rw [qc] at e; cases e
      | some l =>
        rw [qc] at e
        simp only [Option.bind_some] at e
        obtain ⟨ys, sq, rr, hl⟩ := cell_sq a1.rs qc
        cases qs : srtD b l with
        | none => rw [qs] at e; cases e
        | some l'' =>
          rw [qs] at e
          simp only [Option.map_some, Option.some.injEq, D.lst.injEq] at e
          subst e
          obtain ⟨ks, g1, g2, g3, g4, g5⟩ := srtD_rd rr qs
          refine ⟨_, ys, ks, by rw [r.1], by rw [← hk1]; exact sq, by rw [← hk1]; exact g1, g2, g3, fun p' hp => ?_⟩
          obtain ⟨a3, r3⟩ := aft_newL a1.rs hp g4 (by rw [g5]; exact hl)
          exact h1 _ a3 rfl _ r3
    · cases e
  · exact h1.elim
end
end G
end

section
set_option Elab.async false
set_option linter.all false
set_option maxRecDepth 100000
set_option maxHeartbeats 2000000
namespace G
open PySem PySem.Spec PyProof.Rows L2
/-! ## constants of the module, nested -/
mutual
def conV (K : PySem.W.Frag) : D → Value → Bool
  | .str z, .str y _ => decide (y = z)
  | .int i, .int j _ => decide (j = i)
  | .tup l, .ref a => match K.lookup a with
    | some ⟨.type c, _, .seq its _, _⟩ => decide (c = "tuple") && (decide (its.size ≤ sizeLine) && conVs K l its.toList)
    | _ => false
  | _, _ => false
def conVs (K : PySem.W.Frag) : List D → List Value → Bool
  | [], [] => true
  | d :: l, v :: vs => conV K d v && conVs K l vs
  | _, _ => false
end
mutual
theorem conV_rep {K : PySem.W.Frag} : ∀ (d : D) (v : Value), conV K d v = true → ∃ x, RelV x v ∧ ∀ w : Wd, w.K = K → Rep w d x
  | .str z, v, h => by
    cases v <;> simp only [conV] at h <;> try cases h
    rename_i y t
    have := of_decide_eq_true h
    subst this
    exact ⟨.str y, ⟨t, rfl⟩, fun w _ => by simp [Rep]⟩
  | .int z, v, h => by
    cases v <;> simp only [conV] at h <;> try cases h
    rename_i y t
    have := of_decide_eq_true h
    subst this
    exact ⟨.int y, ⟨t, rfl⟩, fun w _ => by simp [Rep]⟩
  | .tup l, v, h => by
    cases v <;> simp only [conV] at h <;> try cases h
    rename_i a
    split at h
    · rename_i c od its n sl q
      simp only [Bool.and_eq_true, decide_eq_true_eq] at h
      obtain ⟨xs, rv, hr, hl⟩ := conVs_rep l its.toList h.2.2
      refine ⟨.ref a, rfl, fun w hk => ?_⟩
      simp only [Rep]
      refine ⟨a, xs, rfl, .inr ⟨_, its, n, by rw [hk]; exact q, congrArg Value.type h.1, rfl, h.2.1, rv⟩, hr w hk, ?_⟩
      rw [hl, Array.length_toList]
      exact h.2.1
    · cases h
  | .non, v, h => by simp [conV] at h
  | .bl _, v, h => by simp [conV] at h
  | .lst _, v, h => by simp [conV] at h
  | .cell _, v, h => by simp [conV] at h
  | .dct0, v, h => by simp [conV] at h
  | .exc _, v, h => by simp [conV] at h
theorem conVs_rep {K : PySem.W.Frag} : ∀ (l : List D) (vs : List Value), conVs K l vs = true → ∃ xs, Vals xs vs ∧ (∀ w : Wd, w.K = K → Reps w l xs) ∧ l.length = vs.length
  | [], [], _ => ⟨[], .nil, fun w _ => by simp [Reps], rfl⟩
  | [], _ :: _, h => by simp [conVs] at h
  | _ :: _, [], h => by simp [conVs] at h
  | d :: l, v :: vs, h => by
    simp only [conVs, Bool.and_eq_true] at h
    obtain ⟨x, r1, h1⟩ := conV_rep d v h.1
    obtain ⟨xs, r2, h2, h3⟩ := conVs_rep l vs h.2
    exact ⟨x :: xs, .cons r1 r2, fun w hk => by simp only [Reps]; exact ⟨x, xs, rfl, h1 w hk, h2 w hk⟩, by simp [h3]⟩
end
structure ConR (K : PySem.W.Frag) (mg : Str → Option Value) (x : Str) (d : D) : Prop where
  at_ : ∃ v u, mg x = some u ∧ RelV v u ∧ ∀ w : Wd, w.K = K → Rep w d v
theorem conR_of {K : PySem.W.Frag} {mg : Str → Option Value} {x : Str} {d : D} (h : mg x = some (.ref (He.ga K x))) (c : conV K d (.ref (He.ga K x)) = true) : ConR K mg x d := by
  obtain ⟨v, r, hr⟩ := conV_rep _ _ c
  exact ⟨v, _, h, r, hr⟩
section
variable {X : Cx} {W : XW} {pos : Pos} {x : Str}
theorem de_conR {d : D} (hg : Gl X x) (hc : ConR X.K X.mg x d) (hd : (x == ("__debug__" : Str)) = false := by decide) : DE X W (.Name x pos) (eC d) := by
  obtain ⟨v, u, h1, h2, h3⟩ := hc.at_
  exact de_glob hg h1 h2 h3 hd
end
theorem room12 {A : Around} {n : Nat} (r : Room n A) : A.units + 12 < cLine := by have := r.un; omega
end G
end

section
set_option Elab.async false
set_option linter.all false
set_option maxRecDepth 100000
set_option maxHeartbeats 2000000
namespace G
open PySem PySem.Spec PyProof.Rows L2 HotX
/-! ## iteration while an exception is handled -/
section
variable {prog : Program} {w : World} {A : Around} {E : Value → Shared → Prop} {s : Shared}
theorem next_list_end_hot {it l x1 : Addr} {i : Nat} {items} {Q : Option Value → Shared → Prop} (hot : HotAt A x1 s.heap) (hne : x1 ≠ it)
    (hit : s.heap.IsListIter it l i) (hl : s.heap.IsList l items) (hx : items[i]? = none)
    (hQ : ∀ h', Heap.ExtBut it s.heap h' → Q none { s with heap := h' }) : wpAny (model prog w) A (pyNext (.ref it)) Q E s := by
  obtain ⟨o, ho, hc, hd⟩ := id hit
  obtain ⟨ol, hol, _, nl, hdl⟩ := hl
  obtain ⟨hh, o1, vs1, h1, d1, c1⟩ := hot
  unfold pyNext
  refine wpAny_bind (wpAny_attempt (wpAny_callSpecial?_slot (name := Str.ofString "__next__") hit.typeIs slot_listiter_next
    (wpAny_call_entry slot_listiter_next hit.typeIs entry_listiter_next ?_ (args_listiter_next _))))
  show wpAny _ _ (field (.ref it) 0 >>= _) _ _ s
  refine wpAny_bind (wpAny_field ho hd (x := .ref l) rfl ?_)
  show wpAny _ _ (if (Value.ref l == Value.none) = true then _ else _) _ _ s
  rw [if_neg (show ¬ ((Value.ref l == Value.none) = true) from Bool.false_ne_true)]
  show wpAny _ _ (field (.ref it) 1 >>= _) _ _ s
  refine wpAny_bind (wpAny_field ho hd (x := .int i 0) rfl ?_)
  show wpAny _ _ (seqItems? (.ref l) >>= _) _ _ s
  refine wpAny_bind (wpAny_seqItems hol hdl ?_)
  simp only [Int.toNat_natCast, hx]
  refine wpAny_bind (wpAny_rule (wpAny_bind (wpAny_setField ho hd (by simp) ?_)))
  have sb := Heap.SameBut.update (h := s.heap) it (Obj.mapFields (·.setIfInBounds 0 Value.none))
  have h1' := (sb.2 x1 hne).trans h1
  show wpAny _ _ (newExc (.type "StopIteration") [] >>= _) _ _ _
  refine wpAny_bind ?_
  simp only [newExc, newTuple]
  refine wpAny_bind (wpAny_newObj_type ?_ (by size_fits))
  refine wpAny_bind (m := firstArgMember _ _) (wpAny_of_eq (a := Value.none) (by first | rfl | (simp only [firstArgMember]; rfl)) ?_)
  refine wpAny_newObj_type ?_ (by size_fits)
  refine raiseNew_hot ⟨hh, o1, vs1, Heap.get?_push_of_some _ (Heap.get?_push_of_some _ h1'), d1, c1⟩ (Nat.ne_of_lt (Heap.lt_size (Heap.get?_push_of_some _ h1'))) (Heap.get?_push_size _ rfl) rfl (by first | (simp; done) | (simp; omega) | (simp only [Array.size_append]; simp; omega)) ?_
  refine wpAny_bind (wpAny_isInstance (T := "StopIteration") (b := true) ⟨_, Heap.get?_update_self _ (Heap.get?_push_size _ rfl) rfl, rfl⟩ isSubtype_stop ?_)
  refine wpAny_pure (hQ _ fun b o hb e => ?_)
  have e' := (sb.2 b hb).trans e
  rw [Heap.get?_update_other _ _ (Nat.ne_of_gt (Heap.lt_size (Heap.get?_push_of_some _ e')))]
  exact Heap.get?_push_of_some _ (Heap.get?_push_of_some _ e')
theorem next_tuple_end_hot {it l x1 : Addr} {i : Nat} {items} {Q : Option Value → Shared → Prop} (hot : HotAt A x1 s.heap) (hne : x1 ≠ it)
    (hit : IsTupIter s.heap it l i) (hl : IsTup s.heap l items) (hx : items[i]? = none)
    (hQ : ∀ h', Heap.ExtBut it s.heap h' → Q none { s with heap := h' }) : wpAny (model prog w) A (pyNext (.ref it)) Q E s := by
  obtain ⟨o, ho, hc, hd⟩ := id hit
  obtain ⟨ol, hol, _, nl, hdl⟩ := hl
  obtain ⟨hh, o1, vs1, h1, d1, c1⟩ := hot
  unfold pyNext
  refine wpAny_bind (wpAny_attempt (wpAny_callSpecial?_slot (name := Str.ofString "__next__") hit.typeIs slot_tupleiter_next
    (wpAny_call_entry slot_tupleiter_next hit.typeIs entry_tupleiter_next ?_ (args_tupleiter_next _))))
  show wpAny _ _ (field (.ref it) 0 >>= _) _ _ s
  refine wpAny_bind (wpAny_field ho hd (x := .ref l) rfl ?_)
  show wpAny _ _ (if (Value.ref l == Value.none) = true then _ else _) _ _ s
  rw [if_neg (show ¬ ((Value.ref l == Value.none) = true) from Bool.false_ne_true)]
  show wpAny _ _ (field (.ref it) 1 >>= _) _ _ s
  refine wpAny_bind (wpAny_field ho hd (x := .int i 0) rfl ?_)
  show wpAny _ _ (seqItems? (.ref l) >>= _) _ _ s
  refine wpAny_bind (wpAny_seqItems hol hdl ?_)
  simp only [Int.toNat_natCast, hx]
  refine wpAny_bind (wpAny_rule (wpAny_bind (wpAny_setField ho hd (by simp) ?_)))
  have sb := Heap.SameBut.update (h := s.heap) it (Obj.mapFields (·.setIfInBounds 0 Value.none))
  have h1' := (sb.2 x1 hne).trans h1
  show wpAny _ _ (newExc (.type "StopIteration") [] >>= _) _ _ _
  refine wpAny_bind ?_
  simp only [newExc, newTuple]
  refine wpAny_bind (wpAny_newObj_type ?_ (by size_fits))
  refine wpAny_bind (m := firstArgMember _ _) (wpAny_of_eq (a := Value.none) (by first | rfl | (simp only [firstArgMember]; rfl)) ?_)
  refine wpAny_newObj_type ?_ (by size_fits)
  refine raiseNew_hot ⟨hh, o1, vs1, Heap.get?_push_of_some _ (Heap.get?_push_of_some _ h1'), d1, c1⟩ (Nat.ne_of_lt (Heap.lt_size (Heap.get?_push_of_some _ h1'))) (Heap.get?_push_size _ rfl) rfl (by first | (simp; done) | (simp; omega) | (simp only [Array.size_append]; simp; omega)) ?_
  refine wpAny_bind (wpAny_isInstance (T := "StopIteration") (b := true) ⟨_, Heap.get?_update_self _ (Heap.get?_push_size _ rfl) rfl, rfl⟩ isSubtype_stop ?_)
  refine wpAny_pure (hQ _ fun b o hb e => ?_)
  have e' := (sb.2 b hb).trans e
  rw [Heap.get?_update_other _ _ (Nat.ne_of_gt (Heap.lt_size (Heap.get?_push_of_some _ e')))]
  exact Heap.get?_push_of_some _ (Heap.get?_push_of_some _ e')
theorem unpackItems_hot {t x1 : Addr} {items : Array Value} {Q : List Value → Shared → Prop} (hot : HotAt A x1 s.heap) (ht : IsTup s.heap t items)
    (hQ : ∀ h', Heap.ExtBut s.heap.objs.size s.heap h' → Q items.toList { s with heap := h' }) : wpAny (model prog w) A (unpackItems (.ref t) items.size none) Q E s := by
  have hlt : t ≠ s.heap.objs.size := by obtain ⟨o, ho, _⟩ := ht; exact Nat.ne_of_lt (Heap.lt_size ho)
  obtain ⟨hh, o1, vs1, h1, d1, c1⟩ := hot
  have hx1 : x1 ≠ s.heap.objs.size := Nat.ne_of_lt (Heap.lt_size h1)
  unfold unpackItems
  refine wpAny_bind ?_
  unfold notIterableAtAll
  refine wpAny_bind (wpAny_specialOf ht.typeIs slot_tuple_iter.lookup ?_)
  refine wpAny_pure ?_
  simp only [Bool.false_eq_true, if_false]
  refine wpAny_bind (wpAny_holding (iter_tuple ht ?_))
  refine wpAny_bind (wpAny_holding (draw_tuple hlt items.size 0 _ _ ⟨_, Heap.get?_push_size _ rfl, rfl, rfl⟩ (ht.push _) (by omega) fun h₁ hit₁ hs₁ => ?_))
  have hall : List.take items.size (List.drop 0 items.toList) = items.toList := by
    rw [List.drop_zero]; exact List.take_of_length_le (by simp)
  rw [hall, if_neg (by simp)]
  have ht₁ : IsTup h₁ t items := (ht.push _).extBut hs₁.extBut hlt
  have hot₁ : HotAt A x1 h₁ := ⟨hh, o1, vs1, (hs₁.2 x1 hx1).trans (Heap.get?_push_of_some _ h1), d1, c1⟩
  refine wpAny_bind (wpAny_holding (next_tuple_end_hot hot₁ hx1 hit₁ ht₁ (by simp) fun h₂ he₂ => ?_))
  simp only [Option.isSome_none, Bool.false_eq_true, if_false]
  exact wpAny_pure (hQ h₂ fun b o hb e => he₂ b o hb (hs₁.extBut b o hb (Heap.get?_push_of_some _ e)))
theorem assign_Tuple_hot {env : Env} {elts : List Expr} {k} {pos : Pos} {t x1 : Addr} {items : Array Value} {Q : Unit → Shared → Prop} (hot : HotAt A x1 s.heap) (ht : IsTup s.heap t items)
    (hn : (assignEach elts env).length = items.size) (hstar : (assignEach elts env).findIdx? (·.1) = none)
    (h : ∀ h', Heap.ExtBut s.heap.objs.size s.heap h' → wpAny (model prog w) A (assignInOrder ((assignEach elts env).map (·.2)) items.toList) Q E { s with heap := h' }) :
    wpAny (model prog w) A (assign (.Tuple elts k pos) env (.ref t)) Q E s := by
  rw [assign_Tuple]
  refine wpAny_bind (wpAny_standAt ?_)
  unfold unpack
  rw [hn, hstar]
  exact wpAny_bind (wpAny_holding (unpackItems_hot hot ht h))
end
/-! ## a context in which an exception is handled that is tracked -/
def HotT (X : Cx) : Prop := ∃ (a : Addr) (oe : Obj) (u : HO) (vs : Array Value), X.A.handled = some (.ref a) ∧ X.H_0 a = some (.frz oe u) ∧ oe.data = .fields vs ∧ vs[2]? = some .none
section
variable {X : Cx} {pins : List (Addr × Obj)} {σ : L2.St} {H : Hp} {s : Shared} {pos : Pos}
theorem HotT.at_ (c : HotT X) (I : Inv X pins σ H s) : ∃ x1, HotAt X.A x1 s.heap ∧ ∃ o u, H x1 = some (.frz o u) := by
  obtain ⟨a, oe, u, vs, hh, h0, hd, h2⟩ := c
  have h := I.base.frzs a oe u h0
  exact ⟨a, ⟨hh, oe, vs, (I.hok a _ h).1, hd, h2⟩, oe, u, h⟩
theorem HotT.blk (c : HotT X) (I : Inv X pins σ H s) (s' : Shared) (scope : Scope) (cenv : Env) (fp : List Addr) {H' : Hp} (hs : Same H H') : HotT (X.blk s' H' scope cenv fp) := by
  obtain ⟨a, oe, u, vs, hh, h0, hd, h2⟩ := c
  exact ⟨a, oe, u, vs, hh, hs _ _ (I.base.frzs a oe u h0), hd, h2⟩
theorem pg_tupT {es : List Expr} {k : Nat} {t : TGs} {n : Nat} (hc : HotT X) (h : PGs X es t)
    (hn : (assignEach es X.env).length = n := by rfl) (hst : (assignEach es X.env).findIdx? (·.1) = none := by rfl) : PG X (.Tuple es k pos) (gTup X.K n t) := by
  refine ⟨fun pins s σ H v u Q I r hw => ?_⟩
  obtain ⟨a, xs, e1, hq, hl, hw⟩ := hw
  subst e1
  cases r
  obtain ⟨its, rv, ht, hz⟩ := I.tuple hq
  obtain ⟨x1, hot, _⟩ := hc.at_ I
  refine assign_Tuple_hot hot ht (by simp [hn, ← hl, rv.length]) hst fun h' hx => ?_
  have I1 : Inv X pins σ H { s with heap := h' } := I.kept (t' := s.toks) fun b o e => hx b o (Nat.ne_of_lt (Heap.lt_size e)) e
  exact h.run pins _ σ H xs _ Q I1 (by simpa using rv) hw
end
end G
end

section
set_option Elab.async false
set_option linter.all false
set_option maxRecDepth 100000
set_option maxHeartbeats 2000000
namespace G
open PySem PySem.Spec PyProof.Rows L2 HotX
/-! ## a list comprehension over a list, an exception being handled -/
section
variable {X : Cx} {tg : Expr}
/-- a turn: an item -/
theorem itemT {a it : Addr} {i : Nat} {pins : List (Addr × Obj)} {s : Shared} {σ : L2.St} {H : Hp} {E : Value → Shared → Prop} (I : Inv X pins σ H s) (hf : FpOk X pins H it) (st : s.heap.IsListIter it a i) (hg : (Itl X.K a).go i H) :
    wpAny (model X.prog X.w) X.A (pyNext (.ref it)) (fun r s1 => ∃ u, r = some u ∧
      wpAny (model X.prog X.w) X.A (letOwnedTupleGo tg (.ref it) u) (fun _ s2 => ∃ x, Inv X pins σ H s2 ∧ RelV x u ∧ (Itl X.K a).yld i H x H ∧ s2.heap.IsListIter it a (i + 1)) E s1) E s := by
  obtain ⟨xs, x, hq, hx⟩ := hg
  obtain ⟨its, rv, p, hz⟩ := I.list hq
  obtain ⟨u, hu, ru⟩ := rv.get hx
  obtain ⟨f0, f1, f2, f3, f4, f5⟩ := hf
  refine wpAny_pyNext_list_item st p.isList (x := u) (by simpa using hu) fun h' st' sb => ?_
  have I1 : Inv X pins σ H { s with heap := h' } := I.turned (t' := s.toks) (fun b o hb e => (sb.2 b hb).trans e) f0 f1 f3 f4 f5
  obtain ⟨o, e, c, d⟩ := id st'
  exact ⟨u, rfl, go_of (s := { s with heap := h' }) e c d (by decide) ⟨x, I1, ru, ⟨rfl, fun ys hy => by rw [I.list_inj hy hq]; exact hx⟩, st'⟩⟩
/-- the end -/
theorem doneT {a it : Addr} {i : Nat} {pins : List (Addr × Obj)} {s : Shared} {σ : L2.St} {H : Hp} {E : Value → Shared → Prop} (hc : HotT X) (I : Inv X pins σ H s) (hf : FpOk X pins H it) (st : s.heap.IsListIter it a i) (hg : (Itl X.K a).stop i H) :
    wpAny (model X.prog X.w) X.A (pyNext (.ref it)) (fun r s1 => r = none ∧ Inv X pins σ H s1) E s := by
  obtain ⟨xs, hq, hx⟩ := hg
  obtain ⟨its, rv, p, hz⟩ := I.list hq
  obtain ⟨f0, f1, f2, f3, f4, f5⟩ := hf
  obtain ⟨x1, hot, o1, u1, h1⟩ := hc.at_ I
  have hl := rv.length
  have hne : x1 ≠ it := fun z => by rw [z, f0] at h1; cases h1
  exact next_list_end_hot hot hne st p.isList (by simp; omega) fun h' eb => ⟨rfl, I.turned (t' := s.toks) (fun b o hb e => eb b o hb e) f0 f1 f3 f4 f5⟩
variable {elt iter : Expr} {ifs : List Expr} {scope : Scope} {own : List (Str × Nat)} {pos pos' : Pos} {tl : TE} {g : TG} {tt : TT} {te : TE}
/-- what the block's parts promise -/
structure BlkT (X : Cx) (tg elt : Expr) (ifs : List Expr) (scope : Scope) (g : TG) (tt : TT) (te : TE) : Prop where
  tgt : ∀ (s : Shared) (H : Hp) (C : Addr) (cl : List (Str × Addr)) (fp : List Addr), HotT (X.blk s H scope (compEnvC scope cl C X.env) fp) → PG (X.blk s H scope (compEnvC scope cl C X.env) fp) tg g
  tst : ∀ (s : Shared) (H : Hp) (C : Addr) (cl : List (Str × Addr)) (fp : List Addr), HotT (X.blk s H scope (compEnvC scope cl C X.env) fp) → PTs (X.blk s H scope (compEnvC scope cl C X.env) fp) ifs tt
  elt : ∀ (s : Shared) (H : Hp) (C : Addr) (cl : List (Str × Addr)) (fp : List Addr), HotT (X.blk s H scope (compEnvC scope cl C X.env) fp) → PE (X.blk s H scope (compEnvC scope cl C X.env) fp) elt te
theorem lcT {pins : List (Addr × Obj)} {s : Shared} {σ : L2.St} {H : Hp} {Q : VK} {use : Option (Value → Sem Unit)} {Qf : Value → Shared → Prop}
    (hc : HotT X) (hN : X.N.Nodup) (I : Inv X pins σ H s) (hi : PE X iter tl) (ok : BlkOk X.N X.env.scope scope own) (B : BlkT X tg elt ifs scope g tt te) (hs : ∀ x, foldedSetIterable iter X.env x = pure x)
    (h : tLc (iList X.K tl) g tt te (own.map (·.2)) σ H Q)
    (hRR : ∀ D C s' m H', Inv X pins σ H' s' → Q (.ref D) H' → s'.heap.Ns C m → FpOk X pins H' C → compPost (model X.prog X.w) X.A X.xe use Qf (.ref D) C (.ok .next) s') :
    wpAny (model X.prog X.w) X.A (comprehension (.ListComp elt [⟨tg, iter, ifs, 0⟩] scope pos) scope X.env pos' (newList []) false (eval iter X.env) use) Qf X.xe s := by
  have hfree : ∀ y ∈ scope.names, y.2 = .free → ∃ c, X.env.cells.lookup y.1 = some c := fun y hy e =>
    (ok.free y hy e).elim (fun k => I.ok.has _ (.inl k)) fun k => I.ok.has _ (.inr k)
  refine wpAny_comprehension_free (use := use) rfl hs (closure_ok hfree) ok.kind (fun y hy e => by rw [ok.uniq y hy, e])
    (thn (hi.run pins s σ H _ I h) fun xv s1 hx => ?_)
  obtain ⟨x, H1, I1, r1, a, ea, ⟨xs, hq⟩, q⟩ := hx
  subst ea
  cases r1
  obtain ⟨its, rv, p, hz⟩ := I1.list hq
  refine wpAny_pyIter_list p.isList ?_
  -- the iterator, the new list
  generalize hit : s1.heap.objs.size = it
  generalize hs2 : ({ s1 with heap := s1.heap.push _ } : Shared) = s2
  have I2 : Inv X pins σ H1 s2 := by rw [← hs2]; exact I1.kept (t' := s1.toks) fun b o e => Heap.get?_push_of_some _ e
  have st2 : s2.heap.IsListIter it a 0 := by rw [← hs2, ← hit]; exact ⟨_, Heap.get?_push_size _ rfl, rfl, rfl⟩
  have f2 : FpOk X pins H1 it := by rw [← hit]; exact I1.fpOk (Nat.le_refl _) (I1.hok.fresh (Nat.le_refl _))
  refine wpAny_newObj_type (newEnv_comp ?_) (by show 0 ≤ sizeLine; decide)
  generalize hD : s2.heap.objs.size = Dn
  have hDn : H1 Dn = none := I2.hok.fresh (Nat.le_of_eq hD)
  obtain ⟨W, ⟨m0, w0⟩, turn⟩ := q Dn hDn
  generalize hs3 : ({ s2 with heap := s2.heap.push { cls := .type "list", data := .seq ([] : List Value).toArray } } : Shared) = s3
  have h3 : s3.heap = s2.heap.push { cls := .type "list", data := .seq ([] : List Value).toArray } := by rw [← hs3]
  have I3 : Inv X pins σ (upd H1 Dn (.lst [])) s3 := by
    rw [← hs3]
    refine I2.laid (t' := s2.toks) (fun b o e => Heap.get?_push_of_some _ e) (Nat.le_of_eq hD) ⟨Nat.zero_le _, [], 0, .nil, ?_⟩
    rw [← hD]
    exact Heap.get?_push_size _ rfl
  have lt2 : it < s2.heap.objs.size := by obtain ⟨o, e, _⟩ := st2; exact Heap.lt_size e
  have neD : it ≠ Dn := by rw [← hD]; exact Nat.ne_of_lt lt2
  have f3 : FpOk X pins (upd H1 Dn (.lst [])) it := ⟨by rw [upd_ne neD]; exact f2.1, f2.2⟩
  have f3' : ∀ b ∈ [it], FpOk X pins (upd H1 Dn (.lst [])) b ∧ b < s3.heap.objs.size := fun b hb => by
    have e : b = it := by simpa using hb
    subst e
    exact ⟨f3, by rw [h3, Heap.size_push]; exact Nat.lt_succ_of_lt lt2⟩
  have st3 : s3.heap.IsListIter it a 0 := st2.at fun o e => by rw [h3]; exact Heap.get?_push_of_some _ e
  have I4 := block_start I3 ok hN f3'
  have sm : Same H1 (upd H1 Dn (.lst [])) := same_upd hDn
  have hcB := hc.blk I2 s3 scope (compEnvC scope (cellsFrom (s3.heap.objs.size + 1) scope.names (cloFrom X.env.cells scope.names [])) s3.heap.objs.size X.env) [it] sm
  have pg := B.tgt s3 (upd H1 Dn (.lst [])) s3.heap.objs.size (cellsFrom (s3.heap.objs.size + 1) scope.names (cloFrom X.env.cells scope.names [])) [it] hcB
  have pt := B.tst s3 (upd H1 Dn (.lst [])) s3.heap.objs.size (cellsFrom (s3.heap.objs.size + 1) scope.names (cloFrom X.env.cells scope.names [])) [it] hcB
  have pe := B.elt s3 (upd H1 Dn (.lst [])) s3.heap.objs.size (cellsFrom (s3.heap.objs.size + 1) scope.names (cloFrom X.env.cells scope.names [])) [it] hcB
  show codeAny _ _ (.compStart (.ListComp elt [⟨tg, iter, ifs, 0⟩] scope pos) 0 (.ref it) (.ref Dn) (compEnvC scope (cellsFrom (s3.heap.objs.size + 1) scope.names (cloFrom X.env.cells scope.names [])) s3.heap.objs.size X.env)) (compPost (model X.prog X.w) X.A X.xe use Qf (.ref Dn) s3.heap.objs.size) { s3 with heap := pushCells (s3.heap.push { cls := .type "dict", data := .dict #[] }) scope.names }
  generalize hce : compEnvC scope (cellsFrom (s3.heap.objs.size + 1) scope.names (cloFrom X.env.cells scope.names [])) s3.heap.objs.size X.env = ce at I4 pg pt pe hcB ⊢
  have cL : ce.locals = s3.heap.objs.size := by subst hce; rfl
  have n3 : (upd H1 Dn (.lst [])) it = none := f3.1
  generalize hH3 : upd H1 Dn (.lst []) = H3 at I3 I4 pg pt pe hcB w0 n3 f3 f3'
  generalize hs4 : ({ s3 with heap := pushCells (s3.heap.push { cls := .type "dict", data := .dict #[] }) scope.names } : Shared) = s4 at I4 ⊢
  have st4 : s4.heap.IsListIter it a 0 := st3.at fun o e => by rw [← hs4]; exact pushCells_keeps _ _ _ _ (Heap.get?_push_of_some _ e)
  generalize hY : X.blk s3 H3 scope ce [it] = Y at I4 pg pt pe hcB
  have stat : ∀ {σ' : L2.St} {H' : Hp} {s' : Shared}, Inv Y [] σ' H' s' → H' it = none → FpOk Y [] H' it := fun {σ' H' s'} I' hn => by
    subst hY
    exact ⟨hn, (I'.ok.exf it (by simp)).1, I'.ok.exfs it (by simp), .inl (by simp), fun x c e => (I'.ok.exf it (by simp)).2 x c e, fun p hp => absurd (show p ∈ ([] : List (Addr × Obj)) ++ [] from hp) (by simp)⟩
  have stat' : ∀ {σ' : L2.St} {H' : Hp} {s' : Shared}, Inv Y [] σ' H' s' → H' it = none → ∀ b ∈ [it], FpOk Y [] H' b := fun {σ' H' s'} I' hn b hb => by
    have e : b = it := by simpa using hb
    subst e
    exact stat I' hn
  have yP : Y.prog = X.prog := by rw [← hY]
  have yw : Y.w = X.w := by rw [← hY]
  have yA : Y.A = X.A := by rw [← hY]
  have yK : Y.K = X.K := by rw [← hY]
  have loop : codeAny (model X.prog X.w) X.A (.compLoop (.ListComp elt [⟨tg, iter, ifs, 0⟩] scope pos) 0 (.ref it) (.ref Dn) ce) (compPost (model X.prog X.w) X.A X.xe use Qf (.ref Dn) s3.heap.objs.size) s4 := by
    refine compLoop_any (fun n s' => ∃ i H', Inv Y [] (wipe σ (own.map (·.2))) H' s' ∧ s'.heap.IsListIter it a i ∧ H' it = none ∧ W i n H') ?_ m0 ⟨0, H3, I4, st4, n3, w0⟩
    rintro n s5 ⟨i, H5, I5, st5, n5, w5⟩
    rcases turn i n H5 w5 with ⟨stop, qq⟩ | ⟨go, Nx, hNx, step⟩
    · have td := doneT (X := Y) (a := a) (E := fun _ _ => False) hcB I5 (stat I5 n5) st5 (by rw [yK]; exact stop)
      rw [yP, yw, yA] at td
      refine thnF td fun r s6 ⟨hr, I6⟩ => ?_
      subst hr
      subst hY
      have I7 : Inv X pins σ H5 s6 := I3.call' (ch := [it]) I6.os I6.base I6.hok I6.bare fun b hb => by
        have e : b = it := by simpa using hb
        subst e
        exact ⟨f3.2.2.2.1, f3.2.1, f3.2.2.2.2.1, f3.2.2.2.2.2⟩
      have nC : H5 s3.heap.objs.size = none := by
        have z : H5 ce.locals = none := I6.free
        rw [cL] at z
        exact z
      obtain ⟨m, hn, _⟩ := I6.loc
      have hn : s6.heap.Ns ce.locals m := hn
      rw [cL] at hn
      exact hRR Dn s3.heap.objs.size s6 m H5 I7 qq hn (I3.fpOk (Nat.le_refl _) nC)
    · have ti := itemT (X := Y) (tg := tg) (a := a) (E := fun _ _ => False) I5 (stat I5 n5) st5 (by rw [yK]; exact go)
      rw [yP, yw, yA, yK] at ti
      refine thnF ti fun r s6 ⟨u, hr, h6⟩ => ?_
      subst hr
      refine thnF h6 fun _ s7 ⟨x, I7, r7, y7, st7⟩ => ?_
      obtain ⟨oi, ei, ci, di⟩ := id st7
      have oi' : ∀ b ∈ [it], ∃ o, s7.heap.get? b = some o ∧ ∀ v, o.data ≠ .cell v := fun b hb => by
        have e : b = it := by simpa using hb
        subst e
        exact ⟨oi, ei, fun v z => by rw [di] at z; cases z⟩
      have I7' := I7.pinned (stat' I7 n5) oi'
      have fin : ∀ {σ8 : L2.St} {s' : Shared} {H' : Hp}, wipe σ8 (own.map (·.2)) = wipe σ (own.map (·.2)) → Inv Y ([] ++ pinsAt [it] s7.heap) σ8 H' s' → Nx H' → ∃ m, m < n ∧ ∃ i H', Inv Y [] (wipe σ (own.map (·.2))) H' s' ∧ s'.heap.IsListIter it a i ∧ H' it = none ∧ W i m H' := fun {σ8 s' H'} hw8 I' nx => by
        obtain ⟨m', hm, w'⟩ := hNx H' nx
        have z := I'.pin (it, oi) (List.mem_append_right _ (List.mem_append_right _ (mem_pinsAt (by simp) ei)))
        have hl : (wipe σ (own.map (·.2))).length = σ8.length := by rw [← hw8, wipe_length]
        refine ⟨m', hm, i + 1, H', (I'.unpinned (pins := [])).weak hl (fun j v e => ?_), ⟨oi, z.1, ci, di⟩, z.2.1, w'⟩
        rw [← hw8] at e
        exact (wipe_some e).1
      subst hY
      refine thnF (pg.run _ s7 _ H5 x u _ I7' r7 (step x H5 y7)) fun _ s8 ⟨σ8, H8, I8, hw8, q8⟩ => ?_
      refine thnF (pt.run _ s8 σ8 H8 _ I8 q8) fun b s9 ⟨H9, I9, q9⟩ => ?_
      cases b with
      | false =>
        simp only [Bool.false_eq_true, if_false] at q9 ⊢
        exact fin hw8 I9 q9
      | true =>
        simp only [if_true] at q9 ⊢
        refine thnF (pe.run _ s9 σ8 H9 _ I9 q9) fun z s10 ⟨yv, H10, I10, r10, acc, hD10, hz10, nx⟩ => ?_
        exact app_ok (X := X.blk s3 H3 scope ce [it]) I10 hD10 hz10 r10 fun s11 I11 => fin hw8 I11 nx
  exact codeAny_compStart_list loop (wpAny_pyIter_listiter st4 loop)
end
end G
end

section
set_option Elab.async false
set_option linter.all false
set_option maxRecDepth 100000
set_option maxHeartbeats 2000000
namespace G
open PySem PySem.Spec PyProof.Rows L2 HotX
/-! ## comprehensions over a list, calm and hot -/
def iSeqL (f : Ev → M D) : Ev → M (List D) := fun env => do
  let d ← f env
  itemsL d
section
variable {X : Cx} {W : XW} {e : Expr} {fa : Ev → M D} {pos : Pos}
theorem seqL_rd {σ : L2.St} {H : Hp} {R : It → Hp → Prop} (h : rdI X.K W (iSeqL fa) σ H R) : iList X.K (rdE X.K W fa) σ H R := by
  obtain ⟨w, env, hk, rfl, r, n, h⟩ := h
  refine ⟨w, env, hk, rfl, r, n, (Wp.bind h).imp fun d w1 a1 h1 v rv => ?_⟩
  obtain ⟨l, rfl, h2⟩ := itemsL_wp a1.rs h1
  have rv0 := rv
  simp only [Rep] at rv
  obtain ⟨a, xs, rfl, s, _⟩ := rv
  exact ⟨a, rfl, ⟨xs, SqL.of s.1.1⟩, by rw [← hk, ← a1.k]; exact h2 _ (walks_list rv0)⟩
theorem di_seqL {tg : Expr} (h : DE X W e fa) : DI X W tg e (iSeqL fa) := PI.imp' (pi_list h) fun σ H R h => seqL_rd h
def BlkH (X : Cx) (scope : Scope) (P : Cx → Prop) : Prop := ∀ (s : Shared) (H : Hp) (C : Addr) (cl : List (Str × Addr)) (fp : List Addr), HotT (X.blk s H scope (compEnvC scope cl C X.env) fp) → P (X.blk s H scope (compEnvC scope cl C X.env) fp)
theorem ds_setCompIfT (i : Nat) {y : Str} {py spos : Pos} {elt tgt iter cond : Expr} {scope : Scope} {own : List (Str × Nat)} {t : TG} {tg : D → Ev → Option Ev} {is : List Nat} {tt : Ev → M Bool} {fe : Ev → M D} (hc : HotT X) (hN : X.N.Nodup) (hy : X.N[i]? = some y) (hyl : X.env.scope.names.lookup y = some .local)
    (hsw : swapsWith (.ListComp elt [⟨tgt, iter, [cond], 0⟩] scope pos) (some (.Name y py)) spos.line X.env = pure true) (hi : DE X W iter fa) (ok : BlkOk X.N X.env.scope scope own)
    (hg : BlkH X scope fun X' => PG X' tgt t) (ht : TgOk X.K t tg is) (hv : ∀ i ∈ is, i ∈ own.map (·.2)) (hif : BlkH X scope fun X' => DT X' W0 cond tt) (he : BlkH X scope fun X' => DE X' W0 elt fe) (hs : ∀ x, foldedSetIterable iter X.env x = pure x := by intro _; rfl) :
    DS X W (.Assign [.Name y py] (.ListComp elt [⟨tgt, iter, [cond], 0⟩] scope pos) spos) (sAsg i (eComp (own.map (·.2)) (iSeqL fa) tg tt fe)) := by
  have B : BlkT X tgt elt [cond] scope t (rdT X.K W0 tt) (rdE X.K W0 fe) := ⟨hg, fun s H C cl fp z => pts_one (hif s H C cl fp z), he⟩
  refine ⟨fun pins s σ H D' I h => ?_⟩
  have h1 : tLc (rdI X.K W (iSeqL fa)) t (rdT X.K W0 tt) (rdE X.K W0 fe) (own.map (·.2)) σ H (fun x H1 => gName i x σ H1 D'.nx) := comp_rd ht hv (asg_rd h)
  have h2 : tLc (iList X.K (rdE X.K W fa)) t (rdT X.K W0 tt) (rdE X.K W0 fe) (own.map (·.2)) σ H (fun x H1 => gName i x σ H1 D'.nx) := seqL_rd h1
  rw [exec_Assign_Name_used _ _ _ _ hsw]
  refine wpAny_bind (wpAny_standAt (wpAny_bind ?_))
  show wpAny _ X.A (do let _ ← comprehension (.ListComp elt [⟨tgt, iter, [cond], 0⟩] scope pos) scope X.env (firstIterPos [⟨tgt, iter, [cond], 0⟩] pos) (newList []) false (eval iter X.env) (some (assign (.Name y py) X.env))) _ _ s
  refine wpAny_bind (thn (lcT (Qf := fun _ s' => SP X pins D' .next s') hc hN I hi ok B hs h2 fun L C s' m H' I' q hn f => ?_) fun _ s' hq => wpAny_pure (wpAny_pure hq))
  show wpAny _ _ (assign (.Name y py) X.env (.ref L)) _ _ _
  refine wpAny_assign_Name (store_ok2 (v := V.ref L) I' hN hy (.inl hyl) rfl (fun s2 I2 ⟨a, sb, ha⟩ => ?_) (.inr hyl))
  obtain ⟨f0, f1, f2, f3, f4, f5⟩ := f
  have haC : C ≠ a := by
    rcases ha with z | z
    · rw [z]; exact f1
    · exact fun e => f4 y a z e.symm
  refine ⟨m, hn.sameBut sb haC, fun h3 sb3 => ?_⟩
  exact ⟨_, H', I2.turned (t' := s2.toks) (fun b o hb e => (sb3.2 b hb).trans e) f0 f1 f3 f4 f5, q⟩
end
/-! ## exceptions as values: their classes -/
structure XCls (K : PySem.W.Frag) (mg : Str → Option Value) (x : Str) : Prop where
  mg_ : mg x = some (.ref (He.ga K x))
  kp : PySem.W.keepIn K (.ref (He.ga K x)) = true
  ex : PySem.W.excIn K (He.ga K x) HandSPX.veTail "ValueError.__new__" = true
  sub : PySem.W.subIn K (.ref (He.ga K x)) (.type "BaseException") = some true
  ty : PySem.W.typeIn K (.ref (He.ga K x)) = some (.type "type")
  c : ExcC K (He.ga K x)
def clsB (K : PySem.W.Frag) (x : Str) : Bool :=
  PySem.W.keepIn K (.ref (He.ga K x)) && (PySem.W.excIn K (He.ga K x) HandSPX.veTail "ValueError.__new__" && ((PySem.W.subIn K (.ref (He.ga K x)) (.type "BaseException") == some true) && ((PySem.W.typeIn K (.ref (He.ga K x)) == some (.type "type")) &&
  ((PySem.W.findIn K (.ref (He.ga K x)) "__getattribute__" == some (some (.builtin "BaseException.__getattribute__"))) && ((PySem.W.findIn K (.ref (He.ga K x)) "__getattr__" == some none) && (PySem.W.hasDictIn K (He.ga K x) && ((PySem.W.findIn K (.ref (He.ga K x)) "__class__" == some (some (.builtin "object.__class__"))) &&
  ((PySem.W.specialIn K (.builtin "object.__class__") "__get__" == some (some (.builtin "getset_descriptor.__get__"))) && ((PySem.W.takesIn K (.builtin "object.__class__") == some true) && (PySem.W.mroIn K (He.ga K x) (.type "object") == some true))))))))))
theorem clsB_ok {K : PySem.W.Frag} {mg : Str → Option Value} {x : Str} (h : mg x = some (.ref (He.ga K x))) (c : clsB K x = true) : XCls K mg x := by
  unfold clsB at c
  simp only [Bool.and_eq_true, beq_iff_eq] at c
  obtain ⟨c1, c2, c3, c4, c5, c6, c7, c8, c9, c10, c11⟩ := c
  exact ⟨h, c1, c2, c3, c4, ⟨c5, c6, c3, c7, c8, c9, c10, c11⟩⟩
end G
end

section
set_option Elab.async false
set_option linter.all false
set_option maxRecDepth 100000
set_option maxHeartbeats 2000000
namespace G
open PySem PySem.Spec PyProof.Rows L2 HotX
/-! ## isinstance of an exception -/
def rIsX (K : PySem.W.Frag) : List V → Hp → VK → Prop := fun xs H Q => ∃ (a : Addr) (o : HO) (c : V) (n : Str) (u : Value) (b : Bool), xs = [.ref a, c] ∧ H a = some o ∧ ExIs K n a o ∧ ExcC K (He.ga K n) ∧ ClsV c u ∧ PySem.W.kitOne K (.ref (He.ga K n)) u = some b ∧ Q (.bl b) H
theorem cr_isX {X : Cx} : CallR X (.builtin "isinstance") (rIsX X.K) := by
  intro pins s σ H xs us Q I r h
  obtain ⟨a, o, c, n, u, b, rfl, ha, hx, C, k, e, q⟩ := h
  obtain ⟨u1, u2, rfl, r1, r2⟩ := vals2 r
  have e2 := k.eq r2
  subst e2
  cases (show u1 = Value.ref a from r1)
  obtain ⟨oe, vs, hget, hz, hv⟩ := hx _ _ _ _ (I.hok a o ha)
  have J : PySem.W.InstAt s.heap a oe (He.ga X.K n) none := by
    obtain ⟨oc, od, oda, osl⟩ := oe
    obtain ⟨h1, h2⟩ := hz
    dsimp only at h1 h2 hv
    subst h1 h2 hv
    exact ⟨hget, rfl, rfl, trivial⟩
  exact PySem.W.kia_one (PySem.W.handS_kitx_exc C.hg C.hk C.hs C.hd C.ha C.hn C.ht C.hm) I.kIn J e (fun z => nomatch z) fun tk => ⟨.bl b, H, I.tok tk, rfl, q⟩
/-- of which class: by names -/
def dIsX (sub : Str → Option Bool) : D → Store → Option D := fun d _ => match d with
  | .exc c => (sub c).map .bl
  | _ => none
/-- what the classes say of a class whose value is u -/
def SubOk (K : PySem.W.Frag) (sub : Str → Option Bool) (u : Value) : Prop := ∀ c b, sub c = some b → ExcC K (He.ga K c) ∧ PySem.W.kitOne K (.ref (He.ga K c)) u = some b
section
variable {X : Cx} {W : XW} {e a b c : Expr} {pos p p' : Pos} {fa : Ev → M D} {x : Str}
theorem isx_rd {sub : Str → Option Bool} {cv : V} {u : Value} (hk0 : ClsV cv u) (hs : SubOk X.K sub u) {σ : L2.St} {H : Hp} {Q : VK} (h : rdE X.K W (eUn (dIsX sub) fa) σ H Q) : rdE X.K W fa σ H fun v H1 => rIsX X.K [v, cv] H1 Q := by
  obtain ⟨w, env, hk, rfl, r, n, h⟩ := h
  refine ⟨w, env, hk, rfl, r, n, (Wp.bind h).imp fun d w1 a1 h1 v rv => ?_⟩
  have q := Wq.of h1
  obtain ⟨d', e⟩ := wq_some q
  have e0 := e
  unfold dIsX at e
  split at e
  · rename_i c
    cases es : sub c with
    | none => rw [es] at e; cases e
    | some b =>
      obtain ⟨z1, z2⟩ := hs c b es
      simp only [Rep] at rv
      obtain ⟨a, o, rfl, f, x⟩ := rv
      have hk1 : w1.K = X.K := a1.k.trans hk
      refine ⟨a, o, cv, c, u, b, rfl, f.1.1, by rw [← hk1]; exact x, z1, hk0, z2, q.here a1.rs (by simp only [dIsX, es, Option.map_some]) (rep_bl _)⟩
  · cases e
/-- isinstance(e, C), C a class of the text -/
theorem de_isxO {sub : Str → Option Bool} (hs : SubOk X.K sub (.ref (He.ga X.K x))) (ha : DE X W a fa) (hg : Gl X "isinstance") (hm : X.mg "isinstance" = none) (hg2 : Gl X x) (hm2 : X.mg x = some (.ref (He.ga X.K x))) (hdb : (x == ("__debug__" : Str)) = false := by decide)
    (he : starEach [a, .Name x p'] X.env = (false, eval a X.env) :: starEach [.Name x p'] X.env := by rfl) (he2 : starEach [.Name x p'] X.env = (false, eval (.Name x p') X.env) :: starEach [] X.env := by rfl) (hpl : (backTo pos (starEach [.Name x p'] X.env)).any (·.1) = false := by rfl) :
    DE X W (.Call (.Name "isinstance" p) [a, .Name x p'] [] pos) (eUn (dIsX sub) fa) :=
  PE.imp' (pe_callB cr_isX hg hm (by decide +kernel) (pa_cons ha (pa_cons (pe_glob (v := .ref (He.ga X.K x)) hg2 hm2 rfl hdb) pa_nil he2) he) (by decide) (by decide) he hpl) fun σ H Q h => isx_rd (.own _) hs h
/-- isinstance(e, T), T a built-in class -/
theorem de_isxB {sub : Str → Option Bool} {T : String} (hs : SubOk X.K sub (.type T)) (ha : DE X W a fa) (hg : Gl X "isinstance") (hm : X.mg "isinstance" = none) (hg2 : Gl X x) (hm2 : X.mg x = none) (hv : bootBuiltins x = some (.type T)) (hn : x ≠ "__name__" := by decide) (hdb : (x == ("__debug__" : Str)) = false := by decide)
    (he : starEach [a, .Name x p'] X.env = (false, eval a X.env) :: starEach [.Name x p'] X.env := by rfl) (he2 : starEach [.Name x p'] X.env = (false, eval (.Name x p') X.env) :: starEach [] X.env := by rfl) (hpl : (backTo pos (starEach [.Name x p'] X.env)).any (·.1) = false := by rfl) :
    DE X W (.Call (.Name "isinstance" p) [a, .Name x p'] [] pos) (eUn (dIsX sub) fa) :=
  PE.imp' (pe_callB cr_isX hg hm (by decide +kernel) (pa_cons ha (pa_cons (pe_bltn (v := .ty T) hg2 hm2 hv rfl hn hdb) pa_nil he2) he) (by decide) (by decide) he hpl) fun σ H Q h => isx_rd (.ty T) hs h
/-! ## isinstance of data, the class one of the text: never -/
def dIsNo : D → Store → Option D := fun d st => (tyName st d).map fun _ => .bl false
def tyB (K : PySem.W.Frag) (x : Str) : Bool := ["NoneType", "bool", "int", "str", "tuple", "list", "dict"].all fun n => PySem.W.kitOne K (.type n) (.ref (He.ga K x)) == some false
theorem de_isNo (hs : tyB X.K x = true) (ha : DE X W a fa) (hg : Gl X "isinstance") (hm : X.mg "isinstance" = none) (hg2 : Gl X x) (hm2 : X.mg x = some (.ref (He.ga X.K x))) (hdb : (x == ("__debug__" : Str)) = false := by decide)
    (he : starEach [a, .Name x p'] X.env = (false, eval a X.env) :: starEach [.Name x p'] X.env := by rfl) (he2 : starEach [.Name x p'] X.env = (false, eval (.Name x p') X.env) :: starEach [] X.env := by rfl) (hpl : (backTo pos (starEach [.Name x p'] X.env)).any (·.1) = false := by rfl) :
    DE X W (.Call (.Name "isinstance" p) [a, .Name x p'] [] pos) (eUn dIsNo fa) := by
  refine PE.imp' (pe_callB call_isi hg hm (by decide +kernel) (pa_cons ha (pa_cons (pe_glob (v := .ref (He.ga X.K x)) hg2 hm2 rfl hdb) pa_nil he2) he) (by decide) (by decide) he hpl) fun σ H Q h => ?_
  obtain ⟨w, env, hk, rfl, r, n, h⟩ := h
  refine ⟨w, env, hk, rfl, r, n, (Wp.bind h).imp fun d w1 a1 h1 v rv => ?_⟩
  have q := Wq.of h1
  obtain ⟨d', e⟩ := wq_some q
  cases et : tyName w1.st d with
  | none => unfold dIsNo at e; rw [et] at e; cases e
  | some t =>
    have z := List.all_eq_true.mp hs t (tyName_mem et)
    refine ⟨v, .ref (He.ga X.K x), .type t, .ref (He.ga X.K x), false, rfl, .own _, by rw [← hk, ← a1.k]; exact tyx_of a1.rs rv et, eq_of_beq z, ?_⟩
    exact q.here a1.rs (by unfold dIsNo; rw [et]; rfl) (rep_bl _)
/-! ## a class called: an exception as a value -/
def eExc (c : Str) : Ev → M D := fun _ => pure (.exc c)
theorem exIs_new {K : PySem.W.Frag} {c : Str} {a : Addr} : ExIs K c a (ExO (.ref (He.ga K c)) a) := fun P w H h ⟨⟨oe, vs, e, z, d, _⟩, _⟩ => ⟨oe, vs, e, z, d⟩
theorem pe_exc0 {C : Addr} (q : PySem.W.excIn X.K C HandSPX.veTail "ValueError.__new__" = true) (gC : X.mg x = some (.ref C)) (kC : PySem.W.keepIn X.K (.ref C) = true) (hg : Gl X x) (hdb : (x == ("__debug__" : Str)) = false := by decide) :
    PE X (.Call (.Name x p) [] [] pos) (fun σ H Q => ∀ a, H a = none → Q (.ref a) (upd H a (ExO (.ref C) a))) := by
  refine ⟨fun pins s σ H Q I h => ?_⟩
  refine wpAny_Call_Name_kw (ld_glob I hg gC ?_ hdb)
  refine PySem.W.callWith_K0 I.kIn kC ?_
  show wpAny _ _ (call (.ref C) []) _ _ _
  obtain ⟨bm, N, nm, qn, bs, hdct, sn, sub, ab, col, dd, k0, k1, k2, k3, k5, mN, hC, hN, hni, T⟩ := exc_obj I.kIn q
  refine wpAny_call_exc_subT PySem.F.excBase_ValueError T hC hN hni (fun h' a hm => ?_) (by show 0 ≤ sizeLine; exact Nat.zero_le _)
  have hn : H a = none := I.hok.gone hm.new
  obtain ⟨t, ht, _, _⟩ := hm.there
  exact ⟨.ref a, upd H a (ExO (.ref C) a), I.laidN hm.keeps hm.new hn (exO_ok ht ⟨rfl, rfl⟩ rfl rfl rfl (show 4 < 6 by decide)), rfl, h a hn⟩
theorem de_exc0 (k : XCls X.K X.mg x) (hg : Gl X x) (hdb : (x == ("__debug__" : Str)) = false := by decide) : DE X W (.Call (.Name x p) [] [] pos) (eExc x) := PE.imp' (pe_exc0 k.ex k.mg_ k.kp hg hdb) fun σ H Q h => by
  obtain ⟨w, env, hk, rfl, r, n, h⟩ := h
  intro a ha
  have a1 := aft_new (K := w.K) (m := w.m) (st := w.st) (H := w.H) (rv := w.rv) (o := ExO (.ref (He.ga X.K x)) a) r ha
  refine h _ a1 rfl (.ref a) ?_
  simp only [Rep]
  exact ⟨a, _, rfl, fr_new r ha, by rw [hk]; exact exIs_new⟩
/-! ## raise -/
theorem pmk_arg {C : Addr} {ta : TE} (q : PySem.W.excIn X.K C HandSPX.veTail "ValueError.__new__" = true) (gC : X.mg x = some (.ref C)) (kC : PySem.W.keepIn X.K (.ref C) = true) (r : Raises X (.ref C)) (hg : Gl X x) (he : PE X e ta)
    (hdb : (x == ("__debug__" : Str)) = false := by decide) (hs : starEach [e] X.env = (false, eval e X.env) :: starEach [] X.env := by rfl) (hpl : (backTo pos (starEach [] X.env)).any (·.1) = false := by rfl) : L2N.PMk X (.Call (.Name x p) [e] [] pos) (fun σ H Q => ta σ H fun _ H1 => Q (.ref C) none H1) := by
  intro pins s σ H Q I h
  refine wpAny_Call_Name_kw (ld_glob I hg gC ?_ hdb)
  refine PySem.W.callWith_K (h₀ := X.base) I.ok.mod.kin kC ?_ hs hpl
  rw [hs]
  show wpAny _ _ (spliced ((false, eval e X.env) :: backTo pos (starEach [] X.env))) _ _ s
  refine Calls.spliced_cons (thn (he.run pins s σ H _ I h) fun u s1 ⟨v, H1, I1, r1, q1⟩ => ?_)
  refine Calls.spliced_nil ⟨I1.kIn, ?_⟩
  show wpAny _ _ (call (.ref C) [u]) _ _ _
  obtain ⟨bm, N, nm, qn, bs, hdct, sn, sub, ab, col, dd, k0, k1, k2, k3, k5, mN, hC, hN, hni, T⟩ := exc_obj I1.kIn q
  refine wpAny_call_exc_subT PySem.F.excBase_ValueError T hC hN hni (fun h' e hm => ?_) (by show 1 ≤ sizeLine; rw [sizeLine_eq]; omega)
  exact L2N.mk_of I1 hm r q1 (I1.hok.gone hm.new)
def sRaise (c : Str) (f : Ev → M D) : Ev → M Fl := fun env => stx (f env) env fun _ => pure (.exc c env)
/-- raise C(e) -/
theorem ds_raise {Wx : WX} (hc : X.calm = true) (k : XCls X.K X.mg x) (tk : L2N.Takes X Wx) (hW : W = wX X.K Wx) (hg : Gl X x) (he : DE X W e fa)
    (hdb : (x == ("__debug__" : Str)) = false := by decide) (hs : starEach [e] X.env = (false, eval e X.env) :: starEach [] X.env := by rfl) (hpl : (backTo pos (starEach [] X.env)).any (·.1) = false := by rfl) :
    DS X W (.Raise (some (.Call (.Name x p) [e] [] pos)) none p') (sRaise x fa) :=
  PS.imp' (L2N.ps_raise hc tk (pmk_arg k.ex k.mg_ k.kp (raises_own k.sub k.ty) hg he hdb hs hpl)) fun D' σ H h => by
    obtain ⟨w, env, hk, rfl, r, n, h⟩ := h
    refine ⟨w, env, hk, rfl, r, n, (stx_wp n h).imp fun d w1 a1 h1 v rv => ?_⟩
    have z := Wp.ok_ (P := SFl W D') (W := nov) (a := Fl.exc x env) a1.rs h1
    have z := z σ (n.after a1)
    rw [hW] at z
    exact z
end
end G
end

section
set_option Elab.async false
set_option linter.all false
set_option maxRecDepth 100000
set_option maxHeartbeats 2000000
namespace G
open PySem PySem.Spec PyProof.Rows L2 HotX
/-! ## a def called within an except suite, of the exception that is handled -/
section
variable {P : Program} {w : World} {K : PySem.W.Frag} {mg : Str → Option Value} {base : Heap}
def cxT (P : Program) (w : World) (K : PySem.W.Frag) (mg : Str → Option Value) (base : Heap) (N : List Str) (qual : Str) (scope : Scope) (f : Addr) (cd : Value) (A : Around) (outer : List Env) (s : Shared) (H : Hp) (E : XK) : Cx :=
  { cxOf (L2N.CX P w) P w K mg base N qual scope f cd A outer s H E with calm := false, xe := fun _ _ => False }
theorem inv_startT {N ps : List Str} {qual : Str} {scope : Scope} {f : Addr} {cd : Value} {A : Around} {outer : List Env} {s s1 : Shared} {H : Hp} {E : XK} {us : List Value} {vs : List V}
    (S : FnScope N ps scope) (e0 : Env0 P w K mg base A outer s H) (hl : vs.length = ps.length) (r : Vals vs us)
    (x : InCallC s s.heap.objs.size (bindL (envOfC qual scope s.heap.objs.size f cd).kindOf (ps.zip us) fun _ => none) (cellsFrom (s.heap.objs.size + 1) scope.names []) (bindC (envOfC qual scope s.heap.objs.size f cd).kindOf (ps.zip us) fun _ => none) s1) :
    Inv (cxT P w K mg base N qual scope f cd A outer s H E) [] (L2.start N vs) H s1 := by
  have e1 : Env0 P w K mg base ({ A with handled := none } : Around) outer s H := ⟨e0.frames, e0.mod, e0.bs, e0.bsz, e0.funs, e0.frf, e0.hok, e0.bare⟩
  have I := inv_start (CX := L2N.CX P w) (E := E) S rfl e1 hl r x
  exact ⟨⟨I.ok.mod, I.ok.kind, I.ok.glob, I.ok.blt, I.ok.above, I.ok.inj, I.ok.has, I.ok.cab, fun z => Bool.noConfusion (show false = true from z), Around.frames_deeper e0.frames, I.ok.stk, I.ok.exf, I.ok.bs, I.ok.bsz, I.ok.noex, I.ok.exfs, I.ok.funs, I.ok.frf⟩, I.os, I.bare, I.base, I.loc, I.cell, I.free, I.freeC, I.pin, I.hok, I.len⟩
/-- the promise: of an exception of the class c it tells the text that F tells -/
structure FnW (P : Program) (w : World) (K : PySem.W.Frag) (mg : Str → Option Value) (base : Heap) (k : Nat) (f : Addr) (fd : FuncData) (x : Str) (F : List D → M D) : Prop where
  run : ∀ (A : Around) (outer : List Env) (s : Shared) (H : Hp) (args : Args) (a : Addr) (oe : Obj) (vs : Array Value) (c r : Str) (st' : Store) (Q : VK) (E : XK), A.guards = some [] → L2H.RoomH k A → A.handled = some (.ref a) → L2N.Zn (.ref (He.ga K c)) none oe → oe.data = .fields vs → L2H.PinOk outer H s (a, oe) →
    Env0 P w K mg base A outer s H → BindsTo s fd args [(x, .ref a)] → F [.exc c] [] = .ok (.str r) st' → (∀ H', Same H H' → Q (.str r) H') → codeAny (model P w) A (.call (.ref f) args) (CR (L2N.CX P w) outer P w H s Q E) s
/-- no object of the written part is an instance -/
def noIns (K : PySem.W.Frag) : Bool := K.all fun p => match p.2.cls with
  | .ref _ => false
  | _ => true
theorem look_mem : ∀ {K : List (Addr × Obj)} {a : Addr} {o : Obj}, K.lookup a = some o → (a, o) ∈ K
  | [], a, o, h => by simp at h
  | (b, u) :: K, a, o, h => by
    by_cases q : a = b
    · subst q
      simp at h
      simp [h]
    · have : (a == b) = false := by simpa using q
      simp only [List.lookup, this] at h
      exact List.mem_cons_of_mem _ (look_mem h)
theorem noIns_ok (h : noIns K = true) {a : Addr} {o : Obj} {c : Addr} (e : K.lookup a = some o) (hc : o.cls = .ref c) : False := by
  have m : (a, o) ∈ K := look_mem e
  have z := List.all_eq_true.mp h _ m
  simp only [hc] at z
  cases z
/-- the abstract heap with the handled exception -/
abbrev hpX (H : Hp) (a : Addr) (oe : Obj) : Hp := upd H a (.frz oe (.ext fun h => h.get? a = some oe))
theorem hpX_ne {H : Hp} {a b : Addr} {oe : Obj} (h : b ≠ a) : hpX H a oe b = H b := upd_ne h
theorem env_hot {A : Around} {outer : List Env} {s : Shared} {H : Hp} {a : Addr} {oe : Obj} {vs : Array Value} {c : Addr} (hK : noIns K = true) (hc : oe.cls = .ref c) (hd : oe.data = .fields vs) (pin : L2H.PinOk outer H s (a, oe)) (e0 : Env0 P w K mg base A outer s H) :
    ∃ base', Env0 P w K mg base' A outer s (hpX H a oe) := by
  let Ha : Hp := fun b => if b = a then some (.frz oe (.ext fun h => h.get? a = some oe)) else none
  have hget : s.heap.get? a = some oe := pin.get
  have han : ∀ {b : Addr}, b ≠ a → Ha b = none := fun hb => if_neg hb
  have hid : ∀ {b : Addr} {o : Obj}, base.get? b = some o → b ≠ a → (hidT base Ha).get? b = some o := fun z n => hidT_get z (han n)
  have of_ : ∀ {b : Addr} {o : Obj}, (hidT base Ha).get? b = some o → base.get? b = some o ∧ b ≠ a := fun {b o} z => by
    obtain ⟨z1, z2⟩ := of_hidT z
    refine ⟨z1, fun q => ?_⟩
    have : Ha b = some (.frz oe (.ext fun h => h.get? a = some oe)) := if_pos q
    rw [this] at z2
    cases z2
  have nsH : ∀ {b : Addr} {m : Str → Option Value}, base.Ns b m → (hidT base Ha).Ns b m := by
    rintro b m ⟨o, es, ep, z, d, r⟩
    refine ⟨o, es, ep, hid z fun q => ?_, d, r⟩
    have z2 := (e0.bs b o z).1
    rw [q, hget] at z2
    cases z2
    rw [hd] at d
    cases d
  have kin : K.In (hidT base Ha) := fun b o z => hid (e0.mod.kin b o z) fun q => by
    have z2 := (e0.bs b o (e0.mod.kin b o z)).1
    rw [q, hget] at z2
    cases z2
    exact noIns_ok hK z hc
  obtain ⟨mb, hb, hbb⟩ := e0.mod.blt
  obtain ⟨mc, l1, l2⟩ := e0.mod.nolimit
  refine ⟨hidT base Ha, e0.frames, ⟨kin, nsH e0.mod.glob, ⟨mb, nsH hb, hbb⟩, ⟨mc, nsH l1, l2⟩⟩, fun b o z => ?_, by rw [hidT_size]; exact e0.bsz, ?_, fun b hb => ?_, ?_, e0.bare⟩
  · obtain ⟨z1, z2⟩ := of_ z
    obtain ⟨q1, q2⟩ := e0.bs b o z1
    exact ⟨q1, by rw [hpX_ne z2]; exact q2⟩
  · refine funFrames_none e0.funs fun L hL => ?_
    have q := (e0.funs.mem hL).1
    cases z : (hidT base Ha).get? L with
    | none => rfl
    | some o => rw [(of_ z).1] at q; cases q
  · have hne : b ≠ a := fun q => pin.nofs (by rw [← q]; exact hb)
    rw [hpX_ne hne]
    exact e0.frf b hb
  · exact e0.hok.laidN (fun _ _ z => z) pin.free ⟨hget, hget, ⟨oe, hget⟩, fun h1 h2 z k => k oe z⟩
theorem fnw_of {k : Nat} {x y qual : Str} {params : Arguments} {body : List Stmt} {scope : Scope} {f : Addr} {fd : FuncData} {N : List Str} {g : Ev → M Fl} (FD : FunD K x qual params body scope [] [] f fd) (S : FnScope N [y] scope) (hN : 1 ≤ N.length) (hK : noIns K = true)
    (hb : ∀ (base : Heap) (cdv : Value) (A : Around) (outer : List Env) (s : Shared) (H : Hp) (E : XK), A.guards = some [] → L2H.RoomH k (A.deeper (envOfC qual scope s.heap.objs.size f cdv)) → HotT (cxT P w K mg base N qual scope f cdv A outer s H E) →
      DSs (cxT P w K mg base N qual scope f cdv A outer s H E) W0 body g) : FnW P w K mg base (k + 1) f fd y (runF N.length g) := by
  obtain ⟨oc, od, dV, kV, doc, pm, an, cdv, ct, osl, rfl, lk, hcd, _, _⟩ := FD.ex
  refine ⟨?_⟩
  intro A outer s H args a oe ves c r st' Q E gd rm hh hz hd pin env0 bind hF hQ
  have kin : K.In s.heap := env0.mod.kin.keeps (fun b o z => (env0.bs b o z).1)
  have nolim : s.heap.NoLimit := env0.mod.nolimit.keeps (fun b o z => (env0.bs b o z).1)
  have kinds : ∀ z ∈ [(y, Value.ref a)], scope.names.lookup z.1 = some .local ∨ (scope.names.lookup z.1 = some .cell ∧ ((cellsFrom (s.heap.objs.size + 1) scope.names []).lookup z.1).isSome = true) := by
    intro z hz
    have e : z = (y, Value.ref a) := by simpa using hz
    subst e
    cases S.par y (by simp) with
    | inl q => exact Or.inl q
    | inr q => exact Or.inr ⟨q, PySem.W.cellsFrom_some _ _ _ (Or.inl q)⟩
  refine codeAny_call_function rm.depth (kin _ _ lk) rfl S.co S.gen rfl (PySem.W.codeRec_of kin hcd) (bind _ _ _ _ (wpAny_newFunctionEnv_cells S.kind kinds ?_))
  intro env he s1 x1
  subst he
  refine ⟨nolim.keeps x1.toInCall.keep, codeAny_func ?_⟩
  obtain ⟨base', e1⟩ := env_hot hK hz.1 hd pin env0
  have hot : HotT (cxT P w K mg base' N qual scope f cdv A outer s (hpX H a oe) E) := ⟨a, oe, _, ves, hh, upd_same, hd, hz.2.2 ves hd⟩
  have I0 : Inv (cxT P w K mg base' N qual scope f cdv A outer s (hpX H a oe) E) [] (L2.start N [.ref a]) (hpX H a oe) s1 := inv_startT (us := [.ref a]) S e1 rfl (.cons rfl .nil) x1
  -- what the body computes
  let w0 : Wd := ⟨K, fun _ => a, [], hpX H a oe, []⟩
  have rs0 : RS w0 := ⟨fun i c h => by simp [w0] at h, fun i j c c' h => by simp [w0] at h, fun x hx => absurd hx (by simp [w0]), fun x hx => absurd hx (by simp [w0])⟩
  have no0 : ∀ b, ¬ Own w0.m w0.st b := fun b ⟨i, c, e, _⟩ => by simp [w0] at e
  have rep0 : Reps w0 [.exc c] [.ref a] := by
    simp only [Reps, Rep]
    exact ⟨_, [], rfl, ⟨a, _, rfl, ⟨⟨upd_same, no0 a⟩, by simp [w0]⟩, fun P w H h z => ⟨oe, ves, z.1, hz.zc, hd⟩⟩, rfl⟩
  have eg : g ([some (.exc c)] ++ List.replicate (N.length - 1) none) [] = .ok (.ret (.str r)) st' := by
    unfold runF at hF
    obtain ⟨fl, s2, h1, h2⟩ := bind_inv hF
    have h1 : g ([some (.exc c)] ++ List.replicate (N.length - 1) none) [] = .ok fl s2 := noErr_ok h1
    cases fl with
    | ret d => cases h2; exact h1
    | nx e => cases h2
    | exc c e => cases h2
    | brk e => cases h2
    | ct e => cases h2
  have rd : rdS K W0 g { nx := fun _ _ => False, rt := fun v H' => v = .str r ∧ Same (hpX H a oe) H' } (L2.start N [.ref a]) (hpX H a oe) := by
    refine ⟨w0, [some (.exc c)] ++ List.replicate (N.length - 1) none, rfl, rfl, rs0, env_start (ds := [.exc c]) (N.length - 1) rep0, ?_⟩
    show Wp w0 (g _ []) _ _
    rw [eg]
    intro w' a' e' v rv
    simp only [Rep] at rv
    exact ⟨rv, fun b o z => (a'.fz b o ⟨z, no0 b⟩).1⟩
  refine wpAny_mono ((hb base' cdv A outer s (hpX H a oe) E gd (rm.deeper _) hot).run [] s1 (L2.start N [.ref a]) (hpX H a oe) _ I0 rd) ?_ (fun _ _ z => ?_)
  · intro fl s' z
    cases fl with
    | ret u =>
      obtain ⟨v, σ', H', J, rv, rfl, sm⟩ := z
      have hfr : H' a = some (.frz oe (.ext fun h => h.get? a = some oe)) := sm a _ upd_same
      have ga : s'.heap.get? a = some oe := (J.hok a _ hfr).1
      have ne_ : ∀ {b : Addr} {o : Obj}, s.heap.get? b = some o → True := fun _ => trivial
      have Jb : Un (frs outer) [] (hpX H a oe) H' s.heap s'.heap := J.base
      refine ⟨.str r, delH H' a, J.os, J.bare, ⟨fun b o e n hf hx => ?_, fun b o e n hf hx => ?_, fun b o e n hx => ?_, fun b o e hx => Jb.there b o e hx, fun b xs e => ?_, fun b o u e => ?_, fun b ps e => ?_⟩, fun b o e => ?_, rv, hQ _ fun b o e => ?_⟩
      · by_cases q : b = a
        · subst q
          rw [pin.get] at e
          cases e
          exact ga
        · exact Jb.keep b o e (by rw [hpX_ne q]; exact n) hf hx
      · have q : b ≠ a := fun q => pin.nofs (by rw [← q]; exact hf)
        exact Jb.slot b o e (by rw [hpX_ne q]; exact n) hf hx
      · by_cases q : b = a
        · rw [q]; exact delH_same
        · rw [delH_ne q]
          exact Jb.free b o e (by rw [hpX_ne q]; exact n) hx
      · have q : b ≠ a := fun q => by rw [q, pin.free] at e; cases e
        rw [delH_ne q]
        exact Jb.tups b xs (by rw [hpX_ne q]; exact e)
      · have q : b ≠ a := fun q => by rw [q, pin.free] at e; cases e
        rw [delH_ne q]
        exact Jb.frzs b o u (by rw [hpX_ne q]; exact e)
      · have q : b ≠ a := fun q => by rw [q, pin.free] at e; cases e
        obtain ⟨m, z⟩ := Jb.tbls b ps (by rw [hpX_ne q]; exact e)
        exact ⟨m, by rw [delH_ne q]; exact z⟩
      · have q : b ≠ a := fun q => by rw [q, delH_same] at e; cases e
        rw [delH_ne q] at e
        refine (J.hok b o e).stay (fun _ _ _ z => z) (fun d z => ?_) fun d xs z => ?_
        · have q2 : d ≠ a := fun q2 => by rw [q2, hfr] at z; cases z
          rw [delH_ne q2]; exact z
        · have q2 : d ≠ a := fun q2 => by rw [q2, hfr] at z; cases z
          rw [delH_ne q2]; exact z
      · have q : b ≠ a := fun q => by rw [q, pin.free] at e; cases e
        rw [delH_ne q]
        exact sm b o (by rw [hpX_ne q]; exact e)
    | next => obtain ⟨_, _, _, q⟩ := z; exact q.elim
    | brk => obtain ⟨_, _, _, q⟩ := z; exact q.elim
    | cont => obtain ⟨_, _, _, q⟩ := z; exact q.elim
  · exact z.elim
end
end G
end

section
set_option Elab.async false
set_option linter.all false
set_option maxRecDepth 100000
set_option maxHeartbeats 2000000
namespace G
open PySem PySem.Spec PyProof.Rows L2 HotX
theorem REnv.unset {w : Wd} {env : Ev} {σ : L2.St} (n : REnv w env σ) (i : Nat) (o : Option V) : REnv w (env.set i none) (σ.set i o) := by
  refine ⟨by simp [n.len], fun k d e => ?_⟩
  by_cases q : k = i
  · subst q
    by_cases hl : k < env.length
    · rw [List.getElem?_set_self hl] at e; cases e
    · rw [List.getElem?_eq_none (by simpa using hl)] at e; cases e
  · rw [List.getElem?_set_ne (Ne.symm q)] at e ⊢
    exact n.at_ k d e
section
variable {X : Cx} {k : Nat} {f a : Addr} {fd : FuncData} {x0 wo n y : Str} {F : List D → M D} {oe : Obj} {pn : List (Addr × Obj)} {cls : Value} {d : Option Addr} {i j : Nat} {p p2 cpos spos py : Pos}
/-- what the suite's call wishes -/
def tWd (K : PySem.W.Frag) (F : List D → M D) (i : Nat) (a : Addr) (cls : Value) (d : Option Addr) : TE := fun σ H Q => σ[i]? = some (some (.ref a)) ∧ ∃ (c r : Str) (st' : Store), cls = .ref (He.ga K c) ∧ d = none ∧ F [.exc c] [] = .ok (.str r) st' ∧ ∀ H', Same H H' → Q (.str r) H'
theorem pe_wordof (FW : FnW X.prog X.w X.K X.mg X.base k f fd x0 F) (hgd : X.A.guards = some []) (hr : Room k X.A) (hz : L2N.Zn cls d oe) (hvs : ∃ vs, oe.data = .fields vs) (hm : X.mg wo = some (.ref f)) (hk : PySem.W.keepIn X.K (.ref f) = true) (hb : Binds X.K fd [x0] []) (hg : Gl X wo)
    (hN : X.N[i]? = some n) (hv : Vis X.env.scope n) (hd : (n == ("__debug__" : Str)) = false := by decide) (hcd : (n == ("__classdict__" : Str)) = false := by decide) (hdb : (wo == ("__debug__" : Str)) = false := by decide)
    (he : starEach [.Name n p2] X.env = (false, eval (.Name n p2) X.env) :: starEach [] X.env := by rfl) (hpl : (backTo cpos (starEach [] X.env)).any (·.1) = false := by rfl) :
    PE (X.suite a ((a, oe) :: pn)) (.Call (.Name wo p) [.Name n p2] [] cpos) (tWd X.K F i a cls d) := by
  refine ⟨fun pins s σ H Q I h => ?_⟩
  obtain ⟨hs, c, r, st', rfl, rfl, hF, hQ⟩ := h
  obtain ⟨vs, hvs⟩ := hvs
  refine wpAny_Call_Name_kw (ld_glob I hg hm ?_ hdb)
  have ha : PA (X.suite a ((a, oe) :: pn)) [.Name n p2] _ := pa_cons (pe_var (X := X.suite a ((a, oe) :: pn)) (pos := p2) (i := i) hN hv hd hcd) pa_nil he
  refine PySem.W.callWith_K (h₀ := X.base) I.ok.mod.kin hk (thn (ha.run cpos pins s σ H (fun vs H1 => vs = [V.ref a] ∧ H1 = H) I ⟨.ref a, hs, rfl, rfl⟩) fun us s1 ⟨ws, H1, I1, r1, ev, eH⟩ => ⟨I1.kIn, ?_⟩) he hpl
  subst ev eH
  cases r1 with
  | cons ru rr =>
    cases rr
    cases ru
    have b := hb s1 [.ref a] I1.kIn rfl
    rw [List.append_nil] at b
    have P1 := I1.pin (a, oe) (List.mem_append_left _ List.mem_cons_self)
    have hpin : L2H.PinOk X.stack H1 s1 (a, oe) := ⟨P1.1, P1.2.1, fun hm => (List.mem_cons.mp (I1.stkSub a hm)).elim P1.2.2.1 P1.2.2.2.1, P1.2.2.2.2⟩
    refine wpAny_call (codeAny_mono (FW.run (X.A.mark (some (.ref a))) X.stack s1 H1 ⟨[.ref a], []⟩ a oe vs c r st' Q (fun _ _ _ => False) hgd ⟨hr.dp, hr.un⟩ rfl hz hvs hpin I1.env0 b hF hQ) fun res s' z => ?_)
    cases res with
    | error ev =>
      obtain ⟨_, _, _, _, _, _, _, _, _, _, _, _, q⟩ := z
      exact q.elim
    | ok fl =>
      cases fl with
      | ret u => exact I1.after z
      | next => exact z.elim
      | brk => exact z.elim
      | cont => exact z.elim
def sTryW (i j : Nat) (sub : Str → Option Bool) (F : List D → M D) (g : Ev → M Fl) : Ev → M Fl := fun env => do
  let fl ← g env
  match fl with
  | .exc c e1 => match sub c, F [.exc c] [] with
    | some true, .ok (.str r) _ => if i < e1.length then pure (.nx (((e1.set i none).set j (some (.str r))).set i none)) else M.stuck
    | _, _ => M.stuck
  | other => pure other
/-- try: .. except C as n: y = wo(n) -/
theorem ds_tryW {W : XW} {Wx : WX} {ge : Str} {body : List Stmt} {g : Ev → M Fl} {sub : Str → Option Bool} {np pos pos' : Pos} (hs : X.stack = X.env :: X.outer) (hf : X.env.frame = some X.env.locals) (hND : X.N.Nodup) (hi : X.N[i]? = some n) (hln : X.env.kindOf n = some .local) (hj : X.N[j]? = some y) (hjl : X.env.scope.names.lookup y = some .local)
    (hge : Gl X ge) (hgm : X.mg ge = some (.ref (He.ga X.K ge))) (hex : ∀ c, sub c = some true → PySem.W.exmOne X.K (.ref (He.ga X.K c)) (.ref (He.ga X.K ge)) = some true) (tk : L2N.Takes X Wx) (hW : W = wX X.K Wx)
    (FW : FnW X.prog X.w X.K X.mg X.base k f fd x0 F) (hgd : X.A.guards = some []) (hr : Room k X.A) (hm : X.mg wo = some (.ref f)) (hk : PySem.W.keepIn X.K (.ref f) = true) (hb : Binds X.K fd [x0] []) (hg : Gl X wo)
    (hbd : ∀ (W' : WX) (pn : List (Addr × Obj)) (xe : Value → Shared → Prop), L2N.Takes (X.tr pn xe) W' → PassesOwn (model X.prog X.w) X.A X.env xe → DSs (X.tr pn xe) (wX X.K W') body g)
    (hgdb : (ge == ("__debug__" : Str)) = false := by decide) (hd : (n == ("__debug__" : Str)) = false := by decide) (hcd : (n == ("__classdict__" : Str)) = false := by decide) (hdb : (wo == ("__debug__" : Str)) = false := by decide)
    (he : starEach [.Name n p2] X.env = (false, eval (.Name n p2) X.env) :: starEach [] X.env := by rfl) (hpl : (backTo cpos (starEach [] X.env)).any (·.1) = false := by rfl)
    (hsw : swapsWith (.Call (.Name wo p) [.Name n p2] [] cpos) (some (.Name y py)) spos.line X.env = pure false := by rfl) :
    DS X W (.Try body [.ExceptHandler (some (.Name ge np)) (some n) [.Assign [.Name y py] (.Call (.Name wo p) [.Name n p2] [] cpos) spos] pos'] [] [] pos) (sTryW i j sub F g) := by
  refine PS.imp' (L2N.ps_try_as (tb := fun W' => rdS X.K (wX X.K W') g) (ts := fun a cls d => tAsg (tWd X.K F i a cls d) (gName j)) (Wout := Wx) hs hf hND hi hln (c := .ref (He.ga X.K ge)) ⟨hge, hgdb, .inl hgm⟩ tk (fun W' pn xe t po => hbd W' pn xe t po) (fun a oe cls d pn hz hvs => ?_)) fun D' σ H h => ?_
  · exact pss_one (ps_set (X := X.suite a ((a, oe) :: pn)) hND hj (.inl hjl) (pe_wordof FW hgd hr hz hvs hm hk hb hg hi (.inl hln) hd hcd hdb he hpl) hsw (.inr hjl))
  · obtain ⟨w, env, hk', rfl, r, n0, h⟩ := h
    refine ⟨w, env, hk', rfl, r, n0, (Wp.bind h).imp fun fl w1 a1 h1 => ?_⟩
    cases fl with
    | nx e1 => exact Wp.ok_ (P := SFl W D') (W := nov) (a := Fl.nx e1) a1.rs h1
    | ret d => exact Wp.ok_ (P := SFl W D') (W := nov) (a := Fl.ret d) a1.rs h1
    | brk e1 => exact Wp.ok_ (P := SFl W D') (W := nov) (a := Fl.brk e1) a1.rs h1
    | ct e1 => exact Wp.ok_ (P := SFl W D') (W := nov) (a := Fl.ct e1) a1.rs h1
    | exc c e1 =>
      intro σ1 n1
      have hk1 : w1.K = X.K := a1.k.trans hk'
      cases es : sub c with
      | none => simp only [es] at h1; exact h1.elim
      | some bb =>
        cases bb with
        | false => simp only [es] at h1; exact h1.elim
        | true =>
          simp only [es] at h1
          cases hFr : F [.exc c] [] with
          | bad => rw [hFr] at h1; exact h1.elim
          | err c' st'' => rw [hFr] at h1; exact h1.elim
          | ok d' st'' =>
            rw [hFr] at h1
            cases d' with
            | str r' =>
              by_cases hl : i < e1.length
              · simp only [hl, if_true] at h1
                refine ⟨true, hex c es, fun _ a ha => ?_, fun z => nomatch z⟩
                have hil : i < σ1.length := by rw [← n1.len]; exact hl
                refine ⟨by rw [List.getElem?_set_self hil], c, r', st'', rfl, rfl, hFr, fun H' sm => ?_⟩
                have a2 : Aft w1 ⟨w1.K, w1.m, w1.st, H', w1.rv⟩ := aft_same a1.rs sm
                have z := h1 _ a2 rfl
                exact z _ ((((n1.after a2).unset i (some (.ref a))).set j (by simp [Rep])).unset i none)
              · simp only [hl, if_false] at h1
                exact h1.elim
            | _ => exact h1.elim
end
end G
end

section
set_option Elab.async false
set_option linter.all false
set_option maxRecDepth 100000
set_option maxHeartbeats 2000000
namespace G
open PySem PySem.Spec PyProof.Rows L2 HotX
/-! ## the classes of a text's refusals, beneath GiftError -/
abbrev gE : Str := "GiftError"
def subX (exn : List Str) (C c : Str) : Option Bool := if exn.contains c then some (decide (C = gE) || decide (c = C)) else none
def subV (exn : List Str) (c : Str) : Option Bool := if exn.contains c then some true else none
def pairB (exn : List Str) (K : PySem.W.Frag) : Bool := exn.all fun c => (gE :: exn).all fun C => PySem.W.kitOne K (.ref (He.ga K c)) (.ref (He.ga K C)) == some (decide (C = gE) || decide (c = C))
def valB (exn : List Str) (K : PySem.W.Frag) : Bool := exn.all fun c => PySem.W.kitOne K (.ref (He.ga K c)) (.type "ValueError") == some true
def emB (exn : List Str) (K : PySem.W.Frag) : Bool := exn.all fun c => PySem.W.exmOne K (.ref (He.ga K c)) (.ref (He.ga K gE)) == some true
def excB (exn : List Str) (K : PySem.W.Frag) : Bool := exn.all (clsB K) && (pairB exn K && (valB exn K && (emB exn K && noIns K)))
structure ExcT (exn : List Str) (K : PySem.W.Frag) (mg : Str → Option Value) : Prop where
  xc : ∀ x ∈ exn, XCls K mg x
  ge : mg gE = some (.ref (He.ga K gE))
  sb : ∀ x ∈ gE :: exn, SubOk K (subX exn x) (.ref (He.ga K x))
  sv : SubOk K (subV exn) (.type "ValueError")
  em : ∀ c, subX exn gE c = some true → PySem.W.exmOne K (.ref (He.ga K c)) (.ref (He.ga K gE)) = some true
  ni : noIns K = true
theorem excB_ok {exn : List Str} {K : PySem.W.Frag} {mg : Str → Option Value} (h : ∀ x ∈ gE :: exn, mg x = some (.ref (He.ga K x))) (c : excB exn K = true) : ExcT exn K mg := by
  unfold excB at c
  simp only [Bool.and_eq_true] at c
  obtain ⟨c1, c2, c3, c4, c5⟩ := c
  have xc : ∀ x ∈ exn, XCls K mg x := fun x hx => clsB_ok (h x (List.mem_cons_of_mem _ hx)) (List.all_eq_true.mp c1 x hx)
  refine ⟨xc, h gE (by simp), fun x hx c b e => ?_, fun c b e => ?_, fun c e => ?_, c5⟩
  · unfold subX at e
    split at e
    · rename_i hc
      have hc : c ∈ exn := by simpa using hc
      cases e
      have z := List.all_eq_true.mp (List.all_eq_true.mp c2 c hc) x hx
      exact ⟨(xc c hc).c, eq_of_beq z⟩
    · cases e
  · unfold subV at e
    split at e
    · rename_i hc
      have hc : c ∈ exn := by simpa using hc
      cases e
      exact ⟨(xc c hc).c, eq_of_beq (List.all_eq_true.mp c3 c hc)⟩
    · cases e
  · unfold subX at e
    split at e
    · rename_i hc
      have hc : c ∈ exn := by simpa using hc
      exact eq_of_beq (List.all_eq_true.mp c4 c hc)
    · cases e
theorem unitsH {k : Nat} {A : Around} (r : L2H.RoomH k A) : A.units + 64 < cLine := by have := r.un; omega
theorem takes0N {X : Cx} : L2N.Takes X (fun _ _ _ _ => False) := fun _ _ x => by
  obtain ⟨_, _, _, _, _, _, _, _, _, _, _, _, _, _, _, _, z⟩ := x
  exact z.elim
end G
end

section
set_option Elab.async false
set_option linter.all false
set_option maxRecDepth 100000
namespace K17
open PySem G
def exn : List Str := ["NoRow", "Held", "Closed", "NoNumbers", "NoNumber", "NoCount", "NoGroup", "NoCopy", "NoText", "NoPlan", "NoStep", "NoSay", "NoName", "NoKind"]
inductive Fn where
  | want_free
  | l_pot
  | l_digit
  | l_word_of
  | l_text
  | l_rows
  | l_plans
  | l_taken
  | l_of_nothing
  | law
def g_want_free (F : Fn → List D → M D) : Ev → M Fl := (sSeq (sIf (tOr' (tNot' (tVal (eUn (dIsT "list") (eVar 0)))) (tNot' (tVal (eB dAll [(eComp [2] (iSeq (eVar 0)) (tgName 2) (fun _ => pure true) (eUn dIsNo (eVar 2)))])))) (sRaise "NoRow" (eC (.str "no row"))) sNop) (sSeq (fun _ => M.stuck) (sSeq (fun _ => M.stuck) (fun _ => M.stuck))))
def g_l_pot (F : Fn → List D → M D) : Ev → M Fl := (sSeq (sAsg 2 (eIf (tVal (eOp dLt (eVar 1) (eB dLen [(eVar 0)]))) (eOp dIdx (eVar 0) (eVar 1)) (eC (.int 0)))) (sSeq (sIf (tVal (eOp dGe (eVar 2) (eOp dPow (eC (.int 10)) (eC (.int 18))))) (sRet (eNewL [(eOp dSub (eVar 2) (eOp dPow (eC (.int 10)) (eC (.int 18)))), (eOp dAdd (eOp dAdd (eOp dMod (eVar 2) (eC (.int 2147483629))) (eOp dMul (eC (.int 977)) (eVar 1))) (eC (.int 1)))])) sNop) (sRet (eNewL [(eC (.int 0)), (eOp dAdd (eOp dAdd (eOp dMod (eVar 2) (eC (.int 2147483629))) (eOp dMul (eC (.int 977)) (eVar 1))) (eC (.int 1)))]))))
def g_l_digit (F : Fn → List D → M D) : Ev → M Fl := (sSeq (sIf (tVal (eOp dGt (eOp dIdx (eVar 0) (eC (.int 0))) (eC (.int 0)))) (sSeq (sAsgT (eB dDivmod [(eOp dIdx (eVar 0) (eC (.int 0))), (eVar 1)]) (fun d env => noErr (gtPair (gtSub (eVar 0) (eC (.int 0))) (gtName 2) d env))) (sRet (eVar 2))) sNop) (sSeq (sAsgT (eOp dMod (eOp dAdd (eOp dMul (eOp dIdx (eVar 0) (eC (.int 1))) (eC (.int 48271))) (eC (.int 12345))) (eC (.int 2147483647))) (gtSub (eVar 0) (eC (.int 1)))) (sRet (eOp dMod (eOp dDiv (eOp dMod (eOp dMul (eOp dIdx (eVar 0) (eC (.int 1))) (eOp dIdx (eVar 0) (eC (.int 1)))) (eC (.int 2147483629))) (eC (.int 7))) (eVar 1)))))
def g_l_word_of (F : Fn → List D → M D) : Ev → M Fl := (sSeq (sAsg 1 (eLst [(eTup [(eC (.str "row")), (eUn (dIsX (subX exn "NoRow")) (eVar 0))]), (eTup [(eC (.str "held")), (eUn (dIsX (subX exn "Held")) (eVar 0))]), (eTup [(eC (.str "closed")), (eUn (dIsX (subX exn "Closed")) (eVar 0))])])) (sSeq (sAsg 1 (eOp dAdd (eVar 1) (eLst [(eTup [(eC (.str "numbers")), (eUn (dIsX (subX exn "NoNumbers")) (eVar 0))]), (eTup [(eC (.str "number")), (eUn (dIsX (subX exn "NoNumber")) (eVar 0))])]))) (sSeq (sAsg 1 (eOp dAdd (eVar 1) (eLst [(eTup [(eC (.str "count")), (eUn (dIsX (subX exn "NoCount")) (eVar 0))]), (eTup [(eC (.str "group")), (eUn (dIsX (subX exn "NoGroup")) (eVar 0))])]))) (sSeq (sAsg 1 (eOp dAdd (eVar 1) (eLst [(eTup [(eC (.str "copy")), (eUn (dIsX (subX exn "NoCopy")) (eVar 0))]), (eTup [(eC (.str "text")), (eUn (dIsX (subX exn "NoText")) (eVar 0))]), (eTup [(eC (.str "plan")), (eUn (dIsX (subX exn "NoPlan")) (eVar 0))])]))) (sSeq (sAsg 1 (eOp dAdd (eVar 1) (eLst [(eTup [(eC (.str "step")), (eUn (dIsX (subX exn "NoStep")) (eVar 0))]), (eTup [(eC (.str "say")), (eUn (dIsX (subX exn "NoSay")) (eVar 0))]), (eTup [(eC (.str "name")), (eUn (dIsX (subX exn "NoName")) (eVar 0))])]))) (sSeq (sAsg 1 (eOp dAdd (eVar 1) (eLst [(eTup [(eC (.str "kind")), (eUn (dIsX (subX exn "NoKind")) (eVar 0))])]))) (sSeq (sAsg 2 (eComp [3, 4] (iSeqL (eVar 1)) (tgPair 3 4) (tVal (eVar 4)) (eVar 3))) (sSeq (sIf (tOr' (tVal (eOp dNe (eB dLen [(eVar 2)]) (eC (.int 1)))) (tNot' (tVal (eUn (dIsX (subV exn)) (eVar 0))))) (sRet (eC (.str "other"))) sNop) (sRet (eOp dIdx (eVar 2) (eC (.int 0))))))))))))
def g_l_text (F : Fn → List D → M D) : Ev → M Fl := (sSeq (sAsg 1 (eC (.str " !#&'()*+,-./0123456789:;<=>?@ABCDEFGHIJKLMNOPQRSTUVWXYZ[]^_abcdefghijklmnopqrstuvwxyz{|}~"))) (sSeq (sAsg 2 (eC (.str ""))) (sSeq (sFor (iRange (eCall (F .l_digit) [(eVar 0), (eC (.int 41))])) (tgName 3) (sAsg 2 (eOp dAdd (eVar 2) (eOp dIdx (eVar 1) (eCall (F .l_digit) [(eVar 0), (eB dLen [(eVar 1)])]))))) (sRet (eVar 2)))))
def g_l_rows (F : Fn → List D → M D) : Ev → M Fl := (sSeq (sIf (tVal (eOp dEq (eVar 0) (eC (.str "row")))) (sRaise "NoRow" (eVar 1)) sNop) (sSeq (sIf (tVal (eOp dEq (eVar 0) (eC (.str "held")))) (sRaise "Held" (eVar 1)) sNop) (sSeq (sIf (tVal (eOp dEq (eVar 0) (eC (.str "closed")))) (sRaise "Closed" (eVar 1)) sNop) (sSeq (sIf (tVal (eOp dEq (eVar 0) (eC (.str "numbers")))) (sRaise "NoNumbers" (eVar 1)) sNop) (sSeq (sIf (tVal (eOp dEq (eVar 0) (eC (.str "number")))) (sRaise "NoNumber" (eVar 1)) sNop) (sSeq (sIf (tVal (eOp dEq (eVar 0) (eC (.str "count")))) (sRaise "NoCount" (eVar 1)) sNop) (sSeq (sIf (tVal (eOp dEq (eVar 0) (eC (.str "group")))) (sRaise "NoGroup" (eVar 1)) sNop) (sRaise "NoCopy" (eVar 1)))))))))
def g_l_plans (F : Fn → List D → M D) : Ev → M Fl := (sSeq (sIf (tVal (eOp dEq (eVar 0) (eC (.str "text")))) (sRaise "NoText" (eVar 1)) sNop) (sSeq (sIf (tVal (eOp dEq (eVar 0) (eC (.str "plan")))) (sRaise "NoPlan" (eVar 1)) sNop) (sSeq (sIf (tVal (eOp dEq (eVar 0) (eC (.str "step")))) (sRaise "NoStep" (eVar 1)) sNop) (sSeq (sIf (tVal (eOp dEq (eVar 0) (eC (.str "say")))) (sRaise "NoSay" (eVar 1)) sNop) (sSeq (sIf (tVal (eOp dEq (eVar 0) (eC (.str "name")))) (sRaise "NoName" (eVar 1)) sNop) (sRaise "NoKind" (eVar 1)))))))
def g_l_taken (F : Fn → List D → M D) : Ev → M Fl := (sSeq (sAsg 3 (eC (.str "none"))) (sSeq (sTryW 4 3 (subX exn gE) (F .l_word_of) (sIf (tVal (eOp dEq (eVar 0) (eC (.int 0)))) (sExpr (eCall (F .l_rows) [(eVar 1), (eVar 2)])) (sIf (tVal (eOp dEq (eVar 0) (eC (.int 1)))) (sExpr (eCall (F .l_plans) [(eVar 1), (eVar 2)])) (sExpr (eCall (F .want_free) [(eLst [(eVar 2)])]))))) (sRet (eVar 3))))
def g_l_of_nothing (F : Fn → List D → M D) : Ev → M Fl := (sSeq (sAsg 0 (eLst [(eExc "NoRow"), (eExc "Held"), (eExc "Closed"), (eExc "NoNumbers"), (eExc "NoNumber"), (eExc "NoCount"), (eExc "NoGroup"), (eExc "NoCopy")])) (sSeq (sAsg 0 (eOp dAdd (eVar 0) (eLst [(eExc "NoText"), (eExc "NoPlan"), (eExc "NoStep"), (eExc "NoSay"), (eExc "NoName"), (eExc "NoKind")]))) (sRet (eComp [1] (iSeq (eVar 0)) (tgName 1) (tVal (eUn (dIsX (subX exn "GiftError")) (eVar 1))) (eCall (F .l_word_of) [(eVar 1)])))))
def g_law (F : Fn → List D → M D) : Ev → M Fl := (sSeq (sAsg 1 (eLst [(eC (.str "row")), (eC (.str "held")), (eC (.str "closed")), (eC (.str "numbers")), (eC (.str "number")), (eC (.str "count")), (eC (.str "group")), (eC (.str "copy"))])) (sSeq (sAsg 2 (eLst [(eC (.str "text")), (eC (.str "plan")), (eC (.str "step")), (eC (.str "say")), (eC (.str "name")), (eC (.str "kind"))])) (sSeq (sFor (iRange (eB dMax2 [(eC (.int 1)), (eB dMin2 [(eC (.int 3)), (eB dLen [(eVar 0)])])])) (tgName 3) (sSeq (sAsg 4 (eCall (F .l_text) [(eCall (F .l_pot) [(eVar 0), (eVar 3)])])) (sSeq (sIf (tVal (eOp dNe (eComp [5] (iSeq (eVar 1)) (tgName 5) (fun _ => pure true) (eCall (F .l_taken) [(eC (.int 0)), (eVar 5), (eVar 4)])) (eVar 1))) (sRet (eC (.bl false))) sNop) (sIf (tOr' (tVal (eOp dNe (eComp [5] (iSeq (eVar 2)) (tgName 5) (fun _ => pure true) (eCall (F .l_taken) [(eC (.int 1)), (eVar 5), (eVar 4)])) (eVar 2))) (tVal (eOp dNe (eCall (F .l_taken) [(eC (.int 2)), (eC (.str "")), (eVar 4)]) (eC (.str "row"))))) (sRet (eC (.bl false))) sNop)))) (sRet (eOp dEq (eCall (F .l_of_nothing) []) (eOp dAdd (eVar 1) (eVar 2)))))))
def fns : Nat → Fn → List D → M D
  | 0, _ => fun _ => M.stuck
  | n + 1, .want_free => runF 3 (g_want_free (fns n))
  | n + 1, .l_pot => runF 3 (g_l_pot (fns n))
  | n + 1, .l_digit => runF 3 (g_l_digit (fns n))
  | n + 1, .l_word_of => runF 5 (g_l_word_of (fns n))
  | n + 1, .l_text => runF 4 (g_l_text (fns n))
  | n + 1, .l_rows => runF 2 (g_l_rows (fns n))
  | n + 1, .l_plans => runF 2 (g_l_plans (fns n))
  | n + 1, .l_taken => runF 5 (g_l_taken (fns n))
  | n + 1, .l_of_nothing => runF 2 (g_l_of_nothing (fns n))
  | n + 1, .law => runF 6 (g_law (fns n))
end K17
end

section
set_option Elab.async false
set_option linter.all false
set_option maxRecDepth 100000
set_option maxHeartbeats 1000000
namespace K17
open PySem L2 G PyProof.Rows
theorem runF_ret {n : Nat} {g : Ev → M Fl} {ds : List D} {st st' : Store} {d : D} (h : g (ds.map some ++ List.replicate (n - ds.length) none) st = .ok (.ret d) st') : runF n g ds st = .ok d st' := by
  unfold runF
  rw [bind_app, noErr_app, h]
  rfl
theorem runF_exc {n : Nat} {g : Ev → M Fl} {ds : List D} {st st' : Store} {c : Str} {e : Ev} (h : g (ds.map some ++ List.replicate (n - ds.length) none) st = .ok (.exc c e) st') : runF n g ds st = .err c st' := by
  unfold runF
  rw [bind_app, noErr_app, h]
  rfl
def PotC (c : Cell) : Prop := ∃ a b : Int, c = .lst [.int a, .int b] ∧ 0 ≤ b ∧ b < 2 ^ 40
def Pot (i : Nat) (st : Store) : Prop := ∃ c, st[i]? = some c ∧ PotC c
theorem digit {i n : Nat} {m : Int} {st : Store} (h : Pot i st) (hm : 0 < m) (hm2 : divOk m = true) : ∃ r st', fns (n + 1) .l_digit [.cell i, .int m] st = .ok (.int r) st' ∧ 0 ≤ r ∧ r < m ∧ Pot i st' ∧ ∀ k, k ≠ i → st'[k]? = st[k]? := by
  obtain ⟨c, hc, a, b, rfl, hb, hb2⟩ := h
  have hl : i < st.length := (List.getElem?_eq_some_iff.mp hc).1
  have cl : cellL st i = some [.int a, .int b] := by unfold cellL; rw [hc]
  have i0 := dIdx_cn (k := 0) cl rfl
  have i1 := dIdx_cn (k := 1) cl rfl
  simp only [Int.ofNat_eq_natCast, Int.natCast_zero] at i0
  have x0 : ixN 2 0 = some 0 := rfl
  have x1 : ixN 2 1 = some 1 := rfl
  by_cases ha : 0 < a
  · refine ⟨a % m, st.set i (.lst [.int (a / m), .int b]), runF_ret ?_, Int.emod_nonneg _ (by omega), Int.emod_lt_of_pos _ hm, ⟨_, by rw [List.getElem?_set_self hl], _, _, rfl, hb, hb2⟩, fun k hk => by rw [List.getElem?_set_ne (Ne.symm hk)]⟩
    simp [g_l_digit, i0, ha, dDivmod_of hm2, putIdx, hc, x0]
  · have e1 : mulOk b 48271 = true := mulOk_of (a := 40) (b := 16) (by omega) (by decide) (by decide) (by decide)
    obtain ⟨b', hbe⟩ : ∃ b', (b * 48271 + 12345) % 2147483647 = b' := ⟨_, rfl⟩
    have hb' : 0 ≤ b' := by rw [← hbe]; exact Int.emod_nonneg _ (by decide)
    have hb3 : b' < 2147483647 := by rw [← hbe]; exact Int.emod_lt_of_pos _ (by decide)
    have e2 : mulOk b' b' = true := mulOk_of (a := 31) (b := 31) (by omega) (by omega) (by decide) (by decide)
    have cl2 : cellL (st.set i (.lst [.int a, .int b'])) i = some [.int a, .int b'] := by unfold cellL; rw [List.getElem?_set_self hl]
    have j1 := dIdx_cn (k := 1) cl2 rfl
    refine ⟨(b' * b') % 2147483629 / 7 % m, st.set i (.lst [.int a, .int b']), runF_ret ?_, Int.emod_nonneg _ (by omega), Int.emod_lt_of_pos _ hm, ⟨_, by rw [List.getElem?_set_self hl], _, _, rfl, hb', by omega⟩, fun k hk => by rw [List.getElem?_set_ne (Ne.symm hk)]⟩
    have d7 : divOk 7 = true := by decide
    have m1 : ∀ (z : Int) (st : Store), dMod (.int z) (.int 2147483647) st = some (.int (z % 2147483647)) := fun z st => dMod_of (by decide)
    have m2 : ∀ (z : Int) (st : Store), dMod (.int z) (.int 2147483629) st = some (.int (z % 2147483629)) := fun z st => dMod_of (by decide)
    have m3 : ∀ (z : Int) (st : Store), dMod (.int z) (.int m) st = some (.int (z % m)) := fun z st => dMod_of hm
    simp only [Int.ofNat_eq_natCast, Int.natCast_one] at i1 j1
    simp [g_l_digit, i0, ha, i1, dMul_of e1, m1, putIdx, hc, x1, hbe, j1, dMul_of e2, m2, m3, dDiv_of d7]

structure PI (i : Nat) (s0 st : Store) : Prop where
  pot : Pot i st
  rest : ∀ k, k ≠ i → k < s0.length → st[k]? = s0[k]?
theorem PI.app {i : Nat} {s0 st : Store} (h : PI i s0 st) (e : Store) : PI i s0 (st ++ e) := by
  obtain ⟨⟨c, hc, pc⟩, r⟩ := h
  have hl : i < st.length := (List.getElem?_eq_some_iff.mp hc).1
  refine ⟨⟨c, by rw [List.getElem?_append_left hl]; exact hc, pc⟩, fun k hk hs => ?_⟩
  have e1 := r k hk hs
  rw [List.getElem?_eq_getElem hs] at e1
  have := (List.getElem?_eq_some_iff.mp e1).1
  rw [List.getElem?_append_left this, e1, List.getElem?_eq_getElem hs]
theorem digitP {i n : Nat} {m : Int} {s0 st : Store} (h : PI i s0 st) (hm : 0 < m) (hm2 : divOk m = true) : ∃ r st', fns (n + 1) .l_digit [.cell i, .int m] st = .ok (.int r) st' ∧ 0 ≤ r ∧ r < m ∧ PI i s0 st' := by
  obtain ⟨r, st', e, a, b, p, q⟩ := digit (n := n) h.pot hm hm2
  exact ⟨r, st', e, a, b, p, fun k hk hs => (q k hk).trans (h.rest k hk hs)⟩
theorem divOk_small {m : Int} (h : 0 < m) (h2 : m ≤ 1000000) : divOk m = true := by
  unfold divOk
  refine decide_eq_true ⟨h, ?_⟩
  exact Nat.lt_of_lt_of_le ((Nat.log2_lt (by omega)).mpr (by omega : m.natAbs < 2 ^ 20)) (by decide)

abbrev rowsL : List D := [.str "row", .str "held", .str "closed", .str "numbers", .str "number", .str "count", .str "group", .str "copy"]
abbrev plansL : List D := [.str "text", .str "plan", .str "step", .str "say", .str "name", .str "kind"]
abbrev tkC (i : Nat) (w : Int) : Ev → M D := eComp [5] (iSeq (eVar i)) (tgName 5) (fun _ => pure true) (eCall (fns 59 .l_taken) [(eC (.int w)), (eVar 5), (eVar 4)])
theorem tk0 (a b c : Option D) (t : Str) (st : Store) : tkC 1 0 [a, some (.lst rowsL), b, c, some (.str t), none] st = .ok (.lst rowsL) st := by kernel_rfl
theorem tk1 (a b c : Option D) (t : Str) (st : Store) : tkC 2 1 [a, b, some (.lst plansL), c, some (.str t), none] st = .ok (.lst plansL) st := by kernel_rfl
theorem tk2 (t : Str) (st : Store) : fns 59 .l_taken [.int 2, .str "", .str t] st = .ok (.str "row") st := by kernel_rfl
theorem nothing (st : Store) : fns 59 .l_of_nothing [] st = .ok (.lst (rowsL ++ plansL)) st := by kernel_rfl
theorem ne0 (st : Store) : dNe (.lst rowsL) (.lst rowsL) st = some (.bl false) := by kernel_rfl
theorem ne1 (st : Store) : dNe (.lst plansL) (.lst plansL) st = some (.bl false) := by kernel_rfl
theorem ne2 (st : Store) : dNe (.str "row") (.str "row") st = some (.bl false) := by kernel_rfl
theorem eq0 (st : Store) : dEq (.lst (rowsL ++ plansL)) (.lst (rowsL ++ plansL)) st = some (.bl true) := by kernel_rfl
theorem ad0 (st : Store) : dAdd (.lst rowsL) (.lst plansL) st = some (.lst (rowsL ++ plansL)) := by kernel_rfl
abbrev sg : Str := " !#&'()*+,-./0123456789:;<=>?@ABCDEFGHIJKLMNOPQRSTUVWXYZ[]^_abcdefghijklmnopqrstuvwxyz{|}~"
theorem sg_len : sg.length = 90 := by decide +kernel
theorem sg_at {r : Int} (h0 : 0 ≤ r) (h1 : r < 90) : ∃ c : Nat, ∀ st, dIdx (.str sg) (.int r) st = some (.str ⟨#[c]⟩) := by
  have h : ∀ n : Nat, n < 90 → (atI sg.cps.toList (n : Int)).isSome = true := by decide +kernel
  have z := h r.toNat (by omega)
  rw [show ((r.toNat : Nat) : Int) = r by omega] at z
  obtain ⟨c, hc⟩ := Option.isSome_iff_exists.mp z
  refine ⟨c, fun st => ?_⟩
  simp only [dIdx]
  rw [if_pos (by rw [sg_len]; decide), hc]
  rfl
theorem len_app (x : Str) (c : Nat) : (x ++ (⟨#[c]⟩ : Str)).length = x.length + 1 := by
  show (x.cps ++ #[c]).size = x.cps.size + 1
  simp
def tB (F : Fn → List D → M D) : Ev → M Fl := (sAsg 2 (eOp dAdd (eVar 2) (eOp dIdx (eVar 1) (eCall (F .l_digit) [(eVar 0), (eB dLen [(eVar 1)])]))))
theorem g_tx (F : Fn → List D → M D) : g_l_text F = (sSeq (sAsg 1 (eC (.str sg))) (sSeq (sAsg 2 (eC (.str ""))) (sSeq (sFor (iRange (eCall (F .l_digit) [(eVar 0), (eC (.int 41))])) (tgName 3) (tB F)) (sRet (eVar 2))))) := rfl
theorem text {i n : Nat} {s0 st : Store} (h : PI i s0 st) : ∃ t st', fns (n + 2) .l_text [.cell i] st = .ok (.str t) st' ∧ PI i s0 st' := by
  obtain ⟨r, s1, e1, r0, r1, h1⟩ := digitP (n := n) (m := 41) h (by decide) (by decide)
  have rg : iRange (eCall (fns (n + 1) .l_digit) [(eVar 0), (eC (.int 41))]) [some (.cell i), some (.str sg), some (.str ""), none] st = .ok (rangeD r.toNat) s1 := iRange_at (by simp [e1]) (by omega) r0
  have ln : ∀ st, dLen [.str sg] st = some (.int 90) := fun st => by
    simp only [dLen]
    rw [if_pos (by rw [sg_len]; decide), sg_len]
    rfl
  obtain ⟨env, s2, ⟨h2, t, o3, rfl, _⟩, lp⟩ := forGo_inv (i := 3) (g := tB (fns (n + 1))) (rangeD r.toNat) (fun k env st => PI i s0 st ∧ ∃ t o3, env = [some (.cell i), some (.str sg), some (.str t), o3] ∧ t.length ≤ k) [some (.cell i), some (.str sg), some (.str ""), none] s1 ⟨h1, "", none, rfl, by decide⟩ (fun k d hk env st ⟨hh, t, o3, he, hl⟩ => by
    subst he
    have hk' : k < 41 := by
      have := (List.getElem?_eq_some_iff.mp hk).1
      simp [rangeD] at this
      omega
    obtain ⟨z, s3, e3, z0, z1, h3⟩ := digitP (n := n) (m := 90) hh (by decide) (by decide)
    obtain ⟨c, hc⟩ := sg_at z0 z1
    have ad : ∀ st, dAdd (.str t) (.str ⟨#[c]⟩) st = some (.str (t ++ (⟨#[c]⟩ : Str))) := fun st => by
      simp only [dAdd]
      rw [if_pos ?_]
      have : (⟨#[c]⟩ : Str).length = 1 := rfl
      rw [this, sizeLine_eq]; omega
    exact ⟨[some (.cell i), some (.str sg), some (.str (t ++ (⟨#[c]⟩ : Str))), some d], s3, ⟨h3, _, _, rfl, by rw [len_app]; omega⟩, by simp [tB, ln, e3, hc, ad]⟩)
  exact ⟨t, s2, runF_ret (by simp [g_tx, rg, lp]), h2⟩
theorem p18 {st : Store} : dPow (.int 10) (.int 18) st = some (.int 1000000000000000000) := by
  have h : powOk 10 18 = true := by decide
  simp only [dPow, if_pos h]
  rfl
theorem pot {ns : List Int} {k : Nat} {st : Store} (h : st[0]? = some (.ro (ns.map D.int))) (hk : k ≤ 2) : ∃ c, fns 59 .l_pot [.cell 0, .int (k : Nat)] st = .ok (.cell st.length) (st ++ [c]) ∧ PotC c := by
  have cl : cellL st 0 = some (ns.map D.int) := by unfold cellL; rw [h]
  have ln : dLen [.cell 0] st = some (.int ns.length) := by simp [dLen, cl]
  obtain ⟨z, hz⟩ : ∃ z : Int, eIf (tVal (eOp dLt (eVar 1) (eB dLen [(eVar 0)]))) (eOp dIdx (eVar 0) (eVar 1)) (eC (.int 0)) [some (.cell 0), some (.int (k : Nat)), none] st = .ok (.int z) st := by
    by_cases hl : k < ns.length
    · refine ⟨ns[k], ?_⟩
      have ix : dIdx (.cell 0) (.int (k : Nat)) st = some (.int ns[k]) := dIdx_cn cl (by simp [hl])
      simp [ln, hl, ix]
    · exact ⟨0, by simp [ln, hl]⟩
  have m1 : ∀ st, dMod (.int z) (.int 2147483629) st = some (.int (z % 2147483629)) := fun st => dMod_of (by decide)
  have m2 : ∀ st, dMul (.int 977) (.int (k : Nat)) st = some (.int (977 * (k : Nat))) := fun st => dMul_of (mulOk_of (a := 10) (b := 2) (by decide) (by omega) (by decide) (by decide))
  have b1 := Int.emod_nonneg z (by decide : (2147483629 : Int) ≠ 0)
  have b2 := Int.emod_lt_of_pos z (by decide : (0 : Int) < 2147483629)
  by_cases hc : 1000000000000000000 ≤ z
  · refine ⟨.lst [.int (z - 1000000000000000000), .int (z % 2147483629 + 977 * (k : Nat) + 1)], runF_ret ?_, _, _, rfl, by omega, by omega⟩
    simp only [g_l_pot, sSeq_app, sAsg_app, List.map_cons, List.map_nil, List.length_cons, List.length_nil, Nat.reduceAdd, Nat.reduceSub, List.replicate, List.cons_append, List.nil_append]
    rw [hz]
    simp [p18, hc, m1, m2]
  · refine ⟨.lst [.int 0, .int (z % 2147483629 + 977 * (k : Nat) + 1)], runF_ret ?_, _, _, rfl, by omega, by omega⟩
    simp only [g_l_pot, sSeq_app, sAsg_app, List.map_cons, List.map_nil, List.length_cons, List.length_nil, Nat.reduceAdd, Nat.reduceSub, List.replicate, List.cons_append, List.nil_append]
    rw [hz]
    simp [p18, hc, m1, m2]
def lB : Ev → M Fl := (sSeq (sAsg 4 (eCall (fns 59 .l_text) [(eCall (fns 59 .l_pot) [(eVar 0), (eVar 3)])])) (sSeq (sIf (tVal (eOp dNe (tkC 1 0) (eVar 1))) (sRet (eC (.bl false))) sNop) (sIf (tOr' (tVal (eOp dNe (tkC 2 1) (eVar 2))) (tVal (eOp dNe (eCall (fns 59 .l_taken) [(eC (.int 2)), (eC (.str "")), (eVar 4)]) (eC (.str "row"))))) (sRet (eC (.bl false))) sNop)))
theorem g_lw : g_law (fns 59) = (sSeq (sAsg 1 (eLst [(eC (.str "row")), (eC (.str "held")), (eC (.str "closed")), (eC (.str "numbers")), (eC (.str "number")), (eC (.str "count")), (eC (.str "group")), (eC (.str "copy"))])) (sSeq (sAsg 2 (eLst [(eC (.str "text")), (eC (.str "plan")), (eC (.str "step")), (eC (.str "say")), (eC (.str "name")), (eC (.str "kind"))])) (sSeq (sFor (iRange (eB dMax2 [(eC (.int 1)), (eB dMin2 [(eC (.int 3)), (eB dLen [(eVar 0)])])])) (tgName 3) lB) (sRet (eOp dEq (eCall (fns 59 .l_of_nothing) []) (eOp dAdd (eVar 1) (eVar 2))))))) := rfl
theorem tells_true : ∀ ns : List Int, ns.length ≤ 63 → (∀ z ∈ ns, Builtin.Int.intBits z ≤ 1048576) → ∃ st', fns 60 .law [.cell 0] [.ro (ns.map D.int)] = .ok (.bl true) st' := by
  intro ns _ _
  have ln : dLen [.cell 0] [.ro (ns.map D.int)] = some (.int ns.length) := by simp [dLen, cellL]
  obtain ⟨m, hm, em⟩ : ∃ m : Nat, m ≤ 3 ∧ eB dMax2 [(eC (.int 1)), (eB dMin2 [(eC (.int 3)), (eB dLen [(eVar 0)])])] [some (.cell 0), some (.lst rowsL), some (.lst plansL), none, none, none] [.ro (ns.map D.int)] = .ok (.int (m : Nat)) [.ro (ns.map D.int)] := by
    refine ⟨max 1 (min 3 ns.length), by omega, ?_⟩
    simp [ln, dMin2, dMax2]
    split <;> split <;> omega
  have rg := iRange_at em (by omega) (by omega)
  have tn : ((m : Nat) : Int).toNat = m := by omega
  rw [tn] at rg
  obtain ⟨env, st', ⟨_, o3, o4, rfl⟩, e⟩ := forGo_inv (i := 3) (g := lB) (rangeD m) (fun k env st => st[0]? = some (.ro (ns.map D.int)) ∧ ∃ o3 o4, env = [some (.cell 0), some (.lst rowsL), some (.lst plansL), o3, o4, none]) [some (.cell 0), some (.lst rowsL), some (.lst plansL), none, none, none] [.ro (ns.map D.int)] ⟨rfl, none, none, rfl⟩ (fun k d hk env st ⟨h0, o3, o4, he⟩ => by
    subst he
    obtain ⟨hlt, rfl⟩ := rangeD_at hk
    obtain ⟨c, e1, pc⟩ := pot (k := k) h0 (by omega)
    have hl : 0 < st.length := (List.getElem?_eq_some_iff.mp h0).1
    obtain ⟨t, s2, e2, h2⟩ := text (n := 57) (i := st.length) (s0 := st ++ [c]) (st := st ++ [c]) ⟨⟨c, by rw [List.getElem?_append_right (Nat.le_refl _)]; simp, pc⟩, fun _ _ _ => rfl⟩
    refine ⟨[some (.cell 0), some (.lst rowsL), some (.lst plansL), some (.int (k : Nat)), some (.str t), none], s2, ⟨?_, _, _, rfl⟩, ?_⟩
    · rw [h2.rest 0 (by omega) (by simp), List.getElem?_append_left hl]; exact h0
    · have a1 : lB [some (.cell 0), some (.lst rowsL), some (.lst plansL), some (.int (k : Nat)), o4, none] st = .ok (.nx [some (.cell 0), some (.lst rowsL), some (.lst plansL), some (.int (k : Nat)), some (.str t), none]) s2 := by
        unfold lB
        have c1 : eCall (fns 59 .l_text) [(eCall (fns 59 .l_pot) [(eVar 0), (eVar 3)])] [some (.cell 0), some (.lst rowsL), some (.lst plansL), some (.int (k : Nat)), o4, none] st = .ok (.str t) s2 := by simp [e1, e2]
        rw [sSeq_app, sAsg_app, c1, sb_ok, bnd_ok, nxt_nx]
        show (sSeq _ _) [some (.cell 0), some (.lst rowsL), some (.lst plansL), some (.int (k : Nat)), some (.str t), none] s2 = _
        rw [sSeq_app, sIf_app, tVal_app, eOp_app, tk0, bnd_ok, eVar_at 1 (d := .lst rowsL) (by rfl), bnd_ok, ne0, lif_some, bnd_ok, asB_bl, sb_ok]
        simp only [Bool.false_eq_true, if_false]
        rw [sNop_app, bnd_ok, nxt_nx, sIf_app, tOr_app, tVal_app, eOp_app, tk1, bnd_ok, eVar_at 2 (d := .lst plansL) (by rfl), bnd_ok, ne1, lif_some, bnd_ok, asB_bl, bnd_ok]
        simp only [Bool.false_eq_true, if_false]
        have c2 : eCall (fns 59 .l_taken) [(eC (.int 2)), (eC (.str "")), (eVar 4)] [some (.cell 0), some (.lst rowsL), some (.lst plansL), some (.int (k : Nat)), some (.str t), none] s2 = .ok (.str "row") s2 := by
          rw [eCall_app, aSeq_cons, eC_app, bnd_ok, aSeq_cons, eC_app, bnd_ok, aSeq_cons, eVar_at 4 (d := .str t) (by rfl), bnd_ok, aSeq_nil, bnd_ok, bnd_ok, bnd_ok, bnd_ok, tk2]
        rw [tVal_app, eOp_app, c2, bnd_ok, eC_app, bnd_ok, ne2, lif_some, bnd_ok, asB_bl, sb_ok]
        simp only [Bool.false_eq_true, if_false]
        rw [sNop_app]
      exact a1)
  refine ⟨st', runF_ret ?_⟩
  show g_law (fns 59) [some (.cell 0), none, none, none, none, none] [.ro (ns.map D.int)] = _
  have e5 : eLst [(eC (.str "row")), (eC (.str "held")), (eC (.str "closed")), (eC (.str "numbers")), (eC (.str "number")), (eC (.str "count")), (eC (.str "group")), (eC (.str "copy"))] [some (.cell 0), none, none, none, none, none] [.ro (ns.map D.int)] = .ok (.lst rowsL) [.ro (ns.map D.int)] := rfl
  have e6 : eLst [(eC (.str "text")), (eC (.str "plan")), (eC (.str "step")), (eC (.str "say")), (eC (.str "name")), (eC (.str "kind"))] [some (.cell 0), some (.lst rowsL), none, none, none, none] [.ro (ns.map D.int)] = .ok (.lst plansL) [.ro (ns.map D.int)] := rfl
  rw [g_lw, sSeq_app, sAsg_app, e5, sb_ok, bnd_ok, nxt_nx]
  show (sSeq _ _) [some (.cell 0), some (.lst rowsL), none, none, none, none] _ = _
  rw [sSeq_app, sAsg_app, e6, sb_ok, bnd_ok, nxt_nx]
  show (sSeq _ _) [some (.cell 0), some (.lst rowsL), some (.lst plansL), none, none, none] _ = _
  rw [sSeq_app, sFor_app, rg, sb_ok, e, bnd_ok, nxt_nx, sRet_app, eOp_app, eCall_app, aSeq_nil, bnd_ok, nothing, bnd_ok, eOp_app, eVar_at 1 (d := .lst rowsL) (by rfl), bnd_ok, eVar_at 2 (d := .lst plansL) (by rfl), bnd_ok, ad0, lif_some, bnd_ok, eq0, lif_some, sb_ok]
end K17
end

section
set_option Elab.async false
set_option linter.all false
set_option maxRecDepth 100000
set_option maxHeartbeats 4000000
namespace K17
open PySem PySem.Spec PyProof.Rows L2 G
def top (i : Nat) : Stmt := PySem.Challenge.pw_giftstreams_k17_refusals_made.main.body.getD i (.Pass ⟨0, 0, 0, 0⟩)
abbrev nm : Fn → Str
  | .want_free => "want_free"
  | .l_pot => "_law_pot"
  | .l_digit => "_law_digit"
  | .l_word_of => "_law_word_of"
  | .l_text => "_law_text"
  | .l_rows => "_law_rows"
  | .l_plans => "_law_plans"
  | .l_taken => "_law_taken"
  | .l_of_nothing => "_law_of_nothing"
  | .law => "law"
abbrev st : Fn → Stmt
  | .want_free => top 18
  | .l_pot => top 21
  | .l_digit => top 22
  | .l_word_of => top 23
  | .l_text => top 24
  | .l_rows => top 25
  | .l_plans => top 26
  | .l_taken => top 27
  | .l_of_nothing => top 28
  | .law => top 29
abbrev ps : Fn → List Str
  | .want_free => ["rows"]
  | .l_pot => ["_law_script", "_law_k"]
  | .l_digit => ["_law_pot_here", "_law_many"]
  | .l_word_of => ["_law_e"]
  | .l_text => ["_law_pot_here"]
  | .l_rows => ["_law_word", "_law_text_here"]
  | .l_plans => ["_law_word", "_law_text_here"]
  | .l_taken => ["_law_way", "_law_word", "_law_text_here"]
  | .l_of_nothing => []
  | .law => ["_law_script"]
def free : List Str := ["ValueError", "all", "divmod", "isinstance", "len", "list", "max", "min", "range"]
structure FT (K : PySem.W.Frag) (mg : Str → Option Value) : Prop extends Facts Fn nm st free K mg where
  X : ExcT exn K mg
  o_Row : mg "Row" = some (.ref (He.ga K "Row")) ∧ tyB K "Row" = true
abbrev N_want_free : List Str := ["rows", "seen", "row"]
theorem sc_want_free : FnScope N_want_free ["rows"] (defScope (st .want_free)) := ⟨rfl, rfl, rfl, by decide +kernel, rfl, by decide +kernel, by decide +kernel⟩
abbrev N_l_pot : List Str := ["_law_script", "_law_k", "_law_cell"]
theorem sc_l_pot : FnScope N_l_pot ["_law_script", "_law_k"] (defScope (st .l_pot)) := ⟨rfl, rfl, rfl, by decide +kernel, rfl, by decide +kernel, by decide +kernel⟩
abbrev N_l_digit : List Str := ["_law_pot_here", "_law_many", "_law_digit_here"]
theorem sc_l_digit : FnScope N_l_digit ["_law_pot_here", "_law_many"] (defScope (st .l_digit)) := ⟨rfl, rfl, rfl, by decide +kernel, rfl, by decide +kernel, by decide +kernel⟩
abbrev N_l_word_of : List Str := ["_law_e", "_law_some", "_law_words", "_law_word", "_law_truth"]
theorem sc_l_word_of : FnScope N_l_word_of ["_law_e"] (defScope (st .l_word_of)) := ⟨rfl, rfl, rfl, by decide +kernel, rfl, by decide +kernel, by decide +kernel⟩
abbrev N_l_text : List Str := ["_law_pot_here", "_law_signs", "_law_text_here", "_law_k"]
theorem sc_l_text : FnScope N_l_text ["_law_pot_here"] (defScope (st .l_text)) := ⟨rfl, rfl, rfl, by decide +kernel, rfl, by decide +kernel, by decide +kernel⟩
abbrev N_l_rows : List Str := ["_law_word", "_law_text_here"]
theorem sc_l_rows : FnScope N_l_rows ["_law_word", "_law_text_here"] (defScope (st .l_rows)) := ⟨rfl, rfl, rfl, by decide +kernel, rfl, by decide +kernel, by decide +kernel⟩
abbrev N_l_plans : List Str := ["_law_word", "_law_text_here"]
theorem sc_l_plans : FnScope N_l_plans ["_law_word", "_law_text_here"] (defScope (st .l_plans)) := ⟨rfl, rfl, rfl, by decide +kernel, rfl, by decide +kernel, by decide +kernel⟩
abbrev N_l_taken : List Str := ["_law_way", "_law_word", "_law_text_here", "_law_found", "_law_e"]
theorem sc_l_taken : FnScope N_l_taken ["_law_way", "_law_word", "_law_text_here"] (defScope (st .l_taken)) := ⟨rfl, rfl, rfl, by decide +kernel, rfl, by decide +kernel, by decide +kernel⟩
abbrev N_l_of_nothing : List Str := ["_law_some", "_law_one"]
theorem sc_l_of_nothing : FnScope N_l_of_nothing [] (defScope (st .l_of_nothing)) := ⟨rfl, rfl, rfl, by decide +kernel, rfl, by decide +kernel, by decide +kernel⟩
abbrev N_law : List Str := ["_law_script", "_law_rows_here", "_law_plans_here", "_law_k", "_law_text_here", "_law_word"]
theorem sc_law : FnScope N_law ["_law_script"] (defScope (st .law)) := ⟨rfl, rfl, rfl, by decide +kernel, rfl, by decide +kernel, by decide +kernel⟩
section
variable {P : Program} {w : World} {K : PySem.W.Frag} {mg : Str → Option Value} {base : Heap}
theorem bd_want_free {fd : FuncData} (FD : FunD K (nm .want_free) (nm .want_free) (defArgs (st .want_free)) (defBody (st .want_free)) (defScope (st .want_free)) [] [] (He.ga K (nm .want_free)) fd) : Binds K fd (ps .want_free) [] := FD.bindsN fun _ _ _ _ _ _ us hl => match us, hl with | [_], _ => rfl
theorem ok_want_free (T : FT K mg) {n : Nat} (ih : ∀ y, CalM P w K mg base n (nm y) (ps y) (fns n y)) : CalM P w K mg base (n + 1) (nm .want_free) (ps .want_free) (fns (n + 1) .want_free) := by
  refine calm_of T.toFacts .want_free sc_want_free (by decide) (fun fd FD => bd_want_free FD) fun cdv A outer s H E gd hr => ?_
  have hu := hr.units
  have hu5 := room65 hr
  have hu1 := room1 hr
  have hu12 := room12 hr
  have tk : L2N.Takes (cxOf (L2N.CX P w) P w K mg base N_want_free (nm .want_free) (defScope (st .want_free)) (He.ga K (nm .want_free)) cdv A outer s H E) (fun cls d _ H => E cls d H) := L2N.takes_of rfl rfl rfl rfl
  have po : PassesOwn (model P w) (cxOf (L2N.CX P w) P w K mg base N_want_free (nm .want_free) (defScope (st .want_free)) (He.ga K (nm .want_free)) cdv A outer s H E).A (cxOf (L2N.CX P w) P w K mg base N_want_free (nm .want_free) (defScope (st .want_free)) (He.ga K (nm .want_free)) cdv A outer s H E).env (cxOf (L2N.CX P w) P w K mg base N_want_free (nm .want_free) (defScope (st .want_free)) (He.ga K (nm .want_free)) cdv A outer s H E).xe := passes_of rfl
  exact (dss_cons (ds_if (dt_w (dw_or (dt_not (dt_val (de_isi ty_list (dv 0) rfl (T.fr "isinstance" (by decide +kernel)) rfl (T.fr "list" (by decide +kernel)) (by decide +kernel)))) (dw_or1 (dt_not (dt_val (de_callB (cd_all rfl) rfl (T.fr "all" (by decide +kernel)) (by decide +kernel) (da_cons (de_comp (own := [("row", 2)]) rfl sc_want_free.nd (di_seq (dv 0)) (blkOk_by (own := [("row", 2)]) (N := N_want_free) (sc := defScope (st .want_free)) (by decide +kernel)) (fun _ _ _ _ _ => (pg_name (i := 2) sc_want_free.nd rfl (by first | exact Or.inl rfl | exact Or.inr rfl))) (tgok_name _ 2) (by decide) (fun _ _ _ _ _ => (de_isNo T.o_Row.2 (dv 2) rfl (T.fr "isinstance" (by decide +kernel)) rfl T.o_Row.1))) da_nil))))))) (dss_one (ds_raise rfl (T.X.xc "NoRow" (by decide +kernel)) tk rfl rfl de_str)) dss_nil) (dss_cons ds_never (dss_cons ds_never (dss_one ds_never))))
theorem bd_l_pot {fd : FuncData} (FD : FunD K (nm .l_pot) (nm .l_pot) (defArgs (st .l_pot)) (defBody (st .l_pot)) (defScope (st .l_pot)) [] [] (He.ga K (nm .l_pot)) fd) : Binds K fd (ps .l_pot) [] := FD.bindsN fun _ _ _ _ _ _ us hl => match us, hl with | [_, _], _ => rfl
theorem ok_l_pot (T : FT K mg) {n : Nat} (ih : ∀ y, CalM P w K mg base n (nm y) (ps y) (fns n y)) : CalM P w K mg base (n + 1) (nm .l_pot) (ps .l_pot) (fns (n + 1) .l_pot) := by
  refine calm_of T.toFacts .l_pot sc_l_pot (by decide) (fun fd FD => bd_l_pot FD) fun cdv A outer s H E gd hr => ?_
  have hu := hr.units
  have hu5 := room65 hr
  have hu1 := room1 hr
  have hu12 := room12 hr
  have tk : L2N.Takes (cxOf (L2N.CX P w) P w K mg base N_l_pot (nm .l_pot) (defScope (st .l_pot)) (He.ga K (nm .l_pot)) cdv A outer s H E) (fun cls d _ H => E cls d H) := L2N.takes_of rfl rfl rfl rfl
  have po : PassesOwn (model P w) (cxOf (L2N.CX P w) P w K mg base N_l_pot (nm .l_pot) (defScope (st .l_pot)) (He.ga K (nm .l_pot)) cdv A outer s H E).A (cxOf (L2N.CX P w) P w K mg base N_l_pot (nm .l_pot) (defScope (st .l_pot)) (He.ga K (nm .l_pot)) cdv A outer s H E).env (cxOf (L2N.CX P w) P w K mg base N_l_pot (nm .l_pot) (defScope (st .l_pot)) (He.ga K (nm .l_pot)) cdv A outer s H E).xe := passes_of rfl
  exact (dss_cons (ds_set 2 sc_l_pot.nd rfl (by first | exact Or.inl rfl | exact Or.inr rfl) (de_if (dt_cmp od_lt (dv 1) (de_callB cd_len rfl (T.fr "len" (by decide +kernel)) (by decide +kernel) (da_cons (dv 0) da_nil))) (de_ix (dv 0) (dv 1)) de_int)) (dss_cons (ds_if (dt_cmp od_ge (dv 2) (de_op od_pow de_int de_int)) (dss_one (ds_ret (de_newL (da_cons (de_op od_sub (dv 2) (de_op od_pow de_int de_int)) (da_cons (de_op od_add (de_op od_add (de_op od_mod (dv 2) de_int) (de_op od_mul de_int (dv 1))) de_int) da_nil))))) dss_nil) (dss_one (ds_ret (de_newL (da_cons de_int (da_cons (de_op od_add (de_op od_add (de_op od_mod (dv 2) de_int) (de_op od_mul de_int (dv 1))) de_int) da_nil)))))))
theorem bd_l_digit {fd : FuncData} (FD : FunD K (nm .l_digit) (nm .l_digit) (defArgs (st .l_digit)) (defBody (st .l_digit)) (defScope (st .l_digit)) [] [] (He.ga K (nm .l_digit)) fd) : Binds K fd (ps .l_digit) [] := FD.bindsN fun _ _ _ _ _ _ us hl => match us, hl with | [_, _], _ => rfl
theorem ok_l_digit (T : FT K mg) {n : Nat} (ih : ∀ y, CalM P w K mg base n (nm y) (ps y) (fns n y)) : CalM P w K mg base (n + 1) (nm .l_digit) (ps .l_digit) (fns (n + 1) .l_digit) := by
  refine calm_of T.toFacts .l_digit sc_l_digit (by decide) (fun fd FD => bd_l_digit FD) fun cdv A outer s H E gd hr => ?_
  have hu := hr.units
  have hu5 := room65 hr
  have hu1 := room1 hr
  have hu12 := room12 hr
  have tk : L2N.Takes (cxOf (L2N.CX P w) P w K mg base N_l_digit (nm .l_digit) (defScope (st .l_digit)) (He.ga K (nm .l_digit)) cdv A outer s H E) (fun cls d _ H => E cls d H) := L2N.takes_of rfl rfl rfl rfl
  have po : PassesOwn (model P w) (cxOf (L2N.CX P w) P w K mg base N_l_digit (nm .l_digit) (defScope (st .l_digit)) (He.ga K (nm .l_digit)) cdv A outer s H E).A (cxOf (L2N.CX P w) P w K mg base N_l_digit (nm .l_digit) (defScope (st .l_digit)) (He.ga K (nm .l_digit)) cdv A outer s H E).env (cxOf (L2N.CX P w) P w K mg base N_l_digit (nm .l_digit) (defScope (st .l_digit)) (He.ga K (nm .l_digit)) cdv A outer s H E).xe := passes_of rfl
  exact (dss_cons (ds_if (dt_cmp od_gt (de_ix (dv 0) de_int) de_int) (dss_cons (ds_asg (de_callB cd_divmod rfl (T.fr "divmod" (by decide +kernel)) (by decide +kernel) (da_cons (de_ix (dv 0) de_int) (da_cons (dv 1) da_nil))) (dg_pair rfl (dg_sub (dv 0) de_int) (dg_name 2 sc_l_digit.nd rfl (by first | exact Or.inl rfl | exact Or.inr rfl)))) (dss_one (ds_ret (dv 2)))) dss_nil) (dss_cons (ds_asg (de_op od_mod (de_op od_add (de_op od_mul (de_ix (dv 0) de_int) de_int) de_int) de_int) (dg_sub (dv 0) de_int)) (dss_one (ds_ret (de_op od_mod (de_op od_div (de_op od_mod (de_op od_mul (de_ix (dv 0) de_int) (de_ix (dv 0) de_int)) de_int) de_int) (dv 1))))))
theorem bd_l_word_of {fd : FuncData} (FD : FunD K (nm .l_word_of) (nm .l_word_of) (defArgs (st .l_word_of)) (defBody (st .l_word_of)) (defScope (st .l_word_of)) [] [] (He.ga K (nm .l_word_of)) fd) : Binds K fd (ps .l_word_of) [] := FD.bindsN fun _ _ _ _ _ _ us hl => match us, hl with | [_], _ => rfl
theorem ok_l_word_of (T : FT K mg) {n : Nat} (ih : ∀ y, CalM P w K mg base n (nm y) (ps y) (fns n y)) : CalM P w K mg base (n + 1) (nm .l_word_of) (ps .l_word_of) (fns (n + 1) .l_word_of) := by
  refine calm_of T.toFacts .l_word_of sc_l_word_of (by decide) (fun fd FD => bd_l_word_of FD) fun cdv A outer s H E gd hr => ?_
  have hu := hr.units
  have hu5 := room65 hr
  have hu1 := room1 hr
  have hu12 := room12 hr
  have tk : L2N.Takes (cxOf (L2N.CX P w) P w K mg base N_l_word_of (nm .l_word_of) (defScope (st .l_word_of)) (He.ga K (nm .l_word_of)) cdv A outer s H E) (fun cls d _ H => E cls d H) := L2N.takes_of rfl rfl rfl rfl
  have po : PassesOwn (model P w) (cxOf (L2N.CX P w) P w K mg base N_l_word_of (nm .l_word_of) (defScope (st .l_word_of)) (He.ga K (nm .l_word_of)) cdv A outer s H E).A (cxOf (L2N.CX P w) P w K mg base N_l_word_of (nm .l_word_of) (defScope (st .l_word_of)) (He.ga K (nm .l_word_of)) cdv A outer s H E).env (cxOf (L2N.CX P w) P w K mg base N_l_word_of (nm .l_word_of) (defScope (st .l_word_of)) (He.ga K (nm .l_word_of)) cdv A outer s H E).xe := passes_of rfl
  exact (dss_cons (ds_set 1 sc_l_word_of.nd rfl (by first | exact Or.inl rfl | exact Or.inr rfl) (de_lst (da_cons (de_tup (da_cons de_str (da_cons (de_isxO (T.X.sb "NoRow" (by decide +kernel)) (dv 0) rfl (T.fr "isinstance" (by decide +kernel)) rfl (T.X.xc "NoRow" (by decide +kernel)).mg_) da_nil))) (da_cons (de_tup (da_cons de_str (da_cons (de_isxO (T.X.sb "Held" (by decide +kernel)) (dv 0) rfl (T.fr "isinstance" (by decide +kernel)) rfl (T.X.xc "Held" (by decide +kernel)).mg_) da_nil))) (da_cons (de_tup (da_cons de_str (da_cons (de_isxO (T.X.sb "Closed" (by decide +kernel)) (dv 0) rfl (T.fr "isinstance" (by decide +kernel)) rfl (T.X.xc "Closed" (by decide +kernel)).mg_) da_nil))) da_nil))))) (dss_cons (ds_set 1 sc_l_word_of.nd rfl (by first | exact Or.inl rfl | exact Or.inr rfl) (de_op od_add (dv 1) (de_lst (da_cons (de_tup (da_cons de_str (da_cons (de_isxO (T.X.sb "NoNumbers" (by decide +kernel)) (dv 0) rfl (T.fr "isinstance" (by decide +kernel)) rfl (T.X.xc "NoNumbers" (by decide +kernel)).mg_) da_nil))) (da_cons (de_tup (da_cons de_str (da_cons (de_isxO (T.X.sb "NoNumber" (by decide +kernel)) (dv 0) rfl (T.fr "isinstance" (by decide +kernel)) rfl (T.X.xc "NoNumber" (by decide +kernel)).mg_) da_nil))) da_nil))))) (dss_cons (ds_set 1 sc_l_word_of.nd rfl (by first | exact Or.inl rfl | exact Or.inr rfl) (de_op od_add (dv 1) (de_lst (da_cons (de_tup (da_cons de_str (da_cons (de_isxO (T.X.sb "NoCount" (by decide +kernel)) (dv 0) rfl (T.fr "isinstance" (by decide +kernel)) rfl (T.X.xc "NoCount" (by decide +kernel)).mg_) da_nil))) (da_cons (de_tup (da_cons de_str (da_cons (de_isxO (T.X.sb "NoGroup" (by decide +kernel)) (dv 0) rfl (T.fr "isinstance" (by decide +kernel)) rfl (T.X.xc "NoGroup" (by decide +kernel)).mg_) da_nil))) da_nil))))) (dss_cons (ds_set 1 sc_l_word_of.nd rfl (by first | exact Or.inl rfl | exact Or.inr rfl) (de_op od_add (dv 1) (de_lst (da_cons (de_tup (da_cons de_str (da_cons (de_isxO (T.X.sb "NoCopy" (by decide +kernel)) (dv 0) rfl (T.fr "isinstance" (by decide +kernel)) rfl (T.X.xc "NoCopy" (by decide +kernel)).mg_) da_nil))) (da_cons (de_tup (da_cons de_str (da_cons (de_isxO (T.X.sb "NoText" (by decide +kernel)) (dv 0) rfl (T.fr "isinstance" (by decide +kernel)) rfl (T.X.xc "NoText" (by decide +kernel)).mg_) da_nil))) (da_cons (de_tup (da_cons de_str (da_cons (de_isxO (T.X.sb "NoPlan" (by decide +kernel)) (dv 0) rfl (T.fr "isinstance" (by decide +kernel)) rfl (T.X.xc "NoPlan" (by decide +kernel)).mg_) da_nil))) da_nil)))))) (dss_cons (ds_set 1 sc_l_word_of.nd rfl (by first | exact Or.inl rfl | exact Or.inr rfl) (de_op od_add (dv 1) (de_lst (da_cons (de_tup (da_cons de_str (da_cons (de_isxO (T.X.sb "NoStep" (by decide +kernel)) (dv 0) rfl (T.fr "isinstance" (by decide +kernel)) rfl (T.X.xc "NoStep" (by decide +kernel)).mg_) da_nil))) (da_cons (de_tup (da_cons de_str (da_cons (de_isxO (T.X.sb "NoSay" (by decide +kernel)) (dv 0) rfl (T.fr "isinstance" (by decide +kernel)) rfl (T.X.xc "NoSay" (by decide +kernel)).mg_) da_nil))) (da_cons (de_tup (da_cons de_str (da_cons (de_isxO (T.X.sb "NoName" (by decide +kernel)) (dv 0) rfl (T.fr "isinstance" (by decide +kernel)) rfl (T.X.xc "NoName" (by decide +kernel)).mg_) da_nil))) da_nil)))))) (dss_cons (ds_set 1 sc_l_word_of.nd rfl (by first | exact Or.inl rfl | exact Or.inr rfl) (de_op od_add (dv 1) (de_lst (da_cons (de_tup (da_cons de_str (da_cons (de_isxO (T.X.sb "NoKind" (by decide +kernel)) (dv 0) rfl (T.fr "isinstance" (by decide +kernel)) rfl (T.X.xc "NoKind" (by decide +kernel)).mg_) da_nil))) da_nil)))) (dss_cons (ds_setCompIf 2 (own := [("_law_word", 3), ("_law_truth", 4)]) rfl sc_l_word_of.nd rfl rfl (sw_true rfl rfl rfl (by decide +kernel)) (di_seqL (dv 1)) (blkOk_by (own := [("_law_word", 3), ("_law_truth", 4)]) (N := N_l_word_of) (sc := defScope (st .l_word_of)) (by decide +kernel)) (fun _ _ _ _ _ => (pg_tup rfl (pgs_cons (pg_name (i := 3) sc_l_word_of.nd rfl (by first | exact Or.inl rfl | exact Or.inr rfl)) (pgs_cons (pg_name (i := 4) sc_l_word_of.nd rfl (by first | exact Or.inl rfl | exact Or.inr rfl)) pgs_nil)))) (tgok_pair _ 3 4) (by decide) (fun _ _ _ _ _ => (dt_val (dv 4))) (fun _ _ _ _ _ => (dv 3))) (dss_cons (ds_if (dt_w (dw_or (dt_cmp (od_ne hu) (de_callB cd_len rfl (T.fr "len" (by decide +kernel)) (by decide +kernel) (da_cons (dv 2) da_nil)) de_int) (dw_or1 (dt_not (dt_val (de_isxB T.X.sv (dv 0) rfl (T.fr "isinstance" (by decide +kernel)) rfl (T.fr "ValueError" (by decide +kernel)) (by decide +kernel))))))) (dss_one (ds_ret de_str)) dss_nil) (dss_one (ds_ret (de_ix (dv 2) de_int)))))))))))
theorem hw_l_word_of (T : FT K mg) : ∀ (n : Nat) {fd : FuncData}, FunD K (nm .l_word_of) (nm .l_word_of) (defArgs (st .l_word_of)) (defBody (st .l_word_of)) (defScope (st .l_word_of)) [] [] (He.ga K (nm .l_word_of)) fd → FnW P w K mg base n (He.ga K (nm .l_word_of)) fd "_law_e" (fns n .l_word_of)
  | 0, fd, FD => ⟨fun _ _ _ _ _ _ _ _ _ _ _ _ _ _ _ _ _ _ _ _ _ hF _ => by cases hF⟩
  | n + 1, fd, FD => by
    refine fnw_of FD sc_l_word_of (by decide) T.X.ni fun base cdv A outer s H E gd hr hot => ?_
    have hu := unitsH hr
    exact (dss_cons (ds_set 1 sc_l_word_of.nd rfl (by first | exact Or.inl rfl | exact Or.inr rfl) (de_lst (da_cons (de_tup (da_cons de_str (da_cons (de_isxO (T.X.sb "NoRow" (by decide +kernel)) (dv 0) rfl (T.fr "isinstance" (by decide +kernel)) rfl (T.X.xc "NoRow" (by decide +kernel)).mg_) da_nil))) (da_cons (de_tup (da_cons de_str (da_cons (de_isxO (T.X.sb "Held" (by decide +kernel)) (dv 0) rfl (T.fr "isinstance" (by decide +kernel)) rfl (T.X.xc "Held" (by decide +kernel)).mg_) da_nil))) (da_cons (de_tup (da_cons de_str (da_cons (de_isxO (T.X.sb "Closed" (by decide +kernel)) (dv 0) rfl (T.fr "isinstance" (by decide +kernel)) rfl (T.X.xc "Closed" (by decide +kernel)).mg_) da_nil))) da_nil))))) (dss_cons (ds_set 1 sc_l_word_of.nd rfl (by first | exact Or.inl rfl | exact Or.inr rfl) (de_op od_add (dv 1) (de_lst (da_cons (de_tup (da_cons de_str (da_cons (de_isxO (T.X.sb "NoNumbers" (by decide +kernel)) (dv 0) rfl (T.fr "isinstance" (by decide +kernel)) rfl (T.X.xc "NoNumbers" (by decide +kernel)).mg_) da_nil))) (da_cons (de_tup (da_cons de_str (da_cons (de_isxO (T.X.sb "NoNumber" (by decide +kernel)) (dv 0) rfl (T.fr "isinstance" (by decide +kernel)) rfl (T.X.xc "NoNumber" (by decide +kernel)).mg_) da_nil))) da_nil))))) (dss_cons (ds_set 1 sc_l_word_of.nd rfl (by first | exact Or.inl rfl | exact Or.inr rfl) (de_op od_add (dv 1) (de_lst (da_cons (de_tup (da_cons de_str (da_cons (de_isxO (T.X.sb "NoCount" (by decide +kernel)) (dv 0) rfl (T.fr "isinstance" (by decide +kernel)) rfl (T.X.xc "NoCount" (by decide +kernel)).mg_) da_nil))) (da_cons (de_tup (da_cons de_str (da_cons (de_isxO (T.X.sb "NoGroup" (by decide +kernel)) (dv 0) rfl (T.fr "isinstance" (by decide +kernel)) rfl (T.X.xc "NoGroup" (by decide +kernel)).mg_) da_nil))) da_nil))))) (dss_cons (ds_set 1 sc_l_word_of.nd rfl (by first | exact Or.inl rfl | exact Or.inr rfl) (de_op od_add (dv 1) (de_lst (da_cons (de_tup (da_cons de_str (da_cons (de_isxO (T.X.sb "NoCopy" (by decide +kernel)) (dv 0) rfl (T.fr "isinstance" (by decide +kernel)) rfl (T.X.xc "NoCopy" (by decide +kernel)).mg_) da_nil))) (da_cons (de_tup (da_cons de_str (da_cons (de_isxO (T.X.sb "NoText" (by decide +kernel)) (dv 0) rfl (T.fr "isinstance" (by decide +kernel)) rfl (T.X.xc "NoText" (by decide +kernel)).mg_) da_nil))) (da_cons (de_tup (da_cons de_str (da_cons (de_isxO (T.X.sb "NoPlan" (by decide +kernel)) (dv 0) rfl (T.fr "isinstance" (by decide +kernel)) rfl (T.X.xc "NoPlan" (by decide +kernel)).mg_) da_nil))) da_nil)))))) (dss_cons (ds_set 1 sc_l_word_of.nd rfl (by first | exact Or.inl rfl | exact Or.inr rfl) (de_op od_add (dv 1) (de_lst (da_cons (de_tup (da_cons de_str (da_cons (de_isxO (T.X.sb "NoStep" (by decide +kernel)) (dv 0) rfl (T.fr "isinstance" (by decide +kernel)) rfl (T.X.xc "NoStep" (by decide +kernel)).mg_) da_nil))) (da_cons (de_tup (da_cons de_str (da_cons (de_isxO (T.X.sb "NoSay" (by decide +kernel)) (dv 0) rfl (T.fr "isinstance" (by decide +kernel)) rfl (T.X.xc "NoSay" (by decide +kernel)).mg_) da_nil))) (da_cons (de_tup (da_cons de_str (da_cons (de_isxO (T.X.sb "NoName" (by decide +kernel)) (dv 0) rfl (T.fr "isinstance" (by decide +kernel)) rfl (T.X.xc "NoName" (by decide +kernel)).mg_) da_nil))) da_nil)))))) (dss_cons (ds_set 1 sc_l_word_of.nd rfl (by first | exact Or.inl rfl | exact Or.inr rfl) (de_op od_add (dv 1) (de_lst (da_cons (de_tup (da_cons de_str (da_cons (de_isxO (T.X.sb "NoKind" (by decide +kernel)) (dv 0) rfl (T.fr "isinstance" (by decide +kernel)) rfl (T.X.xc "NoKind" (by decide +kernel)).mg_) da_nil))) da_nil)))) (dss_cons (ds_setCompIfT 2 (own := [("_law_word", 3), ("_law_truth", 4)]) hot sc_l_word_of.nd rfl rfl (sw_true rfl rfl rfl (by decide +kernel)) (dv 1) (blkOk_by (own := [("_law_word", 3), ("_law_truth", 4)]) (N := N_l_word_of) (sc := defScope (st .l_word_of)) (by decide +kernel)) (fun _ _ _ _ _ hT => (pg_tupT hT (pgs_cons (pg_name (i := 3) sc_l_word_of.nd rfl (by first | exact Or.inl rfl | exact Or.inr rfl)) (pgs_cons (pg_name (i := 4) sc_l_word_of.nd rfl (by first | exact Or.inl rfl | exact Or.inr rfl)) pgs_nil)))) (tgok_pair _ 3 4) (by decide) (fun _ _ _ _ _ _ => (dt_val (dv 4))) (fun _ _ _ _ _ _ => (dv 3))) (dss_cons (ds_if (dt_w (dw_or (dt_cmp (od_ne hu) (de_callB cd_len rfl (T.fr "len" (by decide +kernel)) (by decide +kernel) (da_cons (dv 2) da_nil)) de_int) (dw_or1 (dt_not (dt_val (de_isxB T.X.sv (dv 0) rfl (T.fr "isinstance" (by decide +kernel)) rfl (T.fr "ValueError" (by decide +kernel)) (by decide +kernel))))))) (dss_one (ds_ret de_str)) dss_nil) (dss_one (ds_ret (de_ix (dv 2) de_int)))))))))))
theorem bd_l_text {fd : FuncData} (FD : FunD K (nm .l_text) (nm .l_text) (defArgs (st .l_text)) (defBody (st .l_text)) (defScope (st .l_text)) [] [] (He.ga K (nm .l_text)) fd) : Binds K fd (ps .l_text) [] := FD.bindsN fun _ _ _ _ _ _ us hl => match us, hl with | [_], _ => rfl
theorem ok_l_text (T : FT K mg) {n : Nat} (ih : ∀ y, CalM P w K mg base n (nm y) (ps y) (fns n y)) : CalM P w K mg base (n + 1) (nm .l_text) (ps .l_text) (fns (n + 1) .l_text) := by
  refine calm_of T.toFacts .l_text sc_l_text (by decide) (fun fd FD => bd_l_text FD) fun cdv A outer s H E gd hr => ?_
  have hu := hr.units
  have hu5 := room65 hr
  have hu1 := room1 hr
  have hu12 := room12 hr
  have tk : L2N.Takes (cxOf (L2N.CX P w) P w K mg base N_l_text (nm .l_text) (defScope (st .l_text)) (He.ga K (nm .l_text)) cdv A outer s H E) (fun cls d _ H => E cls d H) := L2N.takes_of rfl rfl rfl rfl
  have po : PassesOwn (model P w) (cxOf (L2N.CX P w) P w K mg base N_l_text (nm .l_text) (defScope (st .l_text)) (He.ga K (nm .l_text)) cdv A outer s H E).A (cxOf (L2N.CX P w) P w K mg base N_l_text (nm .l_text) (defScope (st .l_text)) (He.ga K (nm .l_text)) cdv A outer s H E).env (cxOf (L2N.CX P w) P w K mg base N_l_text (nm .l_text) (defScope (st .l_text)) (He.ga K (nm .l_text)) cdv A outer s H E).xe := passes_of rfl
  exact (dss_cons (ds_set 1 sc_l_text.nd rfl (by first | exact Or.inl rfl | exact Or.inr rfl) de_str) (dss_cons (ds_set 2 sc_l_text.nd rfl (by first | exact Or.inl rfl | exact Or.inr rfl) de_str) (dss_cons (ds_for po rfl (di_range rfl (T.fr "range" (by decide +kernel)) (dcall (ih .l_digit) gd hr tk rfl rfl (da_cons (dv 0) (da_cons de_int da_nil)))) (pg_name (i := 3) sc_l_text.nd rfl (by first | exact Or.inl rfl | exact Or.inr rfl)) (tgok_name _ 3) (dss_one (ds_set 2 sc_l_text.nd rfl (by first | exact Or.inl rfl | exact Or.inr rfl) (de_op od_add (dv 2) (de_ix (dv 1) (dcall (ih .l_digit) gd hr tk rfl rfl (da_cons (dv 0) (da_cons (de_callB cd_len rfl (T.fr "len" (by decide +kernel)) (by decide +kernel) (da_cons (dv 1) da_nil)) da_nil)))))))) (dss_one (ds_ret (dv 2))))))
theorem bd_l_rows {fd : FuncData} (FD : FunD K (nm .l_rows) (nm .l_rows) (defArgs (st .l_rows)) (defBody (st .l_rows)) (defScope (st .l_rows)) [] [] (He.ga K (nm .l_rows)) fd) : Binds K fd (ps .l_rows) [] := FD.bindsN fun _ _ _ _ _ _ us hl => match us, hl with | [_, _], _ => rfl
theorem ok_l_rows (T : FT K mg) {n : Nat} (ih : ∀ y, CalM P w K mg base n (nm y) (ps y) (fns n y)) : CalM P w K mg base (n + 1) (nm .l_rows) (ps .l_rows) (fns (n + 1) .l_rows) := by
  refine calm_of T.toFacts .l_rows sc_l_rows (by decide) (fun fd FD => bd_l_rows FD) fun cdv A outer s H E gd hr => ?_
  have hu := hr.units
  have hu5 := room65 hr
  have hu1 := room1 hr
  have hu12 := room12 hr
  have tk : L2N.Takes (cxOf (L2N.CX P w) P w K mg base N_l_rows (nm .l_rows) (defScope (st .l_rows)) (He.ga K (nm .l_rows)) cdv A outer s H E) (fun cls d _ H => E cls d H) := L2N.takes_of rfl rfl rfl rfl
  have po : PassesOwn (model P w) (cxOf (L2N.CX P w) P w K mg base N_l_rows (nm .l_rows) (defScope (st .l_rows)) (He.ga K (nm .l_rows)) cdv A outer s H E).A (cxOf (L2N.CX P w) P w K mg base N_l_rows (nm .l_rows) (defScope (st .l_rows)) (He.ga K (nm .l_rows)) cdv A outer s H E).env (cxOf (L2N.CX P w) P w K mg base N_l_rows (nm .l_rows) (defScope (st .l_rows)) (He.ga K (nm .l_rows)) cdv A outer s H E).xe := passes_of rfl
  exact (dss_cons (ds_if (dt_cmp (od_eq hu) (dv 0) de_str) (dss_one (ds_raise rfl (T.X.xc "NoRow" (by decide +kernel)) tk rfl rfl (dv 1))) dss_nil) (dss_cons (ds_if (dt_cmp (od_eq hu) (dv 0) de_str) (dss_one (ds_raise rfl (T.X.xc "Held" (by decide +kernel)) tk rfl rfl (dv 1))) dss_nil) (dss_cons (ds_if (dt_cmp (od_eq hu) (dv 0) de_str) (dss_one (ds_raise rfl (T.X.xc "Closed" (by decide +kernel)) tk rfl rfl (dv 1))) dss_nil) (dss_cons (ds_if (dt_cmp (od_eq hu) (dv 0) de_str) (dss_one (ds_raise rfl (T.X.xc "NoNumbers" (by decide +kernel)) tk rfl rfl (dv 1))) dss_nil) (dss_cons (ds_if (dt_cmp (od_eq hu) (dv 0) de_str) (dss_one (ds_raise rfl (T.X.xc "NoNumber" (by decide +kernel)) tk rfl rfl (dv 1))) dss_nil) (dss_cons (ds_if (dt_cmp (od_eq hu) (dv 0) de_str) (dss_one (ds_raise rfl (T.X.xc "NoCount" (by decide +kernel)) tk rfl rfl (dv 1))) dss_nil) (dss_cons (ds_if (dt_cmp (od_eq hu) (dv 0) de_str) (dss_one (ds_raise rfl (T.X.xc "NoGroup" (by decide +kernel)) tk rfl rfl (dv 1))) dss_nil) (dss_one (ds_raise rfl (T.X.xc "NoCopy" (by decide +kernel)) tk rfl rfl (dv 1))))))))))
theorem bd_l_plans {fd : FuncData} (FD : FunD K (nm .l_plans) (nm .l_plans) (defArgs (st .l_plans)) (defBody (st .l_plans)) (defScope (st .l_plans)) [] [] (He.ga K (nm .l_plans)) fd) : Binds K fd (ps .l_plans) [] := FD.bindsN fun _ _ _ _ _ _ us hl => match us, hl with | [_, _], _ => rfl
theorem ok_l_plans (T : FT K mg) {n : Nat} (ih : ∀ y, CalM P w K mg base n (nm y) (ps y) (fns n y)) : CalM P w K mg base (n + 1) (nm .l_plans) (ps .l_plans) (fns (n + 1) .l_plans) := by
  refine calm_of T.toFacts .l_plans sc_l_plans (by decide) (fun fd FD => bd_l_plans FD) fun cdv A outer s H E gd hr => ?_
  have hu := hr.units
  have hu5 := room65 hr
  have hu1 := room1 hr
  have hu12 := room12 hr
  have tk : L2N.Takes (cxOf (L2N.CX P w) P w K mg base N_l_plans (nm .l_plans) (defScope (st .l_plans)) (He.ga K (nm .l_plans)) cdv A outer s H E) (fun cls d _ H => E cls d H) := L2N.takes_of rfl rfl rfl rfl
  have po : PassesOwn (model P w) (cxOf (L2N.CX P w) P w K mg base N_l_plans (nm .l_plans) (defScope (st .l_plans)) (He.ga K (nm .l_plans)) cdv A outer s H E).A (cxOf (L2N.CX P w) P w K mg base N_l_plans (nm .l_plans) (defScope (st .l_plans)) (He.ga K (nm .l_plans)) cdv A outer s H E).env (cxOf (L2N.CX P w) P w K mg base N_l_plans (nm .l_plans) (defScope (st .l_plans)) (He.ga K (nm .l_plans)) cdv A outer s H E).xe := passes_of rfl
  exact (dss_cons (ds_if (dt_cmp (od_eq hu) (dv 0) de_str) (dss_one (ds_raise rfl (T.X.xc "NoText" (by decide +kernel)) tk rfl rfl (dv 1))) dss_nil) (dss_cons (ds_if (dt_cmp (od_eq hu) (dv 0) de_str) (dss_one (ds_raise rfl (T.X.xc "NoPlan" (by decide +kernel)) tk rfl rfl (dv 1))) dss_nil) (dss_cons (ds_if (dt_cmp (od_eq hu) (dv 0) de_str) (dss_one (ds_raise rfl (T.X.xc "NoStep" (by decide +kernel)) tk rfl rfl (dv 1))) dss_nil) (dss_cons (ds_if (dt_cmp (od_eq hu) (dv 0) de_str) (dss_one (ds_raise rfl (T.X.xc "NoSay" (by decide +kernel)) tk rfl rfl (dv 1))) dss_nil) (dss_cons (ds_if (dt_cmp (od_eq hu) (dv 0) de_str) (dss_one (ds_raise rfl (T.X.xc "NoName" (by decide +kernel)) tk rfl rfl (dv 1))) dss_nil) (dss_one (ds_raise rfl (T.X.xc "NoKind" (by decide +kernel)) tk rfl rfl (dv 1))))))))
theorem bd_l_taken {fd : FuncData} (FD : FunD K (nm .l_taken) (nm .l_taken) (defArgs (st .l_taken)) (defBody (st .l_taken)) (defScope (st .l_taken)) [] [] (He.ga K (nm .l_taken)) fd) : Binds K fd (ps .l_taken) [] := FD.bindsN fun _ _ _ _ _ _ us hl => match us, hl with | [_, _, _], _ => rfl
theorem ok_l_taken (T : FT K mg) {n : Nat} (ih : ∀ y, CalM P w K mg base n (nm y) (ps y) (fns n y)) : CalM P w K mg base (n + 1) (nm .l_taken) (ps .l_taken) (fns (n + 1) .l_taken) := by
  refine calm_of T.toFacts .l_taken sc_l_taken (by decide) (fun fd FD => bd_l_taken FD) fun cdv A outer s H E gd hr => ?_
  have hu := hr.units
  have hu5 := room65 hr
  have hu1 := room1 hr
  have hu12 := room12 hr
  have tk : L2N.Takes (cxOf (L2N.CX P w) P w K mg base N_l_taken (nm .l_taken) (defScope (st .l_taken)) (He.ga K (nm .l_taken)) cdv A outer s H E) (fun cls d _ H => E cls d H) := L2N.takes_of rfl rfl rfl rfl
  have po : PassesOwn (model P w) (cxOf (L2N.CX P w) P w K mg base N_l_taken (nm .l_taken) (defScope (st .l_taken)) (He.ga K (nm .l_taken)) cdv A outer s H E).A (cxOf (L2N.CX P w) P w K mg base N_l_taken (nm .l_taken) (defScope (st .l_taken)) (He.ga K (nm .l_taken)) cdv A outer s H E).env (cxOf (L2N.CX P w) P w K mg base N_l_taken (nm .l_taken) (defScope (st .l_taken)) (He.ga K (nm .l_taken)) cdv A outer s H E).xe := passes_of rfl
  obtain ⟨hwf, hwd⟩ := T.fd .l_word_of
  have hwm := T.mgf .l_word_of
  have hwk := hwd.kp
  have hwb : Binds K hwf ["_law_e"] [] := bd_l_word_of hwd
  have FW : FnW P w K mg base n (He.ga K (nm .l_word_of)) hwf "_law_e" (fns n .l_word_of) := hw_l_word_of T n hwd
  exact (dss_cons (ds_set 3 sc_l_taken.nd rfl (by first | exact Or.inl rfl | exact Or.inr rfl) de_str) (dss_cons (ds_tryW rfl rfl sc_l_taken.nd rfl rfl rfl rfl rfl T.X.ge T.X.em tk rfl FW gd hr hwm hwk hwb rfl (fun W' pn xe tk' po' => (dss_one (ds_if (dt_cmp (od_eq hu) (dv 0) de_int) (dss_one (ds_expr (dcall (ih .l_rows) gd hr tk' rfl rfl (da_cons (dv 1) (da_cons (dv 2) da_nil))))) (dss_one (ds_if (dt_cmp (od_eq hu) (dv 0) de_int) (dss_one (ds_expr (dcall (ih .l_plans) gd hr tk' rfl rfl (da_cons (dv 1) (da_cons (dv 2) da_nil))))) (dss_one (ds_expr (dcall (ih .want_free) gd hr tk' rfl rfl (da_cons (de_lst (da_cons (dv 2) da_nil)) da_nil)))))))))) (dss_one (ds_ret (dv 3)))))
theorem bd_l_of_nothing {fd : FuncData} (FD : FunD K (nm .l_of_nothing) (nm .l_of_nothing) (defArgs (st .l_of_nothing)) (defBody (st .l_of_nothing)) (defScope (st .l_of_nothing)) [] [] (He.ga K (nm .l_of_nothing)) fd) : Binds K fd (ps .l_of_nothing) [] := FD.bindsN fun _ _ _ _ _ _ us hl => match us, hl with | [], _ => rfl
theorem ok_l_of_nothing (T : FT K mg) {n : Nat} (ih : ∀ y, CalM P w K mg base n (nm y) (ps y) (fns n y)) : CalM P w K mg base (n + 1) (nm .l_of_nothing) (ps .l_of_nothing) (fns (n + 1) .l_of_nothing) := by
  refine calm_of T.toFacts .l_of_nothing sc_l_of_nothing (by decide) (fun fd FD => bd_l_of_nothing FD) fun cdv A outer s H E gd hr => ?_
  have hu := hr.units
  have hu5 := room65 hr
  have hu1 := room1 hr
  have hu12 := room12 hr
  have tk : L2N.Takes (cxOf (L2N.CX P w) P w K mg base N_l_of_nothing (nm .l_of_nothing) (defScope (st .l_of_nothing)) (He.ga K (nm .l_of_nothing)) cdv A outer s H E) (fun cls d _ H => E cls d H) := L2N.takes_of rfl rfl rfl rfl
  have po : PassesOwn (model P w) (cxOf (L2N.CX P w) P w K mg base N_l_of_nothing (nm .l_of_nothing) (defScope (st .l_of_nothing)) (He.ga K (nm .l_of_nothing)) cdv A outer s H E).A (cxOf (L2N.CX P w) P w K mg base N_l_of_nothing (nm .l_of_nothing) (defScope (st .l_of_nothing)) (He.ga K (nm .l_of_nothing)) cdv A outer s H E).env (cxOf (L2N.CX P w) P w K mg base N_l_of_nothing (nm .l_of_nothing) (defScope (st .l_of_nothing)) (He.ga K (nm .l_of_nothing)) cdv A outer s H E).xe := passes_of rfl
  exact (dss_cons (ds_set 0 sc_l_of_nothing.nd rfl (by first | exact Or.inl rfl | exact Or.inr rfl) (de_lst (da_cons (de_exc0 (T.X.xc "NoRow" (by decide +kernel)) rfl) (da_cons (de_exc0 (T.X.xc "Held" (by decide +kernel)) rfl) (da_cons (de_exc0 (T.X.xc "Closed" (by decide +kernel)) rfl) (da_cons (de_exc0 (T.X.xc "NoNumbers" (by decide +kernel)) rfl) (da_cons (de_exc0 (T.X.xc "NoNumber" (by decide +kernel)) rfl) (da_cons (de_exc0 (T.X.xc "NoCount" (by decide +kernel)) rfl) (da_cons (de_exc0 (T.X.xc "NoGroup" (by decide +kernel)) rfl) (da_cons (de_exc0 (T.X.xc "NoCopy" (by decide +kernel)) rfl) da_nil)))))))))) (dss_cons (ds_set 0 sc_l_of_nothing.nd rfl (by first | exact Or.inl rfl | exact Or.inr rfl) (de_op od_add (dv 0) (de_lst (da_cons (de_exc0 (T.X.xc "NoText" (by decide +kernel)) rfl) (da_cons (de_exc0 (T.X.xc "NoPlan" (by decide +kernel)) rfl) (da_cons (de_exc0 (T.X.xc "NoStep" (by decide +kernel)) rfl) (da_cons (de_exc0 (T.X.xc "NoSay" (by decide +kernel)) rfl) (da_cons (de_exc0 (T.X.xc "NoName" (by decide +kernel)) rfl) (da_cons (de_exc0 (T.X.xc "NoKind" (by decide +kernel)) rfl) da_nil))))))))) (dss_one (ds_ret (de_compIf (own := [("_law_one", 1)]) rfl sc_l_of_nothing.nd (di_seq (dv 0)) (blkOk_by (own := [("_law_one", 1)]) (N := N_l_of_nothing) (sc := defScope (st .l_of_nothing)) (by decide +kernel)) (fun _ _ _ _ _ => (pg_name (i := 1) sc_l_of_nothing.nd rfl (by first | exact Or.inl rfl | exact Or.inr rfl))) (tgok_name _ 1) (by decide) (fun _ _ _ _ _ => (dt_val (de_isxO (T.X.sb "GiftError" (by decide +kernel)) (dv 1) rfl (T.fr "isinstance" (by decide +kernel)) rfl T.X.ge))) (fun _ _ _ _ _ => (dcall (ih .l_word_of) gd hr takes0N rfl rfl (da_cons (dv 1) da_nil))))))))
theorem bd_law {fd : FuncData} (FD : FunD K (nm .law) (nm .law) (defArgs (st .law)) (defBody (st .law)) (defScope (st .law)) [] [] (He.ga K (nm .law)) fd) : Binds K fd (ps .law) [] := FD.bindsN fun _ _ _ _ _ _ us hl => match us, hl with | [_], _ => rfl
theorem ok_law (T : FT K mg) {n : Nat} (ih : ∀ y, CalM P w K mg base n (nm y) (ps y) (fns n y)) : CalM P w K mg base (n + 1) (nm .law) (ps .law) (fns (n + 1) .law) := by
  refine calm_of T.toFacts .law sc_law (by decide) (fun fd FD => bd_law FD) fun cdv A outer s H E gd hr => ?_
  have hu := hr.units
  have hu5 := room65 hr
  have hu1 := room1 hr
  have hu12 := room12 hr
  have tk : L2N.Takes (cxOf (L2N.CX P w) P w K mg base N_law (nm .law) (defScope (st .law)) (He.ga K (nm .law)) cdv A outer s H E) (fun cls d _ H => E cls d H) := L2N.takes_of rfl rfl rfl rfl
  have po : PassesOwn (model P w) (cxOf (L2N.CX P w) P w K mg base N_law (nm .law) (defScope (st .law)) (He.ga K (nm .law)) cdv A outer s H E).A (cxOf (L2N.CX P w) P w K mg base N_law (nm .law) (defScope (st .law)) (He.ga K (nm .law)) cdv A outer s H E).env (cxOf (L2N.CX P w) P w K mg base N_law (nm .law) (defScope (st .law)) (He.ga K (nm .law)) cdv A outer s H E).xe := passes_of rfl
  exact (dss_cons (ds_set 1 sc_law.nd rfl (by first | exact Or.inl rfl | exact Or.inr rfl) (de_lst (da_cons de_str (da_cons de_str (da_cons de_str (da_cons de_str (da_cons de_str (da_cons de_str (da_cons de_str (da_cons de_str da_nil)))))))))) (dss_cons (ds_set 2 sc_law.nd rfl (by first | exact Or.inl rfl | exact Or.inr rfl) (de_lst (da_cons de_str (da_cons de_str (da_cons de_str (da_cons de_str (da_cons de_str (da_cons de_str da_nil)))))))) (dss_cons (ds_for po rfl (di_range rfl (T.fr "range" (by decide +kernel)) (de_callB (cd_max2 rfl) rfl (T.fr "max" (by decide +kernel)) (by decide +kernel) (da_cons de_int (da_cons (de_callB (cd_min2 rfl) rfl (T.fr "min" (by decide +kernel)) (by decide +kernel) (da_cons de_int (da_cons (de_callB cd_len rfl (T.fr "len" (by decide +kernel)) (by decide +kernel) (da_cons (dv 0) da_nil)) da_nil))) da_nil)))) (pg_name (i := 3) sc_law.nd rfl (by first | exact Or.inl rfl | exact Or.inr rfl)) (tgok_name _ 3) (dss_cons (ds_set 4 sc_law.nd rfl (by first | exact Or.inl rfl | exact Or.inr rfl) (dcall (ih .l_text) gd hr tk rfl rfl (da_cons (dcall (ih .l_pot) gd hr tk rfl rfl (da_cons (dv 0) (da_cons (dv 3) da_nil))) da_nil))) (dss_cons (ds_if (dt_cmp (od_ne hu) (de_comp (own := [("_law_word", 5)]) rfl sc_law.nd (di_seq (dv 1)) (blkOk_by (own := [("_law_word", 5)]) (N := N_law) (sc := defScope (st .law)) (by decide +kernel)) (fun _ _ _ _ _ => (pg_name (i := 5) sc_law.nd rfl (by first | exact Or.inl rfl | exact Or.inr rfl))) (tgok_name _ 5) (by decide) (fun _ _ _ _ _ => (dcall (ih .l_taken) gd hr takes0N rfl rfl (da_cons de_int (da_cons (dv 5) (da_cons (dv 4) da_nil)))))) (dv 1)) (dss_one (ds_ret de_bl)) dss_nil) (dss_one (ds_if (dt_w (dw_or (dt_cmp (od_ne hu) (de_comp (own := [("_law_word", 5)]) rfl sc_law.nd (di_seq (dv 2)) (blkOk_by (own := [("_law_word", 5)]) (N := N_law) (sc := defScope (st .law)) (by decide +kernel)) (fun _ _ _ _ _ => (pg_name (i := 5) sc_law.nd rfl (by first | exact Or.inl rfl | exact Or.inr rfl))) (tgok_name _ 5) (by decide) (fun _ _ _ _ _ => (dcall (ih .l_taken) gd hr takes0N rfl rfl (da_cons de_int (da_cons (dv 5) (da_cons (dv 4) da_nil)))))) (dv 2)) (dw_or1 (dt_cmp (od_ne hu) (dcall (ih .l_taken) gd hr tk rfl rfl (da_cons de_int (da_cons de_str (da_cons (dv 4) da_nil)))) de_str)))) (dss_one (ds_ret de_bl)) dss_nil))))) (dss_one (ds_ret (de_cmp (od_eq hu) (dcall0 (ih .l_of_nothing) gd hr tk rfl rfl) (de_op od_add (dv 1) (dv 2))))))))
theorem fm_law (T : FT K mg) {n : Nat} (ih : ∀ y, CalM P w K mg base n (nm y) (ps y) (fns n y)) {fd : FuncData} (FD : FunD K (nm .law) (nm .law) (defArgs (st .law)) (defBody (st .law)) (defScope (st .law)) [] [] (He.ga K (nm .law)) fd) : FnM P w K mg base (n + 1) (He.ga K (nm .law)) fd (ps .law) (fns (n + 1) .law) := by
  refine fnm_of FD sc_law (by decide) fun cdv A outer s H E gd hr => ?_
  have hu := hr.units
  have hu5 := room65 hr
  have hu1 := room1 hr
  have hu12 := room12 hr
  have tk : L2N.Takes (cxOf (L2N.CX P w) P w K mg base N_law (nm .law) (defScope (st .law)) (He.ga K (nm .law)) cdv A outer s H E) (fun cls d _ H => E cls d H) := L2N.takes_of rfl rfl rfl rfl
  have po : PassesOwn (model P w) (cxOf (L2N.CX P w) P w K mg base N_law (nm .law) (defScope (st .law)) (He.ga K (nm .law)) cdv A outer s H E).A (cxOf (L2N.CX P w) P w K mg base N_law (nm .law) (defScope (st .law)) (He.ga K (nm .law)) cdv A outer s H E).env (cxOf (L2N.CX P w) P w K mg base N_law (nm .law) (defScope (st .law)) (He.ga K (nm .law)) cdv A outer s H E).xe := passes_of rfl
  exact (dss_cons (ds_set 1 sc_law.nd rfl (by first | exact Or.inl rfl | exact Or.inr rfl) (de_lst (da_cons de_str (da_cons de_str (da_cons de_str (da_cons de_str (da_cons de_str (da_cons de_str (da_cons de_str (da_cons de_str da_nil)))))))))) (dss_cons (ds_set 2 sc_law.nd rfl (by first | exact Or.inl rfl | exact Or.inr rfl) (de_lst (da_cons de_str (da_cons de_str (da_cons de_str (da_cons de_str (da_cons de_str (da_cons de_str da_nil)))))))) (dss_cons (ds_for po rfl (di_range rfl (T.fr "range" (by decide +kernel)) (de_callB (cd_max2 rfl) rfl (T.fr "max" (by decide +kernel)) (by decide +kernel) (da_cons de_int (da_cons (de_callB (cd_min2 rfl) rfl (T.fr "min" (by decide +kernel)) (by decide +kernel) (da_cons de_int (da_cons (de_callB cd_len rfl (T.fr "len" (by decide +kernel)) (by decide +kernel) (da_cons (dv 0) da_nil)) da_nil))) da_nil)))) (pg_name (i := 3) sc_law.nd rfl (by first | exact Or.inl rfl | exact Or.inr rfl)) (tgok_name _ 3) (dss_cons (ds_set 4 sc_law.nd rfl (by first | exact Or.inl rfl | exact Or.inr rfl) (dcall (ih .l_text) gd hr tk rfl rfl (da_cons (dcall (ih .l_pot) gd hr tk rfl rfl (da_cons (dv 0) (da_cons (dv 3) da_nil))) da_nil))) (dss_cons (ds_if (dt_cmp (od_ne hu) (de_comp (own := [("_law_word", 5)]) rfl sc_law.nd (di_seq (dv 1)) (blkOk_by (own := [("_law_word", 5)]) (N := N_law) (sc := defScope (st .law)) (by decide +kernel)) (fun _ _ _ _ _ => (pg_name (i := 5) sc_law.nd rfl (by first | exact Or.inl rfl | exact Or.inr rfl))) (tgok_name _ 5) (by decide) (fun _ _ _ _ _ => (dcall (ih .l_taken) gd hr takes0N rfl rfl (da_cons de_int (da_cons (dv 5) (da_cons (dv 4) da_nil)))))) (dv 1)) (dss_one (ds_ret de_bl)) dss_nil) (dss_one (ds_if (dt_w (dw_or (dt_cmp (od_ne hu) (de_comp (own := [("_law_word", 5)]) rfl sc_law.nd (di_seq (dv 2)) (blkOk_by (own := [("_law_word", 5)]) (N := N_law) (sc := defScope (st .law)) (by decide +kernel)) (fun _ _ _ _ _ => (pg_name (i := 5) sc_law.nd rfl (by first | exact Or.inl rfl | exact Or.inr rfl))) (tgok_name _ 5) (by decide) (fun _ _ _ _ _ => (dcall (ih .l_taken) gd hr takes0N rfl rfl (da_cons de_int (da_cons (dv 5) (da_cons (dv 4) da_nil)))))) (dv 2)) (dw_or1 (dt_cmp (od_ne hu) (dcall (ih .l_taken) gd hr tk rfl rfl (da_cons de_int (da_cons de_str (da_cons (dv 4) da_nil)))) de_str)))) (dss_one (ds_ret de_bl)) dss_nil))))) (dss_one (ds_ret (de_cmp (od_eq hu) (dcall0 (ih .l_of_nothing) gd hr tk rfl rfl) (de_op od_add (dv 1) (dv 2))))))))
theorem all_ok (T : FT K mg) : ∀ (n : Nat) (y : Fn), CalM P w K mg base n (nm y) (ps y) (fns n y)
  | 0, y => by
    obtain ⟨fd, FD⟩ := T.fd y
    cases y with
    | want_free => exact calm_zero (T.mgf .want_free) FD.kp (bd_want_free FD)
    | l_pot => exact calm_zero (T.mgf .l_pot) FD.kp (bd_l_pot FD)
    | l_digit => exact calm_zero (T.mgf .l_digit) FD.kp (bd_l_digit FD)
    | l_word_of => exact calm_zero (T.mgf .l_word_of) FD.kp (bd_l_word_of FD)
    | l_text => exact calm_zero (T.mgf .l_text) FD.kp (bd_l_text FD)
    | l_rows => exact calm_zero (T.mgf .l_rows) FD.kp (bd_l_rows FD)
    | l_plans => exact calm_zero (T.mgf .l_plans) FD.kp (bd_l_plans FD)
    | l_taken => exact calm_zero (T.mgf .l_taken) FD.kp (bd_l_taken FD)
    | l_of_nothing => exact calm_zero (T.mgf .l_of_nothing) FD.kp (bd_l_of_nothing FD)
    | law => exact calm_zero (T.mgf .law) FD.kp (bd_law FD)
  | n + 1, y => by
    have ih := fun y => all_ok T n y
    cases y with
    | want_free => exact ok_want_free T ih
    | l_pot => exact ok_l_pot T ih
    | l_digit => exact ok_l_digit T ih
    | l_word_of => exact ok_l_word_of T ih
    | l_text => exact ok_l_text T ih
    | l_rows => exact ok_l_rows T ih
    | l_plans => exact ok_l_plans T ih
    | l_taken => exact ok_l_taken T ih
    | l_of_nothing => exact ok_l_of_nothing T ih
    | law => exact ok_law T ih
end
/-! ## the head -/
def dfn (y : Fn) : He.DefD := ⟨(nm y, none), nm y, nm y, defArgs (st y), defBody (st y), defScope (st y), [], []⟩
def fnl : List Fn := [.want_free, .l_pot, .l_digit, .l_word_of, .l_text, .l_rows, .l_plans, .l_taken, .l_of_nothing, .law]
def fn : List He.DefD := fnl.map dfn
def fac : List He.Fa := [] ++ (["GiftError", "NoRow", "Held", "Closed", "NoNumbers", "NoNumber", "NoCount", "NoGroup", "NoCopy", "NoText", "NoPlan", "NoStep", "NoSay", "NoName", "NoKind", "Row"] : List Str).map He.Fa.glo
def fa : List He.Fa := (fnl.map fun y => He.Fa.glo (nm y)) ++ free.map He.Fa.free ++ fac
def exm (K : PySem.W.Frag) : Bool := excB exn K && tyB K "Row"
abbrev R : PySem.W.OpenRow := PySem.W.OpenLaw.row PySem.Challenge.rw_giftstreams_k17_refusals_made
abbrev hk : PySem.W.Hook := hookM 4 fa fn exm
def ob (s : PySem.W.SharedT) : He.AlD × Bool := obsM 4 fa fn exm (HandSHeadRun.getT s)
theorem ob_eq (s : PySem.W.SharedT) : ob s = hk.obs s.abs := obsM_eq (HandSHeadRun.getT_eq s)
def names : List PySem.Str := (["_wall", "GiftError", "NoRow", "Held", "Closed", "NoNumbers", "NoNumber", "NoCount", "NoGroup", "NoCopy", "NoText", "NoPlan", "NoStep", "NoSay", "NoName", "NoKind", "want_free", "Row", "_law_pot", "_law_digit", "_law_word_of", "_law_text", "_law_rows", "_law_plans", "_law_taken", "_law_of_nothing"] : List PySem.Str)
theorem run (w : World) : HandSHeadRun.RunEq R (PySem.W.view R.prog [29]) hk ob 20000 names w := by
  intro os
  kernel_rfl
theorem mem_fnl (y : Fn) : y ∈ fnl := by cases y <;> simp [fnl]
theorem facts {K : PySem.W.Frag} {h : Heap} {mg : Str → Option Value} (X : K.In h) (G : h.Ns mainGlobals mg) (c : He.SaysD fa fn K) (cx : exm K = true) : FT K mg where
  mgf := fun y => by
    obtain ⟨i, hi⟩ := List.getElem?_of_mem (mem_fnl y)
    have hl : i < fnl.length := (List.getElem?_eq_some_iff.mp hi).1
    refine He.glo_ok X G (c.fact i (f := .glo (nm y)) ?_)
    unfold fa
    rw [List.append_assoc, List.getElem?_append_left (by simpa using hl), List.getElem?_map, hi]
    rfl
  fd := fun y => by
    obtain ⟨i, hi⟩ := List.getElem?_of_mem (mem_fnl y)
    exact c.def_ i (d := dfn y) (by unfold fn; rw [List.getElem?_map, hi]; rfl)
  fr := fun x hx => by
    obtain ⟨i, hi⟩ := List.getElem?_of_mem hx
    refine He.free_ok X G (c.fact (fnl.length + i) (f := .free x) ?_)
    have hl2 : i < free.length := (List.getElem?_eq_some_iff.mp hi).1
    unfold fa
    rw [List.append_assoc, List.getElem?_append_right (by simp), List.getElem?_append_left (by simp; omega), List.getElem?_map]
    simp [hi]
  X := by
    have cx := cx
    simp only [exm, Bool.and_eq_true] at cx
    refine excB_ok (fun x hx => ?_) cx.1
    obtain ⟨i, hi⟩ := List.getElem?_of_mem hx
    have hl : i < 15 := (List.getElem?_eq_some_iff.mp hi).1
    refine He.glo_ok X G (c.fact (fnl.length + free.length + (0 + i)) (f := .glo x) ?_)
    unfold fa
    rw [List.getElem?_append_right (by simp)]
    simp only [List.length_append, List.length_map, Nat.add_sub_cancel_left]
    unfold fac
    rw [List.getElem?_append_right (by simp)]
    simp only [List.length_cons, List.length_nil, Nat.reduceAdd, Nat.add_sub_cancel_left, List.getElem?_map]
    have e : (["GiftError", "NoRow", "Held", "Closed", "NoNumbers", "NoNumber", "NoCount", "NoGroup", "NoCopy", "NoText", "NoPlan", "NoStep", "NoSay", "NoName", "NoKind", "Row"] : List Str)[i]? = some x := by
      have : (["GiftError", "NoRow", "Held", "Closed", "NoNumbers", "NoNumber", "NoCount", "NoGroup", "NoCopy", "NoText", "NoPlan", "NoStep", "NoSay", "NoName", "NoKind", "Row"] : List Str) = (gE :: exn) ++ (["Row"] : List Str) := rfl
      rw [this, List.getElem?_append_left (by simpa [exn] using hl)]; exact hi
    simp [e]
  o_Row := by
    have cx := cx
    simp only [exm, Bool.and_eq_true] at cx
    have hf := c.fact (fnl.length + free.length + 15) (f := .glo "Row") (by unfold fa; rw [List.getElem?_append_right (by simp)]; simp [fac])
    exact ⟨He.glo_ok X G hf, cx.2⟩
end K17
end

section
open PySem PySem.W PySem.Calls PyProof.Rows
set_option maxRecDepth 100000 in
set_option maxHeartbeats 0 in
theorem PySem.Challenge.cw_giftstreams_k17_refusals_made_holds : PySem.Challenge.rw_giftstreams_k17_refusals_made.Holds := by
  w_on; o_law
  refine HandSHeadRun.head_any (r := OpenLaw.row PySem.Challenge.rw_giftstreams_k17_refusals_made) (q := view (OpenLaw.row PySem.Challenge.rw_giftstreams_k17_refusals_made).prog [29]) (H := K17.hk) (ob := K17.ob) (M := 20000) (loose := K17.names) (d := HandSHeadRun.topDef (OpenLaw.row PySem.Challenge.rw_giftstreams_k17_refusals_made).prog 29) (kwd := []) K17.ob_eq
    (by kernel_rfl) (fun s => by kernel_rfl) K17.run (by kernel_rfl) (by kernel_rfl) (by kernel_rfl) (by rfl) (by first | assumption | decide +kernel) (by decide +kernel) ⟨rfl, rfl, rfl, rfl, rfl, by decide +kernel⟩ ?hw ?hc
  case hw => w_witness2
  case hc =>
    refine G.walkG (l := PySem.Challenge.rw_giftstreams_k17_refusals_made) (k := 60) (x := "_law_script") (F := K17.fns 60 .law) rfl (by kernel_rfl) ⟨rfl, by decide, by decide⟩ ?F K17.tells_true
    intro w mg fa h Y Gr hmg0
    obtain ⟨K, KX, c, cx⟩ := Y
    have hmg : mg ("law" : PySem.Str) = some (.ref fa) := by
      have e : (HandSHeadRun.topDef (OpenLaw.row PySem.Challenge.rw_giftstreams_k17_refusals_made).prog 29).name = ("law" : PySem.Str) := by kernel_rfl
      rw [← e]
      exact hmg0
    have T := K17.facts KX Gr c cx
    have z := hmg.symm.trans (T.mgf .law)
    cases z
    obtain ⟨fd, FD⟩ := T.fd .law
    refine ⟨K, fd, KX, ?_, fun base kb nb => ?_⟩
    · have b := L2.FunD.bindsA (ps := ["_law_script"]) FD fun _ _ _ _ _ _ us hl => match us, hl with | [_], _ => rfl
      exact fun s v => b s [v] rfl
    · exact K17.fm_law T (fun y => K17.all_ok T 59 y) FD
end
