import PyProof.Rows.All
import Wide.All
import OpenK.AllK
import Wide.FinOn
import HandS.ForMost
import HandS.HeadHook1
import HandS.Exc
import HandS.TupAny
import HandS.Deep
import HandS.IsInst
import HandS.Wide
import HandS.WideBits
import HandS.ExcCtx
import HandS.ExcOwn
import HandS.WordsExc
import HandS.TryOnly
import HandS.Defaults
import HandS.EndBits
import HandS.Style
import PyProof.ReprRoads
import HandS.RaiseMore
import HandS.Words
import HandS.Text
import HandS.TupMul
import HandS.Iter
import HandS.HeadHook2
import HandS.More
import HandS.SortInts
import KE.GoesMore
import HandS.SortRule
import HandS.TupLe
import KE.KSortTup
import HandS.HotCalls
import HandS.ExcIs
import HandS.ExcValue
import HandS.ExcValueHot
import KE.GoesEnum
import HandS.HeadHook3
import KE.IntTextLaws
import HandS.Head0
import HandS.Head1
import HandS.Head2
import HandS.HeadEnd
import PySem.Challenge.RW_giftstreams_k91_plan_texts
section
set_option Elab.async false
set_option linter.all false
set_option maxRecDepth 100000
set_option maxHeartbeats 1000000
namespace G
open PySem PySem.Spec PyProof.Rows L2

/-! ## values, cells, results -/
/-- a value: tuples and finished lists by value, what is still changed by a cell's number -/
inductive D where
  | non
  | bl (b : Bool)
  | int (i : Int)
  | str (x : Str)
  | tup (l : List D)
  | lst (l : List D)
  | cell (i : Nat)
  | dct0
  | exc (c : Str)
  | con (x : Str)
  deriving Inhabited
inductive Cell where
  | lst (l : List D)
  | ro (l : List D)
  | dct (l : List (Key × D))
  | ins (C : Str) (fs : List (Str × D))
  | dead
abbrev Store := List Cell
abbrev Mp := Nat → Addr
inductive Res (α : Type) where
  | ok (a : α) (st : Store)
  | err (c : Str) (st : Store)
  | bad
abbrev M (α : Type) := Store → Res α
def M.ret {α : Type} (a : α) : M α := fun st => .ok a st
def M.andThen {α β : Type} (x : M α) (f : α → M β) : M β := fun st => match x st with
  | .ok a st' => f a st'
  | .err c st' => .err c st'
  | .bad => .bad
def M.stuck {α : Type} : M α := fun _ => .bad
instance : Monad M where
  pure := M.ret
  bind := M.andThen
theorem bind_ok {α β : Type} {x : M α} {f : α → M β} {st st' : Store} {a : α} (h : x st = .ok a st') : (x >>= f) st = f a st' := by
  show M.andThen x f st = _
  unfold M.andThen; rw [h]
theorem pure_app {α : Type} (a : α) (st : Store) : (pure a : M α) st = .ok a st := rfl

/-! ## how a heap bears values and cells -/
def Cell.live : Cell → Prop
  | .dead => False
  | .ro _ => False
  | _ => True
/-- the addresses of the cells that may still be written -/
def Own (m : Mp) (st : Store) (a : Addr) : Prop := ∃ i c, st[i]? = some c ∧ c.live ∧ m i = a
/-- a list that is handed in: it stands still -/
def RoL (K : PySem.W.Frag) (H : Hp) (a : Addr) (xs : List V) : Prop := (∃ o, H a = some (.frz o (.lst xs))) ∨ ∃ (o : Obj) (its : Array Value) (n : Nat), K.lookup a = some o ∧ o.cls = .type "list" ∧ o.dict = none ∧ o.data = .seq its n ∧ its.size ≤ sizeLine ∧ Vals xs its.toList
theorem RoL.sq {K : PySem.W.Frag} {H : Hp} {a : Addr} {xs : List V} (h : RoL K H a xs) : SqL K H a xs := by
  rcases h with h | h
  · exact .inl (.inr h)
  · exact .inr h
/-- what the two relations need of the state -/
structure Wd where
  K : PySem.W.Frag
  m : Mp
  st : Store
  H : Hp
  /-- addresses at which no finished value stands (a list that a comprehension grows) -/
  rv : List Addr
/-- what is tracked and written by no cell -/
def Fz (w : Wd) (a : Addr) (o : HO) : Prop := w.H a = some o ∧ ¬ Own w.m w.st a
/-- .. and may be a value -/
def Fr (w : Wd) (a : Addr) (o : HO) : Prop := Fz w a o ∧ a ∉ w.rv
/-- what is tracked is an exception of the class that the program's name c has -/
def ExIs (K : PySem.W.Frag) (c : Str) (a : Addr) (o : HO) : Prop := ∀ (P : Program) (w : World) (H : Hp) (h : Heap), ObjOk P w H h a o → ∃ (oe : Obj) (vs : Array Value), h.get? a = some oe ∧ Zc (.ref (He.ga K c)) none oe ∧ oe.data = .fields vs
mutual
def Rep (w : Wd) : D → V → Prop
  | .non, v => v = .non
  | .bl b, v => v = .bl b
  | .int i, v => v = .int i
  | .str x, v => v = .str x
  | .tup l, v => ∃ a xs, v = .ref a ∧ SqT w.K w.H a xs ∧ Reps w l xs ∧ l.length ≤ sizeLine
  | .lst l, v => ∃ a xs, v = .ref a ∧ Fr w a (.lst xs) ∧ Reps w l xs ∧ l.length ≤ sizeLine
  | .cell i, v => v = .ref (w.m i) ∧ i < w.st.length
  | .dct0, v => ∃ a, v = .ref a ∧ Fr w a (.dK [])
  | .exc c, v => ∃ a o, v = .ref a ∧ Fr w a o ∧ ExIs w.K c a o
  | .con x, v => v = .ref (He.ga w.K x)
def Reps (w : Wd) : List D → List V → Prop
  | [], vs => vs = []
  | d :: ds, vs => ∃ x xs, vs = x :: xs ∧ Rep w d x ∧ Reps w ds xs
end
def RepK (w : Wd) : List (Key × D) → List (Key × V) → Prop
  | [], vs => vs = []
  | d :: ds, vs => ∃ x xs, vs = x :: xs ∧ x.1 = d.1 ∧ Rep w d.2 x.2 ∧ RepK w ds xs
def RepF (w : Wd) : List (Str × D) → List (Str × V) → Prop
  | [], vs => vs = []
  | d :: ds, vs => ∃ x xs, vs = x :: xs ∧ x.1 = d.1 ∧ Rep w d.2 x.2 ∧ RepF w ds xs
def CellOk (w : Wd) (a : Addr) : Cell → Prop
  | .lst l => ∃ xs, w.H a = some (.lst xs) ∧ Reps w l xs ∧ l.length ≤ sizeLine
  | .ro l => ∃ xs, RoL w.K w.H a xs ∧ Reps w l xs ∧ l.length ≤ sizeLine
  | .dct l => ∃ kvs, w.H a = some (.dK kvs) ∧ RepK w l kvs
  | .ins C fs => ∃ dx gs, w.H a = some (.ins (He.ga w.K C) dx gs) ∧ RepF w fs gs
  | .dead => True
structure RS (w : Wd) : Prop where
  cells : ∀ i c, w.st[i]? = some c → CellOk w (w.m i) c
  inj : ∀ i j c c', w.st[i]? = some c → w.st[j]? = some c' → c.live → c'.live → w.m i = w.m j → i = j
  rvs : ∀ a ∈ w.rv, w.H a ≠ none
  rvo : ∀ a ∈ w.rv, ¬ Own w.m w.st a
structure Aft (w w' : Wd) : Prop where
  k : w'.K = w.K
  rv : w'.rv = w.rv
  rs : RS w'
  ext : ∀ i, i < w.st.length → w'.m i = w.m i
  len : w.st.length ≤ w'.st.length
  tup : ∀ a xs, SqT w.K w.H a xs → SqT w'.K w'.H a xs
  fz : ∀ a o, Fz w a o → Fz w' a o
theorem Aft.refl {w : Wd} (r : RS w) : Aft w w := ⟨rfl, rfl, r, fun _ _ => rfl, Nat.le_refl _, fun _ _ h => h, fun _ _ h => h⟩
theorem Aft.trans {w w1 w2 : Wd} (a : Aft w w1) (b : Aft w1 w2) : Aft w w2 :=
  ⟨b.k.trans a.k, b.rv.trans a.rv, b.rs, fun i h => (b.ext i (Nat.lt_of_lt_of_le h a.len)).trans (a.ext i h), Nat.le_trans a.len b.len, fun x xs h => b.tup x xs (a.tup x xs h), fun x xs h => b.fz x xs (a.fz x xs h)⟩
/-- what values need of the change -/
structure Bears (w w' : Wd) : Prop where
  ext : ∀ i, i < w.st.length → w'.m i = w.m i
  len : w.st.length ≤ w'.st.length
  tup : ∀ a xs, SqT w.K w.H a xs → SqT w'.K w'.H a xs
  fr : ∀ a o, Fr w a o → Fr w' a o
  k : w'.K = w.K := by rfl
theorem Aft.bears {w w' : Wd} (a : Aft w w') : Bears w w' := ⟨a.ext, a.len, a.tup, fun x o h => ⟨a.fz x o h.1, by rw [a.rv]; exact h.2⟩, a.k⟩
theorem Bears.trans {w w1 w2 : Wd} (a : Bears w w1) (b : Bears w1 w2) : Bears w w2 :=
  ⟨fun i h => (b.ext i (Nat.lt_of_lt_of_le h a.len)).trans (a.ext i h), Nat.le_trans a.len b.len, fun x xs h => b.tup x xs (a.tup x xs h), fun x xs h => b.fr x xs (a.fr x xs h), b.k.trans a.k⟩
mutual
theorem Bears.rep {w w' : Wd} (b : Bears w w') : ∀ (d : D) (v : V), Rep w d v → Rep w' d v
  | .non, v, h => by simpa only [Rep] using h
  | .bl _, v, h => by simpa only [Rep] using h
  | .int _, v, h => by simpa only [Rep] using h
  | .str _, v, h => by simpa only [Rep] using h
  | .tup l, v, h => by
    simp only [Rep] at h ⊢
    obtain ⟨a, xs, e, s, r, hl⟩ := h
    exact ⟨a, xs, e, b.tup a xs s, b.reps l xs r, hl⟩
  | .lst l, v, h => by
    simp only [Rep] at h ⊢
    obtain ⟨a, xs, e, s, r, hl⟩ := h
    exact ⟨a, xs, e, b.fr a _ s, b.reps l xs r, hl⟩
  | .cell i, v, h => by
    simp only [Rep] at h ⊢
    exact ⟨h.1.trans (by rw [b.ext i h.2]), Nat.lt_of_lt_of_le h.2 b.len⟩
  | .dct0, v, h => by
    simp only [Rep] at h ⊢
    obtain ⟨a, e, s⟩ := h
    exact ⟨a, e, b.fr a _ s⟩
  | .exc c, v, h => by
    simp only [Rep] at h ⊢
    obtain ⟨a, o, e, s, x⟩ := h
    exact ⟨a, o, e, b.fr a _ s, by rw [b.k]; exact x⟩
  | .con x, v, h => by
    simp only [Rep] at h ⊢
    rw [b.k]; exact h
theorem Bears.reps {w w' : Wd} (b : Bears w w') : ∀ (l : List D) (vs : List V), Reps w l vs → Reps w' l vs
  | [], vs, h => by simpa only [Reps] using h
  | d :: ds, vs, h => by
    simp only [Reps] at h ⊢
    obtain ⟨x, xs, e, r, rs⟩ := h
    exact ⟨x, xs, e, b.rep d x r, b.reps ds xs rs⟩
end
theorem Bears.repK {w w' : Wd} (b : Bears w w') : ∀ (l : List (Key × D)) (vs : List (Key × V)), RepK w l vs → RepK w' l vs
  | [], vs, h => h
  | d :: ds, vs, h => by
    obtain ⟨x, xs, e, k, r, rs⟩ := h
    exact ⟨x, xs, e, k, b.rep _ _ r, b.repK ds xs rs⟩
theorem Bears.repF {w w' : Wd} (b : Bears w w') : ∀ (l : List (Str × D)) (vs : List (Str × V)), RepF w l vs → RepF w' l vs
  | [], vs, h => h
  | d :: ds, vs, h => by
    obtain ⟨x, xs, e, k, r, rs⟩ := h
    exact ⟨x, xs, e, k, b.rep _ _ r, b.repF ds xs rs⟩
theorem Aft.rep {w w' : Wd} (a : Aft w w') {d : D} {v : V} (h : Rep w d v) : Rep w' d v := a.bears.rep d v h
theorem Aft.reps {w w' : Wd} (a : Aft w w') {d : List D} {v : List V} (h : Reps w d v) : Reps w' d v := a.bears.reps d v h
end G
end

section
set_option Elab.async false
set_option linter.all false
set_option autoImplicit false
set_option maxRecDepth 100000
set_option maxHeartbeats 1000000
namespace G
open PySem PySem.Spec PyProof.Rows L2
/-! ## changes of the heap -/
section
variable {K : PySem.W.Frag} {m : Mp} {st : Store} {H H' : Hp} {p : Addr} {o : HO} {rv : List Addr}
theorem sqT_same (e : Same H H') {a : Addr} {xs : List V} (h : SqT K H a xs) : SqT K H' a xs := by
  rcases h with (h | ⟨o, h⟩) | h
  · exact .inl (.inl (e _ _ h))
  · exact .inl (.inr ⟨o, e _ _ h⟩)
  · exact .inr h
theorem roL_same (e : Same H H') {a : Addr} {xs : List V} (h : RoL K H a xs) : RoL K H' a xs := by
  rcases h with ⟨o, h⟩ | h
  · exact .inl ⟨o, e _ _ h⟩
  · exact .inr h
theorem same_upd (h : H p = none) : Same H (upd H p o) := fun b u e => by rw [upd_ne (ne_of_none e h)]; exact e
theorem bears_same (e : Same H H') : Bears ⟨K, m, st, H, rv⟩ ⟨K, m, st, H', rv⟩ := ⟨fun _ _ => rfl, Nat.le_refl _, fun _ _ h => sqT_same e h, fun _ _ h => ⟨⟨e _ _ h.1.1, h.1.2⟩, h.2⟩, rfl⟩
/-- what stands at the address of a cell that may be written -/
def hoLive : HO → Prop
  | .lst _ => True
  | .dK _ => True
  | .ins _ _ _ => True
  | _ => False
/-- a cell's words are borne -/
theorem cell_bears {w w' : Wd} (b : Bears w w') {a : Addr} {c : Cell} (hl : ∀ o, w.H a = some o → hoLive o → w'.H a = some o) (hr : ∀ xs, RoL w.K w.H a xs → RoL w'.K w'.H a xs) (hk : w'.K = w.K) (h : CellOk w a c) : CellOk w' a c := by
  cases c with
  | lst l => obtain ⟨xs, h, r, z⟩ := h; exact ⟨xs, hl _ h trivial, b.reps _ _ r, z⟩
  | ro l => obtain ⟨xs, h, r, z⟩ := h; exact ⟨xs, hr xs h, b.reps _ _ r, z⟩
  | dct l => obtain ⟨xs, h, r⟩ := h; exact ⟨xs, hl _ h trivial, b.repK _ _ r⟩
  | ins C fs => obtain ⟨dx, gs, h, r⟩ := h; exact ⟨dx, gs, by rw [hk]; exact hl _ h trivial, b.repF _ _ r⟩
  | dead => trivial
theorem none_same (e : Same H H') {a : Addr} (n : H a ≠ none) (z : H' a = none) : False := by
  cases q : H a with
  | none => exact n q
  | some o => rw [e _ _ q] at z; cases z
theorem fz_same (e : Same H H') {a : Addr} {o : HO} (h : Fz ⟨K, m, st, H, rv⟩ a o) : Fz ⟨K, m, st, H', rv⟩ a o := ⟨e _ _ h.1, h.2⟩
theorem aft_same (r : RS ⟨K, m, st, H, rv⟩) (e : Same H H') : Aft ⟨K, m, st, H, rv⟩ ⟨K, m, st, H', rv⟩ :=
  ⟨rfl, rfl, ⟨fun i c h => cell_bears (bears_same e) (fun o h _ => e _ _ h) (fun _ h => roL_same e h) rfl (r.cells i c h), r.inj, fun a ha z => none_same e (r.rvs a ha) z, r.rvo⟩, fun _ _ => rfl, Nat.le_refl _, (bears_same e).tup, fun _ _ h => fz_same e h⟩
theorem aft_new (r : RS ⟨K, m, st, H, rv⟩) (h : H p = none) : Aft ⟨K, m, st, H, rv⟩ ⟨K, m, st, upd H p o, rv⟩ := aft_same r (same_upd h)
theorem live_at (r : RS ⟨K, m, st, H, rv⟩) {i : Nat} {c : Cell} (h : st[i]? = some c) (l : c.live) : ∃ o, H (m i) = some o ∧ hoLive o := by
  have q := r.cells i c h
  cases c with
  | lst l => obtain ⟨xs, e, _⟩ := q; exact ⟨_, e, trivial⟩
  | dct l => obtain ⟨xs, e, _⟩ := q; exact ⟨_, e, trivial⟩
  | ins C fs => obtain ⟨dx, gs, e, _⟩ := q; exact ⟨_, e, trivial⟩
  | ro l => exact l.elim
  | dead => exact l.elim
/-- a new cell at a new address -/
def mpNew (m : Mp) (n : Nat) (p : Addr) : Mp := fun i => if i = n then p else m i
theorem mpNew_old {n i : Nat} (h : i < n) : mpNew m n p i = m i := if_neg (by omega)
theorem mpNew_new {n : Nat} : mpNew m n p n = p := if_pos rfl
theorem at_new {c c' : Cell} {i : Nat} (e : (st ++ [c])[i]? = some c') : (i < st.length ∧ st[i]? = some c') ∨ (i = st.length ∧ c' = c) := by
  by_cases hi : i < st.length
  · rw [List.getElem?_append_left hi] at e
    exact .inl ⟨hi, e⟩
  · have hi2 : i < (st ++ [c]).length := (List.getElem?_eq_some_iff.mp e).1
    rw [List.length_append] at hi2
    have e2 : i = st.length := by simp at hi2; omega
    subst e2
    rw [List.getElem?_append_right (Nat.le_refl _)] at e
    simp at e
    exact .inr ⟨rfl, e.symm⟩
theorem own_new {c : Cell} {a : Addr} (h : Own (mpNew m st.length p) (st ++ [c]) a) : Own m st a ∨ a = p := by
  obtain ⟨i, c', e, l, q⟩ := h
  rcases at_new e with ⟨hi, e⟩ | ⟨hi, e⟩
  · rw [mpNew_old hi] at q
    exact .inl ⟨i, c', e, l, q⟩
  · rw [hi, mpNew_new] at q
    exact .inr q.symm
theorem fz_cell {c : Cell} (e : Same H H') (hp : H p = none) (a : Addr) (o : HO) (h : Fz ⟨K, m, st, H, rv⟩ a o) : Fz ⟨K, mpNew m st.length p, st ++ [c], H', rv⟩ a o := ⟨e _ _ h.1, fun z => by
    rcases own_new z with z | z
    · exact h.2 z
    · subst z; exact absurd (h.1.symm.trans hp) (by simp)⟩
theorem bears_cell {c : Cell} (e : Same H H') (hp : H p = none) : Bears ⟨K, m, st, H, rv⟩ ⟨K, mpNew m st.length p, st ++ [c], H', rv⟩ where
  ext := fun i h => mpNew_old h
  len := by simp
  tup := fun _ _ h => sqT_same e h
  fr := fun a o h => ⟨fz_cell e hp a o h.1, h.2⟩
theorem aft_cell {c : Cell} (r : RS ⟨K, m, st, H, rv⟩) (e : Same H H') (hp : H p = none) (ok : CellOk ⟨K, mpNew m st.length p, st ++ [c], H', rv⟩ p c) : Aft ⟨K, m, st, H, rv⟩ ⟨K, mpNew m st.length p, st ++ [c], H', rv⟩ := by
  have b := bears_cell (K := K) (m := m) (st := st) (c := c) (rv := rv) e hp
  refine ⟨rfl, rfl, ⟨fun i c' h => ?_, fun i j c1 c2 h1 h2 l1 l2 q => ?_, fun a ha z => ?_, fun a ha z => ?_⟩, b.ext, b.len, b.tup, fz_cell e hp⟩
  · show CellOk _ (mpNew m st.length p i) c'
    rcases at_new h with ⟨hi, h⟩ | ⟨hi, hc⟩
    · rw [mpNew_old hi]
      exact cell_bears b (fun o h _ => e _ _ h) (fun _ h => roL_same e h) rfl (r.cells i c' h)
    · subst hi hc
      rw [mpNew_new]
      exact ok
  · have q : mpNew m st.length p i = mpNew m st.length p j := q
    have nw : ∀ {i : Nat} {c1 : Cell}, i < st.length → st[i]? = some c1 → c1.live → m i ≠ p := fun {i c1} hi h1 l1 z => by
      obtain ⟨o, ho, _⟩ := live_at r h1 l1
      rw [z, hp] at ho
      cases ho
    rcases at_new h1 with ⟨hi, h1⟩ | ⟨hi, h1⟩
    · rw [mpNew_old hi] at q
      rcases at_new h2 with ⟨hj, h2⟩ | ⟨hj, h2⟩
      · rw [mpNew_old hj] at q
        exact r.inj i j c1 c2 h1 h2 l1 l2 q
      · rw [hj, mpNew_new] at q
        exact absurd q (nw hi h1 l1)
    · rw [hi, mpNew_new] at q
      rcases at_new h2 with ⟨hj, h2⟩ | ⟨hj, h2⟩
      · rw [mpNew_old hj] at q
        exact absurd q.symm (nw hj h2 l2)
      · rw [hi, hj]
  · cases q : H a with
    | none => exact r.rvs a ha q
    | some o => have z : H' a = none := z; rw [e _ _ q] at z; cases z
  · rcases own_new z with z | z
    · exact r.rvo a ha z
    · subst z; exact r.rvs a ha hp
/-- a cell is written -/
theorem at_set {c c' c0 : Cell} {i j : Nat} (h0 : st[i]? = some c0) (e : (st.set i c)[j]? = some c') : (j ≠ i ∧ st[j]? = some c') ∨ (j = i ∧ c' = c) := by
  by_cases hj : j = i
  · subst hj
    have hl : j < st.length := (List.getElem?_eq_some_iff.mp h0).1
    rw [List.getElem?_set_self hl] at e
    exact .inr ⟨rfl, (Option.some.inj e).symm⟩
  · rw [List.getElem?_set_ne (Ne.symm hj)] at e
    exact .inl ⟨hj, e⟩
theorem own_set {c c0 : Cell} {i : Nat} {a : Addr} (h0 : st[i]? = some c0) (l0 : c0.live) (h : Own m (st.set i c) a) : Own m st a := by
  obtain ⟨j, c', e, l, q⟩ := h
  rcases at_set h0 e with ⟨hj, e⟩ | ⟨hj, e⟩
  · exact ⟨j, c', e, l, q⟩
  · exact ⟨i, c0, h0, l0, by rw [← hj]; exact q⟩
theorem fz_set {c c0 : Cell} {i : Nat} (h0 : st[i]? = some c0) (l0 : c0.live) (e : ∀ b u, b ≠ m i → H b = some u → H' b = some u) (a : Addr) (o : HO) (h : Fz ⟨K, m, st, H, rv⟩ a o) : Fz ⟨K, m, st.set i c, H', rv⟩ a o := ⟨e _ _ (fun z => h.2 ⟨i, c0, h0, l0, z.symm⟩) h.1, fun z => h.2 (own_set h0 l0 z)⟩
theorem bears_set {c c0 : Cell} {i : Nat} (r : RS ⟨K, m, st, H, rv⟩) (h0 : st[i]? = some c0) (l0 : c0.live) (e : ∀ b u, b ≠ m i → H b = some u → H' b = some u) : Bears ⟨K, m, st, H, rv⟩ ⟨K, m, st.set i c, H', rv⟩ where
  ext := fun _ _ => rfl
  len := by simp
  tup := fun a xs h => by
    obtain ⟨o, ho, hl⟩ := live_at r h0 l0
    rcases h with (h | ⟨u, h⟩) | h
    · refine .inl (.inl (e _ _ (fun z => ?_) h))
      have h : H a = some _ := h
      rw [z, ho] at h; cases h; exact hl
    · refine .inl (.inr ⟨u, e _ _ (fun z => ?_) h⟩)
      have h : H a = some _ := h
      rw [z, ho] at h; cases h; exact hl
    · exact .inr h
  fr := fun a xs h => ⟨fz_set h0 l0 e a xs h.1, h.2⟩
theorem aft_set {c c0 : Cell} {i : Nat} (r : RS ⟨K, m, st, H, rv⟩) (h0 : st[i]? = some c0) (l0 : c0.live) (e : ∀ b u, b ≠ m i → H b = some u → H' b = some u) (ok : CellOk ⟨K, m, st.set i c, H', rv⟩ (m i) c) : Aft ⟨K, m, st, H, rv⟩ ⟨K, m, st.set i c, H', rv⟩ := by
  have b := bears_set (c := c) r h0 l0 e
  obtain ⟨o, ho, hl⟩ := live_at r h0 l0
  refine ⟨rfl, rfl, ⟨fun j c' h => ?_, fun j k c1 c2 h1 h2 l1 l2 q => ?_, fun a ha z => ?_, fun a ha z => ?_⟩, b.ext, b.len, b.tup, fz_set h0 l0 e⟩
  · rcases at_set h0 h with ⟨hj, h⟩ | ⟨hj, hc⟩
    · by_cases lc : c'.live
      · have hne : m j ≠ m i := fun z => hj (r.inj j i c' c0 h h0 lc l0 z)
        exact cell_bears b (fun o h _ => e _ _ hne h) (fun xs h => by
          rcases h with ⟨u, h⟩ | h
          · exact .inl ⟨u, e _ _ hne h⟩
          · exact .inr h) rfl (r.cells j c' h)
      · have q := r.cells j c' h
        cases c' with
        | ro l =>
          obtain ⟨xs, h1, r1, z1⟩ := q
          refine ⟨xs, ?_, b.reps _ _ r1, z1⟩
          rcases h1 with ⟨u, h1⟩ | h1
          · refine .inl ⟨u, e _ _ (fun z => ?_) h1⟩
            have h2 : H (m j) = some _ := h1
            have z2 : m j = m i := z
            rw [z2, ho] at h2; cases h2; exact hl
          · exact .inr h1
        | dead => trivial
        | _ => exact absurd trivial lc
    · subst hj hc
      exact ok
  · have hx : ∀ {j : Nat} {c1 : Cell}, (st.set i c)[j]? = some c1 → c1.live → ∃ c', st[j]? = some c' ∧ c'.live := fun {j c1} h l => by
      rcases at_set h0 h with ⟨_, h⟩ | ⟨hj, _⟩
      · exact ⟨_, h, l⟩
      · exact ⟨c0, by rw [hj]; exact h0, l0⟩
    obtain ⟨c1', g1, k1⟩ := hx h1 l1
    obtain ⟨c2', g2, k2⟩ := hx h2 l2
    exact r.inj j k c1' c2' g1 g2 k1 k2 q
  · cases q : H a with
    | none => exact r.rvs a ha q
    | some o => have z : H' a = none := z; rw [e _ _ (fun y => r.rvo a ha ⟨i, c0, h0, l0, y.symm⟩) q] at z; cases z
  · exact r.rvo a ha (own_set h0 l0 z)
/-- a list's cell is given up: from then on the list stands still -/
theorem aft_free {i : Nat} {l : List D} (r : RS ⟨K, m, st, H, rv⟩) (h0 : st[i]? = some (.lst l)) : Aft ⟨K, m, st, H, rv⟩ ⟨K, m, st.set i .dead, H, rv⟩ ∧ ∃ v, Rep ⟨K, m, st.set i .dead, H, rv⟩ (.lst l) v ∧ v = .ref (m i) := by
  have a : Aft ⟨K, m, st, H, rv⟩ ⟨K, m, st.set i .dead, H, rv⟩ := aft_set r h0 trivial (fun _ _ _ h => h) trivial
  refine ⟨a, .ref (m i), ?_, rfl⟩
  obtain ⟨xs, h1, r1, z1⟩ := r.cells i _ h0
  simp only [Rep]
  refine ⟨m i, xs, rfl, ⟨⟨h1, fun z => ?_⟩, fun z => r.rvo _ z ⟨i, _, h0, trivial, rfl⟩⟩, a.reps r1, z1⟩
  obtain ⟨j, c', e, lv, q⟩ := z
  rcases at_set h0 e with ⟨hj, e⟩ | ⟨hj, e⟩
  · exact hj (r.inj j i c' _ e h0 lv trivial q)
  · subst e; exact lv
end
end G
end

section
set_option Elab.async false
set_option linter.all false
set_option autoImplicit false
set_option maxRecDepth 100000
set_option maxHeartbeats 1000000
namespace G
open PySem PySem.Spec PyProof.Rows L2
/-! ## what is wanted of a result -/
def Wp {α : Type} (w : Wd) (r : Res α) (P : α → Wd → Prop) (W : Str → Wd → Prop) : Prop := match r with
  | .ok a st' => ∀ w', Aft w w' → w'.st = st' → P a w'
  | .err c st' => ∀ w', Aft w w' → w'.st = st' → W c w'
  | .bad => False
section
variable {α β : Type} {w w1 : Wd} {r : Res α} {P P' : α → Wd → Prop} {W W' : Str → Wd → Prop}
theorem Wp.after (h : Wp w r P W) (a : Aft w w1) : Wp w1 r P W := by
  cases r with
  | ok x st' => exact fun w' b e => h w' (a.trans b) e
  | err c st' => exact fun w' b e => h w' (a.trans b) e
  | bad => exact h
theorem Wp.mono (h : Wp w r P W) (hp : ∀ a w', Aft w w' → P a w' → P' a w') (hw : ∀ c w', Aft w w' → W c w' → W' c w') : Wp w r P' W' := by
  cases r with
  | ok x st' => exact fun w' b e => hp _ _ b (h w' b e)
  | err c st' => exact fun w' b e => hw _ _ b (h w' b e)
  | bad => exact h
theorem Wp.imp (h : Wp w r P W) (hp : ∀ a w', Aft w w' → P a w' → P' a w') : Wp w r P' W := h.mono hp fun _ _ _ x => x
theorem Wp.bind {x : M α} {f : α → M β} {P : β → Wd → Prop} (h : Wp w ((x >>= f) w.st) P W) : Wp w (x w.st) (fun a w1 => Wp w1 (f a w1.st) P W) W := by
  have h : Wp w (M.andThen x f w.st) P W := h
  unfold M.andThen at h
  cases e : x w.st with
  | ok a st' =>
    rw [e] at h
    have h : Wp w (f a st') P W := h
    intro w' b q
    rw [q]
    exact h.after b
  | err c st' =>
    rw [e] at h
    exact h
  | bad =>
    rw [e] at h
    exact h
theorem Wp.ok_ {a : α} (rs : RS w) (h : Wp w (.ok a w.st) P W) : P a w := h w (.refl rs) rfl
end
/-! ## names -/
abbrev Ev := List (Option D)
structure REnv (w : Wd) (env : Ev) (σ : L2.St) : Prop where
  len : env.length = σ.length
  at_ : ∀ (i : Nat) (d : D), env[i]? = some (some d) → ∃ v, σ[i]? = some (some v) ∧ Rep w d v
theorem REnv.after {w w1 : Wd} {env : Ev} {σ : L2.St} (h : REnv w env σ) (a : Aft w w1) : REnv w1 env σ := ⟨h.len, fun i d e => let ⟨v, e1, r⟩ := h.at_ i d e; ⟨v, e1, a.rep r⟩⟩
theorem REnv.set {w : Wd} {env : Ev} {σ : L2.St} {d : D} {v : V} (h : REnv w env σ) (i : Nat) (r : Rep w d v) : REnv w (env.set i (some d)) (σ.set i (some v)) := by
  refine ⟨by rw [List.length_set, List.length_set]; exact h.len, fun j d' e => ?_⟩
  by_cases hj : i = j
  · subst hj
    by_cases hl : i < env.length
    · rw [List.getElem?_set_self hl] at e
      rw [List.getElem?_set_self (by rw [← h.len]; exact hl)]
      cases e
      exact ⟨v, rfl, r⟩
    · rw [List.getElem?_eq_none (by rw [List.length_set]; omega)] at e
      cases e
  · rw [List.getElem?_set_ne hj] at e
    rw [List.getElem?_set_ne hj]
    exact h.at_ j d' e
theorem REnv.forget {w : Wd} {env : Ev} {σ : L2.St} (h : REnv w env σ) (i : Nat) : REnv w (env.set i none) (σ.set i none) := by
  refine ⟨by rw [List.length_set, List.length_set]; exact h.len, fun j d' e => ?_⟩
  by_cases hj : i = j
  · subst hj
    by_cases hl : i < env.length
    · rw [List.getElem?_set_self hl] at e; cases e
    · rw [List.getElem?_eq_none (by rw [List.length_set]; omega)] at e; cases e
  · rw [List.getElem?_set_ne hj] at e
    rw [List.getElem?_set_ne hj]
    exact h.at_ j d' e
/-! ## the readings of computations, the judgements -/
abbrev XW := Str → L2.St → Hp → Prop
def rdE (K : PySem.W.Frag) (W : XW) (f : Ev → M D) : TE := fun σ H Q => ∃ (w : Wd) (env : Ev), w.K = K ∧ w.H = H ∧ RS w ∧ REnv w env σ ∧ Wp w (f env w.st) (fun d w' => ∀ v, Rep w' d v → Q v w'.H) (fun c w' => W c σ w'.H)
def rdT (K : PySem.W.Frag) (W : XW) (f : Ev → M Bool) : TT := fun σ H Q => ∃ (w : Wd) (env : Ev), w.K = K ∧ w.H = H ∧ RS w ∧ REnv w env σ ∧ Wp w (f env w.st) (fun b w' => Q b w'.H) (fun c w' => W c σ w'.H)
def rdA (K : PySem.W.Frag) (W : XW) (f : Ev → M (List D)) : TA := fun σ H Q => ∃ (w : Wd) (env : Ev), w.K = K ∧ w.H = H ∧ RS w ∧ REnv w env σ ∧ Wp w (f env w.st) (fun ds w' => ∀ vs, Reps w' ds vs → Q vs w'.H) (fun c w' => W c σ w'.H)
def DE (X : Cx) (W : XW) (e : Expr) (f : Ev → M D) : Prop := PE X e (rdE X.K W f)
def DT (X : Cx) (W : XW) (e : Expr) (f : Ev → M Bool) : Prop := PT X e (rdT X.K W f)
def DWt (X : Cx) (W : XW) (e : Expr) (f : Ev → M Bool) : Prop := PW X e (rdT X.K W f)
def aSeq : List (Ev → M D) → Ev → M (List D)
  | [], _ => pure []
  | f :: fs, env => do
    let d ← f env
    let ds ← aSeq fs env
    pure (d :: ds)
def DA (X : Cx) (W : XW) (es : List Expr) (fs : List (Ev → M D)) : Prop := PA X es (rdA X.K W (aSeq fs))
section
variable {X : Cx} {W : XW} {e a b c : Expr} {pos : Pos} {fa fb fc : Ev → M D}
theorem PE.imp' {t t' : TE} (h : PE X e t) (k : ∀ σ H Q, t' σ H Q → t σ H Q) : PE X e t' := ⟨fun pins s σ H Q I z => h.run pins s σ H Q I (k σ H Q z)⟩
theorem PT.imp' {t t' : TT} (h : PT X e t) (k : ∀ σ H Q, t' σ H Q → t σ H Q) : PT X e t' := ⟨fun pins s σ H Q I z => h.run pins s σ H Q I (k σ H Q z)⟩
theorem PW.imp' {t t' : TT} (h : PW X e t) (k : ∀ σ H Q, t' σ H Q → t σ H Q) : PW X e t' := ⟨fun wh pins s σ H Q I z => h.run wh pins s σ H Q I (k σ H Q z)⟩
theorem PA.imp' {es : List Expr} {t t' : TA} (h : PA X es t) (k : ∀ σ H Q, t' σ H Q → t σ H Q) : PA X es t' := ⟨fun pos pins s σ H Q I z => h.run pos pins s σ H Q I (k σ H Q z)⟩
/-! ### names and constants -/
def eVar (i : Nat) : Ev → M D := fun env st => match env[i]? with
  | some (some d) => .ok d st
  | _ => .bad
theorem de_var (i : Nat) {x : Str} (hN : X.N[i]? = some x) (hv : Vis X.env.scope x) (hd : (x == ("__debug__" : Str)) = false := by decide) (hcd : (x == ("__classdict__" : Str)) = false := by decide) : DE X W (.Name x pos) (eVar i) := by
  refine PE.imp' (pe_var hN hv hd hcd) ?_
  rintro σ H Q ⟨w, env, hk, rfl, r, n, h⟩
  unfold eVar at h
  split at h
  · rename_i d e
    obtain ⟨v, e1, rv⟩ := n.at_ i d e
    exact ⟨v, e1, h.ok_ r v rv⟩
  · exact h.elim
def eC (d : D) : Ev → M D := fun _ => pure d
theorem de_int {i j} : DE X W (.Constant (.int i) j pos) (eC (.int i)) := PE.imp' pe_int (by
  rintro σ H Q ⟨w, env, hk, rfl, r, n, h⟩
  exact Wp.ok_ r h _ (by simp [Rep]))
theorem de_bl {b : Bool} {j} : DE X W (.Constant (.bool b) j pos) (eC (.bl b)) := PE.imp' pe_bl (by
  rintro σ H Q ⟨w, env, hk, rfl, r, n, h⟩
  exact Wp.ok_ r h _ (by simp [Rep]))
theorem de_non {j} : DE X W (.Constant .none j pos) (eC .non) := PE.imp' pe_non (by
  rintro σ H Q ⟨w, env, hk, rfl, r, n, h⟩
  exact Wp.ok_ r h _ (by simp [Rep]))
theorem de_str {x : Str} {j} : DE X W (.Constant (.str x) j pos) (eC (.str x)) := PE.imp' pe_str (by
  rintro σ H Q ⟨w, env, hk, rfl, r, n, h⟩
  exact Wp.ok_ r h _ (by simp [Rep]))
/-- a module's constant -/
theorem de_glob {x : Str} {v : V} {u : Value} {d : D} (hg : Gl X x) (hm : X.mg x = some u) (r : RelV v u) (hr : ∀ w : Wd, w.K = X.K → Rep w d v) (hd : (x == ("__debug__" : Str)) = false := by decide) : DE X W (.Name x pos) (eC d) := PE.imp' (pe_glob hg hm r hd) (by
  rintro σ H Q ⟨w, env, hk, rfl, rs, n, h⟩
  exact Wp.ok_ rs h _ (hr w hk))
/-! ### operators -/
def lift (o : Store → Option D) : M D := fun st => match o st with
  | some d => .ok d st
  | none => .bad
/-- what is wanted of an operator's answer -/
def Wq (w : Wd) (o : Option D) (Q : VK) : Prop := ∃ d, o = some d ∧ ∀ w', Aft w w' → w'.st = w.st → ∀ v, Rep w' d v → Q v w'.H
theorem Wq.of {w : Wd} {o : Store → Option D} {Q : VK} {W : Str → Wd → Prop} (h : Wp w (lift o w.st) (fun d w' => ∀ v, Rep w' d v → Q v w'.H) W) : Wq w (o w.st) Q := by
  unfold lift at h
  cases e : o w.st with
  | none => rw [e] at h; exact h.elim
  | some d => rw [e] at h; exact ⟨d, rfl, h⟩
def rdO (K : PySem.W.Frag) (g : D → D → Store → Option D) : R2 := fun x y H Q => ∃ (w : Wd) (a b : D), w.K = K ∧ w.H = H ∧ RS w ∧ Rep w a x ∧ Rep w b y ∧ Wq w (g a b w.st) Q
def rdU (K : PySem.W.Frag) (g : D → Store → Option D) : V → Hp → VK → Prop := fun x H Q => ∃ (w : Wd) (a : D), w.K = K ∧ w.H = H ∧ RS w ∧ Rep w a x ∧ Wq w (g a w.st) Q
def rdC (K : PySem.W.Frag) (g : List D → Store → Option D) : List V → Hp → VK → Prop := fun xs H Q => ∃ (w : Wd) (ds : List D), w.K = K ∧ w.H = H ∧ RS w ∧ Reps w ds xs ∧ Wq w (g ds w.st) Q
def OpD (X : Cx) (f : Value → Value → Sem Value) (g : D → D → Store → Option D) : Prop := OpR X f (rdO X.K g)
def CallD (X : Cx) (f : Value) (g : List D → Store → Option D) : Prop := CallR X f (rdC X.K g)
theorem OpR.imp' {f : Value → Value → Sem Value} {r r' : R2} (h : OpR X f r) (k : ∀ x y H Q, r' x y H Q → r x y H Q) : OpR X f r' := fun pins s σ H x y v u Q I rx ry z => h pins s σ H x y v u Q I rx ry (k _ _ _ _ z)
theorem CallR.imp' {f : Value} {r r' : List V → Hp → VK → Prop} (h : CallR X f r) (k : ∀ x H Q, r' x H Q → r x H Q) : CallR X f r' := fun pins s σ H x u Q I rx z => h pins s σ H x u Q I rx (k _ _ _ z)
theorem UnR.imp' {f : Value → Sem Value} {r r' : V → Hp → VK → Prop} (h : UnR X f r) (k : ∀ x H Q, r' x H Q → r x H Q) : UnR X f r' := fun pins s σ H x u Q I rx z => h pins s σ H x u Q I rx (k _ _ _ z)
def eOp (g : D → D → Store → Option D) (fa fb : Ev → M D) : Ev → M D := fun env => do
  let a ← fa env
  let b ← fb env
  lift (g a b)
/-- two readings, one behind the other -/
theorem two {g : D → D → Store → Option D} {σ : L2.St} {H : Hp} {Q : VK} (h : rdE X.K W (eOp g fa fb) σ H Q) : tOp (rdO X.K g) (rdE X.K W fa) (rdE X.K W fb) σ H Q := by
  obtain ⟨w, env, hk, rfl, r, n, h⟩ := h
  refine ⟨w, env, hk, rfl, r, n, (Wp.bind h).imp fun x w1 a1 h1 v rv => ?_⟩
  refine ⟨w1, env, a1.k.trans hk, rfl, a1.rs, n.after a1, (Wp.bind h1).imp fun y w2 a2 h2 u ru => ?_⟩
  exact ⟨w2, x, y, a2.k.trans (a1.k.trans hk), rfl, a2.rs, a2.rep rv, ru, Wq.of h2⟩
theorem de_op {op : Operator} {g : D → D → Store → Option D} (ho : OpD X (binaryOp op) g) (ha : DE X W a fa) (hb : DE X W b fb) : DE X W (.BinOp a op b pos) (eOp g fa fb) := PE.imp' (pe_op ho ha hb) fun _ _ _ h => two h
theorem de_cmp {op : CmpOp} {g : D → D → Store → Option D} (ho : OpD X (compareOp op) g) (ha : DE X W a fa) (hb : DE X W b fb) (hm : behindInMarks op b = false := by rfl) : DE X W (.Compare a [op] [b] pos) (eOp g fa fb) := PE.imp' (pe_cmpR ho ha hb hm) fun _ _ _ h => two h
def eUn (g : D → Store → Option D) (fa : Ev → M D) : Ev → M D := fun env => do
  let a ← fa env
  lift (g a)
theorem de_un {op : UnaryOp} {g : D → Store → Option D} (ho : UnR X (unaryOp op) (rdU X.K g)) (ha : DE X W a fa) : DE X W (.UnaryOp op a pos) (eUn g fa) := PE.imp' (pe_un ho ha) fun σ H Q h => by
  obtain ⟨w, env, hk, rfl, r, n, h⟩ := h
  refine ⟨w, env, hk, rfl, r, n, (Wp.bind h).imp fun x w1 a1 h1 v rv => ?_⟩
  exact ⟨w1, x, a1.k.trans hk, rfl, a1.rs, rv, Wq.of h1⟩
/-! ### tests -/
def asB : D → M Bool
  | .bl b => pure b
  | _ => M.stuck
def tVal (f : Ev → M D) : Ev → M Bool := fun env => do
  let d ← f env
  asB d
theorem asB_wp {w : Wd} {d : D} {P : Bool → Wd → Prop} {V' : Str → Wd → Prop} (rs : RS w) (h : Wp w (asB d w.st) P V') : ∃ b, d = .bl b ∧ P b w := by
  cases d with
  | bl b => exact ⟨b, rfl, Wp.ok_ rs h⟩
  | _ => exact h.elim
theorem tval {σ : L2.St} {H : Hp} {Q : Bool → Hp → Prop} (h : rdT X.K W (tVal fa) σ H Q) : rdE X.K W fa σ H fun x H1 => ∃ c, x = .bl c ∧ Q c H1 := by
  obtain ⟨w, env, hk, rfl, r, n, h⟩ := h
  refine ⟨w, env, hk, rfl, r, n, (Wp.bind h).imp fun x w1 a1 h1 v rv => ?_⟩
  obtain ⟨b, rfl, q⟩ := asB_wp a1.rs h1
  simp only [Rep] at rv
  exact ⟨b, rv, q⟩
theorem dt_val (h : DE X W e fa) (he : ∀ whole, isTrue e X.env whole = (do let v ← whole; standAt e.pos; holding [v] (truthy v)) := by intro _; rfl) : DT X W e (tVal fa) := PT.imp' (pt_val h he) fun _ _ _ h => tval h
theorem dt_cmp {op : CmpOp} {g : D → D → Store → Option D} (ho : OpD X (compareOp op) g) (ha : DE X W a fa) (hb : DE X W b fb) (hm : behindInMarks op b = false := by rfl) : DT X W (.Compare a [op] [b] pos) (tVal (eOp g fa fb)) := PT.imp' (pt_cmpR ho ha hb hm) fun σ H Q h => by
  obtain ⟨w, env, hk, hH, r, n, h⟩ := tval h
  exact two ⟨w, env, hk, hH, r, n, h⟩
def tNot' (t : Ev → M Bool) : Ev → M Bool := fun env => do
  let b ← t env
  pure (!b)
theorem dt_not {t : Ev → M Bool} (h : DT X W e t) : DT X W (.UnaryOp .Not e pos) (tNot' t) := PT.imp' (pt_not h) fun σ H Q h => by
  obtain ⟨w, env, hk, rfl, r, n, h⟩ := h
  refine ⟨w, env, hk, rfl, r, n, (Wp.bind h).imp fun x w1 a1 h1 => Wp.ok_ a1.rs h1⟩
def tAnd' (t u : Ev → M Bool) : Ev → M Bool := fun env => do
  let b ← t env
  if b = true then u env else pure false
def tOr' (t u : Ev → M Bool) : Ev → M Bool := fun env => do
  let b ← t env
  if b = true then pure true else u env
theorem dw_and {rest : List Expr} {t u : Ev → M Bool} (h : DT X W a t) (k : DWt X W (.BoolOp .And (b :: rest) pos) u) : DWt X W (.BoolOp .And (a :: b :: rest) pos) (tAnd' t u) := PW.imp' (pw_and h k) fun σ H Q h => by
  obtain ⟨w, env, hk, rfl, r, n, h⟩ := h
  refine ⟨w, env, hk, rfl, r, n, (Wp.bind h).imp fun x w1 a1 h1 => ?_⟩
  cases x with
  | true => exact iteT ⟨w1, env, a1.k.trans hk, rfl, a1.rs, n.after a1, h1⟩
  | false => exact iteF (Wp.ok_ (a := false) a1.rs h1)
theorem dw_or {rest : List Expr} {t u : Ev → M Bool} (h : DT X W a t) (k : DWt X W (.BoolOp .Or (b :: rest) pos) u) : DWt X W (.BoolOp .Or (a :: b :: rest) pos) (tOr' t u) := PW.imp' (pw_or h k) fun σ H Q h => by
  obtain ⟨w, env, hk, rfl, r, n, h⟩ := h
  refine ⟨w, env, hk, rfl, r, n, (Wp.bind h).imp fun x w1 a1 h1 => ?_⟩
  cases x with
  | true => exact iteT (Wp.ok_ (a := true) a1.rs h1)
  | false => exact iteF ⟨w1, env, a1.k.trans hk, rfl, a1.rs, n.after a1, h1⟩
theorem dw_and1 {t : Ev → M Bool} (h : DT X W a t) : DWt X W (.BoolOp .And [a] pos) t := pw_and1 h
theorem dw_or1 {t : Ev → M Bool} (h : DT X W a t) : DWt X W (.BoolOp .Or [a] pos) t := pw_or1 h
theorem dt_w {t : Ev → M Bool} (h : DWt X W e t) : DT X W e t := PW.pt h
/-! ### and, or, not as values; conditional expressions -/
def eAnd (fa fb : Ev → M D) : Ev → M D := fun env => do
  let d ← fa env
  let b ← asB d
  if b = true then fb env else pure (.bl false)
def eOr (fa fb : Ev → M D) : Ev → M D := fun env => do
  let d ← fa env
  let b ← asB d
  if b = true then pure (.bl true) else fb env
theorem de_and {rest : List Expr} (ha : DE X W a fa) (hb : DE X W (.BoolOp .And (b :: rest) pos) fb) : DE X W (.BoolOp .And (a :: b :: rest) pos) (eAnd fa fb) := PE.imp' (pe_and ha hb) fun σ H Q h => by
  obtain ⟨w, env, hk, rfl, r, n, h⟩ := h
  refine ⟨w, env, hk, rfl, r, n, (Wp.bind h).imp fun x w1 a1 h1 v rv => ?_⟩
  obtain ⟨c, rfl, h2⟩ := asB_wp a1.rs (Wp.bind h1)
  simp only [Rep] at rv
  refine ⟨c, rv, ?_⟩
  cases c with
  | true => exact iteT ⟨w1, env, a1.k.trans hk, rfl, a1.rs, n.after a1, h2⟩
  | false => exact iteF (Wp.ok_ (a := D.bl false) a1.rs h2 _ (by simp [Rep]))
theorem de_or {rest : List Expr} (ha : DE X W a fa) (hb : DE X W (.BoolOp .Or (b :: rest) pos) fb) : DE X W (.BoolOp .Or (a :: b :: rest) pos) (eOr fa fb) := PE.imp' (pe_or ha hb) fun σ H Q h => by
  obtain ⟨w, env, hk, rfl, r, n, h⟩ := h
  refine ⟨w, env, hk, rfl, r, n, (Wp.bind h).imp fun x w1 a1 h1 v rv => ?_⟩
  obtain ⟨c, rfl, h2⟩ := asB_wp a1.rs (Wp.bind h1)
  simp only [Rep] at rv
  refine ⟨c, rv, ?_⟩
  cases c with
  | true => exact iteT (Wp.ok_ (a := D.bl true) a1.rs h2 _ (by simp [Rep]))
  | false => exact iteF ⟨w1, env, a1.k.trans hk, rfl, a1.rs, n.after a1, h2⟩
theorem de_one {op : BoolOp} (ha : DE X W a fa) : DE X W (.BoolOp op [a] pos) fa := pe_one ha
def eNot (fa : Ev → M D) : Ev → M D := fun env => do
  let d ← fa env
  let b ← asB d
  pure (.bl (!b))
theorem de_not (ha : DE X W a fa) : DE X W (.UnaryOp .Not a pos) (eNot fa) := PE.imp' (pe_not ha) fun σ H Q h => by
  obtain ⟨w, env, hk, rfl, r, n, h⟩ := h
  refine ⟨w, env, hk, rfl, r, n, (Wp.bind h).imp fun x w1 a1 h1 v rv => ?_⟩
  obtain ⟨c, rfl, h2⟩ := asB_wp a1.rs (Wp.bind h1)
  simp only [Rep] at rv
  exact ⟨c, rv, Wp.ok_ (a := D.bl (!c)) a1.rs h2 _ (by simp [Rep])⟩
def eIf (t : Ev → M Bool) (fa fb : Ev → M D) : Ev → M D := fun env => do
  let b ← t env
  if b = true then fa env else fb env
theorem de_if {t : Ev → M Bool} (ht : DT X W c t) (ha : DE X W a fa) (hb : DE X W b fb) : DE X W (.IfExp c a b pos) (eIf t fa fb) := PE.imp' (pe_ifExp ht ha hb) fun σ H Q h => by
  obtain ⟨w, env, hk, rfl, r, n, h⟩ := h
  refine ⟨w, env, hk, rfl, r, n, (Wp.bind h).imp fun x w1 a1 h1 => ?_⟩
  cases x with
  | true => exact iteT ⟨w1, env, a1.k.trans hk, rfl, a1.rs, n.after a1, h1⟩
  | false => exact iteF ⟨w1, env, a1.k.trans hk, rfl, a1.rs, n.after a1, h1⟩
/-! ### arguments, displays -/
theorem da_nil : DA X W [] [] := PA.imp' pa_nil fun σ H Q h => by
  obtain ⟨w, env, hk, rfl, r, n, h⟩ := h
  exact Wp.ok_ (a := ([] : List D)) r h [] rfl
theorem da_cons {es : List Expr} {fs : List (Ev → M D)} (ha : DE X W e fa) (hr : DA X W es fs) (hs : starEach (e :: es) X.env = (false, eval e X.env) :: starEach es X.env := by rfl) : DA X W (e :: es) (fa :: fs) := PA.imp' (pa_cons ha hr hs) fun σ H Q h => by
  obtain ⟨w, env, hk, rfl, r, n, h⟩ := h
  refine ⟨w, env, hk, rfl, r, n, (Wp.bind h).imp fun x w1 a1 h1 v rv => ?_⟩
  refine ⟨w1, env, a1.k.trans hk, rfl, a1.rs, n.after a1, (Wp.bind h1).imp fun ys w2 a2 h2 vs rvs => ?_⟩
  exact Wp.ok_ (a := x :: ys) a2.rs h2 _ ⟨v, vs, rfl, a2.rep rv, rvs⟩
theorem aSeq_len : ∀ {fs : List (Ev → M D)} {env : Ev} {st st' : Store} {ds : List D}, aSeq fs env st = .ok ds st' → ds.length = fs.length
  | [], env, st, st', ds, h => by
    have h : (Res.ok [] st : Res (List D)) = .ok ds st' := h
    cases h; rfl
  | f :: fs, env, st, st', ds, h => by
    have h : M.andThen (f env) (fun d => M.andThen (aSeq fs env) fun ds => M.ret (d :: ds)) st = .ok ds st' := h
    unfold M.andThen at h
    cases e1 : f env st with
    | ok d s1 =>
      rw [e1] at h
      simp only at h
      cases e2 : aSeq fs env s1 with
      | ok es s2 =>
        rw [e2] at h
        have h : (Res.ok (d :: es) s2 : Res (List D)) = .ok ds st' := h
        cases h
        rw [List.length_cons, List.length_cons, aSeq_len e2]
      | err c s2 => rw [e2] at h; cases h
      | bad => rw [e2] at h; cases h
    | err c s1 => rw [e1] at h; cases h
    | bad => rw [e1] at h; cases h
theorem reps_len {w : Wd} : ∀ {ds : List D} {vs : List V}, Reps w ds vs → vs.length = ds.length
  | [], vs, h => by simp only [Reps] at h; rw [h]; rfl
  | d :: ds, vs, h => by
    simp only [Reps] at h
    obtain ⟨x, xs, rfl, _, r⟩ := h
    rw [List.length_cons, List.length_cons, reps_len r]
/-- the arguments' list has as many -/
theorem wp_seq {w : Wd} {fs : List (Ev → M D)} {env : Ev} {P : List D → Wd → Prop} {V' : Str → Wd → Prop} (h : Wp w (aSeq fs env w.st) P V') : Wp w (aSeq fs env w.st) (fun ds w' => ds.length = fs.length ∧ P ds w') V' := by
  cases e : aSeq fs env w.st with
  | ok ds st' =>
    rw [e] at h
    exact fun w' a q => ⟨aSeq_len e, h w' a q⟩
  | err c st' => rw [e] at h; exact h
  | bad => rw [e] at h; exact h
def eTup (fs : List (Ev → M D)) : Ev → M D := fun env => do
  let ds ← aSeq fs env
  pure (.tup ds)
theorem de_tup {es : List Expr} {fs : List (Ev → M D)} {x1} (h : DA X W es fs) (hl : fs.length ≤ sizeLine := by exact Nat.le_of_ble_eq_true rfl) : DE X W (.Tuple es x1 pos) (eTup fs) := PE.imp' (pe_tup h) fun σ H Q h => by
  obtain ⟨w, env, hk, rfl, r, n, h⟩ := h
  refine ⟨w, env, hk, rfl, r, n, (wp_seq (Wp.bind h)).imp fun ds w1 a1 h1 vs rv => ⟨by rw [reps_len rv, h1.1]; exact hl, fun p hp => ?_⟩⟩
  have a2 : Aft w1 ⟨w1.K, w1.m, w1.st, upd w1.H p (.tup vs), w1.rv⟩ := aft_new a1.rs hp
  refine h1.2 _ a2 rfl (.ref p) ?_
  simp only [Rep]
  exact ⟨p, vs, rfl, SqT.of upd_same, a2.reps rv, by rw [h1.1]; exact hl⟩
/-- a new list at a free address: not owned -/
theorem fz_new {w : Wd} (r : RS w) {p : Addr} {o : HO} (hp : w.H p = none) : Fz ⟨w.K, w.m, w.st, upd w.H p o, w.rv⟩ p o := ⟨upd_same, fun ⟨i, c, e, l, q⟩ => by
  obtain ⟨u, hu, _⟩ := live_at (rv := w.rv) r e l
  rw [q, hp] at hu
  cases hu⟩
theorem fr_new {w : Wd} (r : RS w) {p : Addr} {o : HO} (hp : w.H p = none) : Fr ⟨w.K, w.m, w.st, upd w.H p o, w.rv⟩ p o := ⟨fz_new r hp, fun z => r.rvs p z hp⟩
theorem rep_new {w : Wd} (r : RS w) {p : Addr} {ds : List D} {vs : List V} (hp : w.H p = none) (h : Reps w ds vs) (hl : ds.length ≤ sizeLine) : Rep ⟨w.K, w.m, w.st, upd w.H p (.lst vs), w.rv⟩ (.lst ds) (.ref p) := by
  simp only [Rep]
  exact ⟨p, vs, rfl, fr_new r hp, (aft_new r hp).reps h, hl⟩
theorem rep_newT {w : Wd} (r : RS w) {p : Addr} {ds : List D} {vs : List V} (hp : w.H p = none) (h : Reps w ds vs) (hl : ds.length ≤ sizeLine) : Rep ⟨w.K, w.m, w.st, upd w.H p (.tup vs), w.rv⟩ (.tup ds) (.ref p) := by
  simp only [Rep]
  exact ⟨p, vs, rfl, SqT.of upd_same, (aft_new r hp).reps h, hl⟩
def eLst (fs : List (Ev → M D)) : Ev → M D := fun env => do
  let ds ← aSeq fs env
  pure (.lst ds)
theorem de_lst {es : List Expr} {fs : List (Ev → M D)} (h : DA X W es fs) (hl : fs.length ≤ sizeLine := by exact Nat.le_of_ble_eq_true rfl) : DE X W (.List es pos) (eLst fs) := PE.imp' (pe_lst h) fun σ H Q h => by
  obtain ⟨w, env, hk, rfl, r, n, h⟩ := h
  refine ⟨w, env, hk, rfl, r, n, (wp_seq (Wp.bind h)).imp fun ds w1 a1 h1 vs rv => ⟨by rw [reps_len rv, h1.1]; exact hl, fun p hp => ?_⟩⟩
  exact h1.2 _ (aft_new a1.rs hp) rfl (.ref p) (rep_new a1.rs hp rv (by rw [h1.1]; exact hl))
def newCell (c : Cell) : M D := fun st => .ok (.cell st.length) (st ++ [c])
def eNewL (fs : List (Ev → M D)) : Ev → M D := fun env => do
  let ds ← aSeq fs env
  newCell (.lst ds)
/-- .. that will be changed -/
theorem de_newL {es : List Expr} {fs : List (Ev → M D)} (h : DA X W es fs) (hl : fs.length ≤ sizeLine := by exact Nat.le_of_ble_eq_true rfl) : DE X W (.List es pos) (eNewL fs) := PE.imp' (pe_lst h) fun σ H Q h => by
  obtain ⟨w, env, hk, rfl, r, n, h⟩ := h
  refine ⟨w, env, hk, rfl, r, n, (wp_seq (Wp.bind h)).imp fun ds w1 a1 h1 vs rv => ⟨by rw [reps_len rv, h1.1]; exact hl, fun p hp => ?_⟩⟩
  have b := bears_cell (K := w1.K) (m := w1.m) (st := w1.st) (rv := w1.rv) (c := .lst ds) (same_upd (H := w1.H) (p := p) (o := .lst vs) hp) hp
  have a2 : Aft w1 ⟨w1.K, mpNew w1.m w1.st.length p, w1.st ++ [.lst ds], upd w1.H p (.lst vs), w1.rv⟩ := aft_cell a1.rs (same_upd hp) hp ⟨vs, upd_same, b.reps _ _ rv, by rw [h1.1]; exact hl⟩
  refine h1.2 _ a2 rfl (.ref p) ?_
  simp only [Rep]
  exact ⟨by rw [mpNew_new], by simp⟩
/-! ### calls of built-in functions and types -/
def eB (g : List D → Store → Option D) (fs : List (Ev → M D)) : Ev → M D := fun env => do
  let ds ← aSeq fs env
  lift (g ds)
theorem callB {es : List Expr} {fs : List (Ev → M D)} {g : List D → Store → Option D} {σ : L2.St} {H : Hp} {Q : VK} (h : rdE X.K W (eB g fs) σ H Q) : tCB (rdC X.K g) (rdA X.K W (aSeq fs)) σ H Q := by
  obtain ⟨w, env, hk, rfl, r, n, h⟩ := h
  refine ⟨w, env, hk, rfl, r, n, (Wp.bind h).imp fun ds w1 a1 h1 vs rv => ?_⟩
  exact ⟨w1, ds, a1.k.trans hk, rfl, a1.rs, rv, Wq.of h1⟩
theorem de_callB {es : List Expr} {fs : List (Ev → M D)} {g : List D → Store → Option D} {x : Str} {p : Pos} {id : String} (hc : CallD X (.builtin id) g) (hg : Gl X x) (hm : X.mg x = none) (hv : bootBuiltins x = some (.builtin id)) (ha : DA X W (e :: es) fs)
    (hn : x ≠ "__name__" := by decide) (hdb : (x == ("__debug__" : Str)) = false := by decide) (he : starEach (e :: es) X.env = (false, eval e X.env) :: starEach es X.env := by rfl) (hpl : (backTo pos (starEach es X.env)).any (·.1) = false := by rfl) :
    DE X W (.Call (.Name x p) (e :: es) [] pos) (eB g fs) := PE.imp' (pe_callB hc hg hm hv ha hn hdb he hpl) fun _ _ _ h => callB (es := es) h
theorem de_callTy {es : List Expr} {fs : List (Ev → M D)} {g : List D → Store → Option D} {x : Str} {p : Pos} {T : String} (hc : CallD X (.type T) g) (hg : Gl X x) (hm : X.mg x = none) (hv : bootBuiltins x = some (.type T)) (ha : DA X W (e :: es) fs)
    (hn : x ≠ "__name__" := by decide) (hdb : (x == ("__debug__" : Str)) = false := by decide) (he : starEach (e :: es) X.env = (false, eval e X.env) :: starEach es X.env := by rfl) (hpl : (backTo pos (starEach es X.env)).any (·.1) = false := by rfl) :
    DE X W (.Call (.Name x p) (e :: es) [] pos) (eB g fs) := PE.imp' (pe_callTy hc hg hm hv ha hn hdb he hpl) fun _ _ _ h => callB (es := es) h
end
end G
end

section
set_option Elab.async false
set_option linter.all false
set_option autoImplicit false
set_option maxRecDepth 100000
set_option maxHeartbeats 1000000
namespace G
open PySem PySem.Spec PyProof.Rows L2
/-! ## values as data -/
mutual
def D.data : D → Option PyData
  | .non => some .none
  | .bl b => some (.bool b)
  | .int i => some (.int i)
  | .str x => some (.str x)
  | .tup l => (D.datas l).map .tuple
  | .lst l => (D.datas l).map .list
  | .cell _ => none
  | .dct0 => none
  | .exc _ => none
  | .con _ => none
def D.datas : List D → Option (List PyData)
  | [] => some []
  | d :: ds => match D.data d, D.datas ds with
    | some x, some xs => some (x :: xs)
    | _, _ => none
end
mutual
theorem dp_of {w : Wd} : ∀ (d : D) (v : V) (p : PyData), Rep w d v → d.data = some p → Dp w.K w.H v p
  | .non, v, p, h, e => by simp only [Rep] at h; simp only [D.data] at e; cases e; subst h; exact .non
  | .bl b, v, p, h, e => by simp only [Rep] at h; simp only [D.data] at e; cases e; subst h; exact .bl b
  | .int i, v, p, h, e => by simp only [Rep] at h; simp only [D.data] at e; cases e; subst h; exact .int i
  | .str x, v, p, h, e => by simp only [Rep] at h; simp only [D.data] at e; cases e; subst h; exact .str x
  | .tup l, v, p, h, e => by
    simp only [Rep] at h
    simp only [D.data] at e
    obtain ⟨a, xs, rfl, s, r, hl⟩ := h
    cases q : D.datas l with
    | none => rw [q] at e; cases e
    | some ps => rw [q] at e; cases e; exact .tup s (dps_of l xs ps r q)
  | .lst l, v, p, h, e => by
    simp only [Rep] at h
    simp only [D.data] at e
    obtain ⟨a, xs, rfl, s, r, hl⟩ := h
    cases q : D.datas l with
    | none => rw [q] at e; cases e
    | some ps => rw [q] at e; cases e; exact .lst (SqL.of s.1.1) (dps_of l xs ps r q)
  | .cell _, v, p, h, e => by simp only [D.data] at e; cases e
  | .dct0, v, p, h, e => by simp only [D.data] at e; cases e
  | .exc _, v, p, h, e => by simp only [D.data] at e; cases e
  | .con _, v, p, h, e => by simp only [D.data] at e; cases e
theorem dps_of {w : Wd} : ∀ (l : List D) (vs : List V) (ps : List PyData), Reps w l vs → D.datas l = some ps → DpAll w.K w.H vs ps
  | [], vs, ps, h, e => by simp only [Reps] at h; simp only [D.datas] at e; cases e; subst h; exact .nil
  | d :: ds, vs, ps, h, e => by
    simp only [Reps] at h
    simp only [D.datas] at e
    obtain ⟨x, xs, rfl, r, rs⟩ := h
    cases q1 : D.data d with
    | none => rw [q1] at e; cases e
    | some p1 =>
      cases q2 : D.datas ds with
      | none => rw [q1, q2] at e; cases e
      | some ps1 => rw [q1, q2] at e; cases e; exact .cons (dp_of d x p1 r q1) (dps_of ds xs ps1 rs q2)
end
/-- the answer is at hand: nothing is laid -/
theorem Wq.here {w : Wd} {o : Option D} {Q : VK} (h : Wq w o Q) (rs : RS w) {d : D} {v : V} (e : o = some d) (r : Rep w d v) : Q v w.H := by
  obtain ⟨d', e', k⟩ := h
  rw [e] at e'
  cases e'
  exact k w (.refl rs) rfl v r
theorem Wq.new {w : Wd} {o : Option D} {Q : VK} (h : Wq w o Q) (rs : RS w) {d : D} {p : Addr} {ho : HO} (hp : w.H p = none) (e : o = some d) (r : Rep ⟨w.K, w.m, w.st, upd w.H p ho, w.rv⟩ d (.ref p)) : Q (.ref p) (upd w.H p ho) := by
  obtain ⟨d', e', k⟩ := h
  rw [e] at e'
  cases e'
  exact k _ (aft_new rs hp) rfl _ r
theorem rep_bl {w : Wd} (b : Bool) : Rep w (.bl b) (.bl b) := by simp only [Rep]
theorem rep_int {w : Wd} (b : Int) : Rep w (.int b) (.int b) := by simp only [Rep]
theorem rep_str {w : Wd} (b : Str) : Rep w (.str b) (.str b) := by simp only [Rep]
theorem rep_non {w : Wd} : Rep w .non .non := by simp only [Rep]
theorem reps_app {w : Wd} : ∀ {ds es : List D} {xs ys : List V}, Reps w ds xs → Reps w es ys → Reps w (ds ++ es) (xs ++ ys)
  | [], es, xs, ys, h, k => by simp only [Reps] at h; subst h; exact k
  | d :: ds, es, xs, ys, h, k => by
    simp only [Reps] at h
    obtain ⟨x, xs, rfl, r, rs⟩ := h
    show Reps w (d :: (ds ++ es)) (x :: (xs ++ ys))
    simp only [Reps]
    exact ⟨x, xs ++ ys, rfl, r, reps_app rs k⟩
theorem reps_at {w : Wd} : ∀ {ds : List D} {xs : List V} {i : Nat} {d : D}, Reps w ds xs → ds[i]? = some d → ∃ x, xs[i]? = some x ∧ Rep w d x
  | [], xs, i, d, h, e => by simp at e
  | d :: ds, xs, 0, d', h, e => by
    simp only [Reps] at h
    obtain ⟨x, xs, rfl, r, rs⟩ := h
    simp at e; subst e
    exact ⟨x, rfl, r⟩
  | d :: ds, xs, i + 1, d', h, e => by
    simp only [Reps] at h
    obtain ⟨x, xs, rfl, r, rs⟩ := h
    obtain ⟨y, e2, r2⟩ := reps_at (i := i) rs (by simpa using e)
    exact ⟨y, by simpa using e2, r2⟩
theorem reps_drop {w : Wd} : ∀ {ds : List D} {xs : List V} (n : Nat), Reps w ds xs → Reps w (ds.drop n) (xs.drop n)
  | ds, xs, 0, h => h
  | [], xs, n + 1, h => by simp only [Reps] at h; subst h; simp [Reps]
  | d :: ds, xs, n + 1, h => by
    simp only [Reps] at h
    obtain ⟨x, xs, rfl, r, rs⟩ := h
    exact reps_drop n rs
theorem reps_take {w : Wd} : ∀ {ds : List D} {xs : List V} (n : Nat), Reps w ds xs → Reps w (ds.take n) (xs.take n)
  | ds, xs, 0, h => by simp [Reps]
  | [], xs, n + 1, h => by simp only [Reps] at h; subst h; simp [Reps]
  | d :: ds, xs, n + 1, h => by
    simp only [Reps] at h
    obtain ⟨x, xs, rfl, r, rs⟩ := h
    show Reps w (d :: ds.take n) (x :: xs.take n)
    simp only [Reps]
    exact ⟨x, xs.take n, rfl, r, reps_take n rs⟩
theorem reps_get {w : Wd} {ds : List D} {xs : List V} {i : Nat} {x : V} (h : Reps w ds xs) (e : xs[i]? = some x) : ∃ d, ds[i]? = some d ∧ Rep w d x := by
  have hl := reps_len h
  have hi : i < xs.length := (List.getElem?_eq_some_iff.mp e).1
  obtain ⟨d, hd⟩ : ∃ d, ds[i]? = some d := ⟨ds[i]'(by omega), by simp [hl ▸ hi]⟩
  obtain ⟨y, e2, r⟩ := reps_at h hd
  rw [e] at e2
  cases e2
  exact ⟨d, hd, r⟩
/-! ## operators -/
def dAdd : D → D → Store → Option D
  | .int i, .int j, _ => some (.int (i + j))
  | .str x, .str y, _ => if x.length + y.length ≤ sizeLine then some (.str (x ++ y)) else none
  | .tup x, .tup y, _ => if x.length + y.length ≤ sizeLine then some (.tup (x ++ y)) else none
  | .lst x, .lst y, _ => if x.length + y.length ≤ sizeLine then some (.lst (x ++ y)) else none
  | _, _, _ => none
def dSub : D → D → Store → Option D
  | .int i, .int j, _ => some (.int (i - j))
  | _, _, _ => none
def mulOk (i j : Int) : Bool := decide (i.natAbs.log2 + j.natAbs.log2 < 1000000)
def dMul : D → D → Store → Option D
  | .int i, .int j, _ => if mulOk i j then some (.int (i * j)) else none
  | _, _, _ => none
def dMod : D → D → Store → Option D
  | .int i, .int j, _ => if 0 < j then some (.int (i % j)) else none
  | _, _, _ => none
def divOk (j : Int) : Bool := decide (0 < j ∧ j.natAbs.log2 < 9000)
def dDiv : D → D → Store → Option D
  | .int i, .int j, _ => if divOk j then some (.int (i / j)) else none
  | _, _, _ => none
def powOk (i j : Int) : Bool := decide (0 ≤ j ∧ j ≤ 1000000 ∧ i.natAbs < 2 ^ 64)
def dPow : D → D → Store → Option D
  | .int i, .int j, _ => if powOk i j then some (.int (i ^ j.toNat)) else none
  | _, _, _ => none
def dCmpI (p : Int → Int → Bool) : D → D → Store → Option D
  | .int i, .int j, _ => some (.bl (p i j))
  | _, _, _ => none
def dLt := dCmpI fun i j => decide (i < j)
def dLe := dCmpI fun i j => decide (i ≤ j)
def dGt := dCmpI fun i j => decide (j < i)
def dGe := dCmpI fun i j => decide (j ≤ i)
/-- == of data, at any depth -/
def eqD (a b : D) : Option Bool := match a.data, b.data with
  | some p, some q => if SeqAt.shaped p && SeqAt.shaped q then some (PyData.eqv p q) else none
  | _, _ => none
def dEq : D → D → Store → Option D := fun a b _ => (eqD a b).map .bl
def dNe : D → D → Store → Option D := fun a b _ => (eqD a b).map fun r => .bl (!r)
def dIsN : D → D → Store → Option D
  | .non, .non, _ => some (.bl true)
  | .exc _, .non, _ => none
  | .con _, .non, _ => none
  | _, .non, _ => some (.bl false)
  | _, _, _ => none
def dNotN : D → D → Store → Option D
  | .non, .non, _ => some (.bl false)
  | .exc _, .non, _ => none
  | .con _, .non, _ => none
  | _, .non, _ => some (.bl true)
  | _, _, _ => none
/-- x in a tuple, a list of data -/
def inD (x y : D) : Option Bool := match x.data, y.data with
  | some p, some (.list qs) => if SeqAt.shaped p && SeqAt.shaped (.list qs) then some (qs.any fun z => PyData.eqv z p) else none
  | some p, some (.tuple qs) => if SeqAt.shaped p && SeqAt.shaped (.tuple qs) then some (qs.any fun z => PyData.eqv z p) else none
  | _, _ => none
def dIn : D → D → Store → Option D := fun a b _ => (inD a b).map .bl
def dNotIn : D → D → Store → Option D := fun a b _ => (inD a b).map fun r => .bl (!r)
def dNeg : D → Store → Option D
  | .int i, _ => some (.int (-i))
  | _, _ => none
section
variable {X : Cx}
theorem wq_some {w : Wd} {o : Option D} {Q : VK} (h : Wq w o Q) : ∃ d, o = some d := let ⟨d, e, _⟩ := h; ⟨d, e⟩
theorem od_sub : OpD X (binaryOp .Sub) dSub := OpR.imp' op_sub fun x y H Q h => by
  obtain ⟨w, a, b, hk, rfl, rs, ra, rb, q⟩ := h
  obtain ⟨d, e⟩ := wq_some q
  unfold dSub at e
  split at e
  · rename_i i j
    simp only [Rep] at ra rb
    exact ⟨i, j, ra, rb, q.here rs rfl (rep_int _)⟩
  · cases e
theorem od_cmp {op : CmpOp} {p : Int → Int → Bool} (h : OpR X (compareOp op) (rI0 fun i j => .bl (p i j))) : OpD X (compareOp op) (dCmpI p) := OpR.imp' h fun x y H Q h => by
  obtain ⟨w, a, b, hk, rfl, rs, ra, rb, q⟩ := h
  obtain ⟨d, e⟩ := wq_some q
  unfold dCmpI at e
  split at e
  · rename_i i j
    simp only [Rep] at ra rb
    exact ⟨i, j, ra, rb, q.here rs rfl (rep_bl _)⟩
  · cases e
theorem od_lt : OpD X (compareOp .Lt) dLt := od_cmp op_lt
theorem od_le : OpD X (compareOp .LtE) dLe := od_cmp op_le
theorem od_gt : OpD X (compareOp .Gt) dGt := od_cmp op_gt
theorem od_ge : OpD X (compareOp .GtE) dGe := od_cmp op_ge
theorem od_mul : OpD X (binaryOp .Mult) dMul := OpR.imp' op_mulW fun x y H Q h => by
  obtain ⟨w, a, b, hk, rfl, rs, ra, rb, q⟩ := h
  obtain ⟨d, e⟩ := wq_some q
  unfold dMul at e
  split at e
  · rename_i i j
    split at e
    · rename_i hc
      simp only [Rep] at ra rb
      exact ⟨i, j, ra, rb, (by have z := of_decide_eq_true hc; exact z), q.here rs (if_pos hc) (rep_int _)⟩
    · cases e
  · cases e
theorem od_mod : OpD X (binaryOp .Mod) dMod := OpR.imp' op_mod fun x y H Q h => by
  obtain ⟨w, a, b, hk, rfl, rs, ra, rb, q⟩ := h
  obtain ⟨d, e⟩ := wq_some q
  unfold dMod at e
  split at e
  · rename_i i j
    split at e
    · rename_i hc
      simp only [Rep] at ra rb
      exact ⟨i, j, ra, rb, hc, q.here rs (if_pos hc) (rep_int _)⟩
    · cases e
  · cases e
theorem od_div : OpD X (binaryOp .FloorDiv) dDiv := OpR.imp' op_fdivW fun x y H Q h => by
  obtain ⟨w, a, b, hk, rfl, rs, ra, rb, q⟩ := h
  obtain ⟨d, e⟩ := wq_some q
  unfold dDiv at e
  split at e
  · rename_i i j
    split at e
    · rename_i hc
      simp only [Rep] at ra rb
      exact ⟨i, j, ra, rb, (by have z := of_decide_eq_true hc; exact z), q.here rs (if_pos hc) (rep_int _)⟩
    · cases e
  · cases e
theorem od_pow : OpD X (binaryOp .Pow) dPow := OpR.imp' op_pow fun x y H Q h => by
  obtain ⟨w, a, b, hk, rfl, rs, ra, rb, q⟩ := h
  obtain ⟨d, e⟩ := wq_some q
  unfold dPow at e
  split at e
  · rename_i i j
    split at e
    · rename_i hc
      simp only [Rep] at ra rb
      exact ⟨i, j, ra, rb, (by have z := of_decide_eq_true hc; exact z), q.here rs (if_pos hc) (rep_int _)⟩
    · cases e
  · cases e
theorem od_eq (hu : X.A.units + 64 < cLine) : OpD X (compareOp .Eq) dEq := OpR.imp' (op_eqD hu) fun x y H Q h => by
  obtain ⟨w, a, b, hk, rfl, rs, ra, rb, q⟩ := h
  obtain ⟨d, e⟩ := wq_some q
  unfold dEq eqD at e
  split at e
  · rename_i p1 p2 e1 e2
    split at e
    · rename_i hc
      obtain ⟨s1, s2⟩ := Bool.and_eq_true_iff.mp hc
      refine ⟨p1, p2, by rw [← hk]; exact dp_of a x p1 ra e1, by rw [← hk]; exact dp_of b y p2 rb e2, s1, s2, q.here rs ?_ (rep_bl _)⟩
      unfold dEq eqD
      rw [e1, e2]
      simp only [hc, if_true]
      rfl
    · cases e
  · cases e
theorem od_ne (hu : X.A.units + 64 < cLine) : OpD X (compareOp .NotEq) dNe := OpR.imp' (op_neD hu) fun x y H Q h => by
  obtain ⟨w, a, b, hk, rfl, rs, ra, rb, q⟩ := h
  obtain ⟨d, e⟩ := wq_some q
  unfold dNe eqD at e
  split at e
  · rename_i p1 p2 e1 e2
    split at e
    · rename_i hc
      obtain ⟨s1, s2⟩ := Bool.and_eq_true_iff.mp hc
      refine ⟨p1, p2, by rw [← hk]; exact dp_of a x p1 ra e1, by rw [← hk]; exact dp_of b y p2 rb e2, s1, s2, q.here rs ?_ (rep_bl _)⟩
      unfold dNe eqD
      rw [e1, e2]
      simp only [hc, if_true]
      rfl
    · cases e
  · cases e
theorem ref_of {w : Wd} {d : D} {v : V} (r : Rep w d v) (h : d ≠ .non) : v ≠ .non := by
  cases d with
  | non => exact absurd rfl h
  | bl _ => simp only [Rep] at r; subst r; exact fun z => nomatch z
  | int _ => simp only [Rep] at r; subst r; exact fun z => nomatch z
  | str _ => simp only [Rep] at r; subst r; exact fun z => nomatch z
  | tup _ => simp only [Rep] at r; obtain ⟨a, xs, rfl, _⟩ := r; exact fun z => nomatch z
  | lst _ => simp only [Rep] at r; obtain ⟨a, xs, rfl, _⟩ := r; exact fun z => nomatch z
  | cell _ => simp only [Rep] at r; rw [r.1]; exact fun z => nomatch z
  | dct0 => simp only [Rep] at r; obtain ⟨a, rfl, _⟩ := r; exact fun z => nomatch z
  | exc _ => simp only [Rep] at r; obtain ⟨a, o, rfl, _⟩ := r; exact fun z => nomatch z
  | con _ => simp only [Rep] at r; rw [r]; exact fun z => nomatch z
theorem od_isN : OpD X (compareOp .Is) dIsN := OpR.imp' op_isN fun x y H Q h => by
  obtain ⟨w, a, b, hk, rfl, rs, ra, rb, q⟩ := h
  obtain ⟨d, e⟩ := wq_some q
  have hb : b = .non := by cases b <;> first | rfl | (cases a <;> cases e)
  subst hb
  simp only [Rep] at rb
  refine ⟨rb, ?_⟩
  by_cases ha : a = .non
  · subst ha
    simp only [Rep] at ra
    subst ra
    exact q.here rs rfl (rep_bl _)
  · rw [decide_eq_false (ref_of ra ha)]
    refine q.here rs ?_ (rep_bl _)
    cases a <;> first | rfl | exact absurd rfl ha | cases e
theorem od_notN : OpD X (compareOp .IsNot) dNotN := OpR.imp' op_notN fun x y H Q h => by
  obtain ⟨w, a, b, hk, rfl, rs, ra, rb, q⟩ := h
  obtain ⟨d, e⟩ := wq_some q
  have hb : b = .non := by cases b <;> first | rfl | (cases a <;> cases e)
  subst hb
  simp only [Rep] at rb
  refine ⟨rb, ?_⟩
  by_cases ha : a = .non
  · subst ha
    simp only [Rep] at ra
    subst ra
    exact q.here rs rfl (rep_bl _)
  · rw [decide_eq_false (ref_of ra ha)]
    refine q.here rs ?_ (rep_bl _)
    cases a <;> first | rfl | exact absurd rfl ha | cases e
theorem od_add : OpD X (binaryOp .Add) dAdd := OpR.imp' (((op_add (X := X)).or op_add_str).or ((op_catA).or op_cat)) fun x y H Q h => by
  obtain ⟨w, a, b, hk, rfl, rs, ra, rb, q⟩ := h
  obtain ⟨d, e⟩ := wq_some q
  unfold dAdd at e
  split at e
  · rename_i i j
    simp only [Rep] at ra rb
    exact .inl (.inl ⟨i, j, ra, rb, q.here rs rfl (rep_int _)⟩)
  · rename_i i j
    split at e
    · rename_i hc
      simp only [Rep] at ra rb
      exact .inl (.inr ⟨i, j, ra, rb, hc, q.here rs (if_pos hc) (rep_str _)⟩)
    · cases e
  · rename_i ds es
    split at e
    · rename_i hc
      have e0 : dAdd (.tup ds) (.tup es) w.st = some (.tup (ds ++ es)) := if_pos hc
      have ra0 := ra
      have rb0 := rb
      simp only [Rep] at ra rb
      obtain ⟨a, xs, rfl, s1, r1, l1⟩ := ra
      obtain ⟨b, ys, rfl, s2, r2, l2⟩ := rb
      refine .inr (.inl ⟨a, b, xs, ys, rfl, rfl, by rw [← hk]; exact s1, by rw [← hk]; exact s2, by rw [reps_len r1, reps_len r2]; exact hc, fun hx => ?_, fun _ hy => ?_, fun _ _ p hp => ?_⟩)
      · subst hx
        have : ds = [] := List.length_eq_zero_iff.mp (by rw [← reps_len r1]; rfl)
        subst this
        exact q.here rs e0 rb0
      · subst hy
        have : es = [] := List.length_eq_zero_iff.mp (by rw [← reps_len r2]; rfl)
        subst this
        rw [List.append_nil] at e0
        exact q.here rs e0 ra0
      · exact q.new rs hp e0 (rep_newT rs hp (reps_app r1 r2) (by rw [List.length_append]; exact hc))
    · cases e
  · rename_i ds es
    split at e
    · rename_i hc
      have e0 : dAdd (.lst ds) (.lst es) w.st = some (.lst (ds ++ es)) := if_pos hc
      simp only [Rep] at ra rb
      obtain ⟨a, xs, rfl, s1, r1, l1⟩ := ra
      obtain ⟨b, ys, rfl, s2, r2, l2⟩ := rb
      exact .inr (.inr ⟨a, b, xs, ys, rfl, rfl, s1.1.1, s2.1.1, by rw [reps_len r1, reps_len r2]; exact hc, fun p hp => q.new rs hp e0 (rep_new rs hp (reps_app r1 r2) (by rw [List.length_append]; exact hc))⟩)
    · cases e
  · cases e
/-- x in a tuple of data -/
def rInT (K : PySem.W.Frag) (neg : Bool) : R2 := fun x y H Q => ∃ d ds, Dp K H x d ∧ Dp K H y (.tuple ds) ∧ SeqAt.shaped d = true ∧ SeqAt.shaped (.tuple ds) = true ∧ Q (.bl (if neg = true then !ds.any (fun z => PyData.eqv z d) else ds.any fun z => PyData.eqv z d)) H
theorem op_inT (hu : X.A.units + 65 < cLine) : OpR X (compareOp .In) (rInT X.K false) := by
  intro pins s σ H x y v u Q I rx ry h
  obtain ⟨d, ds, hd, he, sd, se, q⟩ := h
  obtain ⟨as, r1⟩ := Dp.reads I d x v hd rx
  obtain ⟨bs, r2⟩ := Dp.reads I (.tuple ds) y u he ry
  exact SeqAt.in_tuple_reads r2 r1 (SeqAt.canLay_of_shaped se) (SeqAt.canLay_of_shaped sd) (room_in_shaped sd hu) ⟨.bl _, H, I, rfl, q⟩
theorem op_notInT (hu : X.A.units + 65 < cLine) : OpR X (compareOp .NotIn) (rInT X.K true) := by
  intro pins s σ H x y v u Q I rx ry h
  obtain ⟨d, ds, hd, he, sd, se, q⟩ := h
  obtain ⟨as, r1⟩ := Dp.reads I d x v hd rx
  obtain ⟨bs, r2⟩ := Dp.reads I (.tuple ds) y u he ry
  exact SeqAt.notIn_tuple_reads r2 r1 (SeqAt.canLay_of_shaped se) (SeqAt.canLay_of_shaped sd) (room_in_shaped sd hu) ⟨.bl _, H, I, rfl, q⟩
theorem od_in (hu : X.A.units + 65 < cLine) : OpD X (compareOp .In) dIn := OpR.imp' ((op_inD hu).or (op_inT hu)) fun x y H Q h => by
  obtain ⟨w, a, b, hk, rfl, rs, ra, rb, q⟩ := h
  obtain ⟨d, e⟩ := wq_some q
  unfold dIn inD at e
  split at e
  · rename_i p qs e1 e2
    split at e
    · rename_i hc
      obtain ⟨s1, s2⟩ := Bool.and_eq_true_iff.mp hc
      refine .inl ⟨p, qs, by rw [← hk]; exact dp_of a x p ra e1, by rw [← hk]; exact dp_of b y _ rb e2, s1, s2, q.here rs ?_ (rep_bl _)⟩
      unfold dIn inD
      rw [e1, e2]
      simp only [hc, if_true]
      rfl
    · cases e
  · rename_i p qs e1 e2
    split at e
    · rename_i hc
      obtain ⟨s1, s2⟩ := Bool.and_eq_true_iff.mp hc
      refine .inr ⟨p, qs, by rw [← hk]; exact dp_of a x p ra e1, by rw [← hk]; exact dp_of b y _ rb e2, s1, s2, q.here rs ?_ (rep_bl _)⟩
      unfold dIn inD
      rw [e1, e2]
      simp only [hc, if_true]
      rfl
    · cases e
  · cases e
theorem od_notIn (hu : X.A.units + 65 < cLine) : OpD X (compareOp .NotIn) dNotIn := OpR.imp' ((op_notInD hu).or (op_notInT hu)) fun x y H Q h => by
  obtain ⟨w, a, b, hk, rfl, rs, ra, rb, q⟩ := h
  obtain ⟨d, e⟩ := wq_some q
  unfold dNotIn inD at e
  split at e
  · rename_i p qs e1 e2
    split at e
    · rename_i hc
      obtain ⟨s1, s2⟩ := Bool.and_eq_true_iff.mp hc
      refine .inl ⟨p, qs, by rw [← hk]; exact dp_of a x p ra e1, by rw [← hk]; exact dp_of b y _ rb e2, s1, s2, q.here rs ?_ (rep_bl _)⟩
      unfold dNotIn inD
      rw [e1, e2]
      simp only [hc, if_true]
      rfl
    · cases e
  · rename_i p qs e1 e2
    split at e
    · rename_i hc
      obtain ⟨s1, s2⟩ := Bool.and_eq_true_iff.mp hc
      refine .inr ⟨p, qs, by rw [← hk]; exact dp_of a x p ra e1, by rw [← hk]; exact dp_of b y _ rb e2, s1, s2, q.here rs ?_ (rep_bl _)⟩
      unfold dNotIn inD
      rw [e1, e2]
      simp only [hc, if_true]
      rfl
    · cases e
  · cases e
theorem ud_neg : UnR X (unaryOp .USub) (rdU X.K dNeg) := UnR.imp' un_neg fun x H Q h => by
  obtain ⟨w, a, hk, rfl, rs, ra, q⟩ := h
  obtain ⟨d, e⟩ := wq_some q
  unfold dNeg at e
  split at e
  · rename_i i
    simp only [Rep] at ra
    exact ⟨i, ra, q.here rs rfl (rep_int _)⟩
  · cases e
end
end G
end

section
set_option Elab.async false
set_option linter.all false
set_option autoImplicit false
set_option maxRecDepth 100000
set_option maxHeartbeats 1000000
namespace G
open PySem PySem.Spec PyProof.Rows L2
/-! ## subscripts, slices -/
theorem atI_reps {w : Wd} {ds : List D} {xs : List V} {i : Int} {d : D} (h : Reps w ds xs) (e : atI ds i = some d) : ∃ x, atI xs i = some x ∧ Rep w d x := by
  unfold atI at e ⊢
  rw [reps_len h]
  cases q : ixN ds.length i with
  | none => rw [q] at e; cases e
  | some j =>
    rw [q] at e
    obtain ⟨x, e2, r⟩ := reps_at h (i := j) (d := d) e
    exact ⟨x, e2, r⟩
def cellL (st : Store) (i : Nat) : Option (List D) := match st[i]? with
  | some (.lst l) => some l
  | some (.ro l) => some l
  | _ => none
/-- a list's cell that is read -/
theorem cell_sq {w : Wd} (rs : RS w) {i : Nat} {l : List D} (h : cellL w.st i = some l) : ∃ xs, SqL w.K w.H (w.m i) xs ∧ Reps w l xs ∧ l.length ≤ sizeLine := by
  unfold cellL at h
  split at h
  · rename_i l' e
    cases h
    obtain ⟨xs, e1, r1, z⟩ := rs.cells i _ e
    exact ⟨xs, SqL.of e1, r1, z⟩
  · rename_i l' e
    cases h
    obtain ⟨xs, e1, r1, z⟩ := rs.cells i _ e
    exact ⟨xs, e1.sq, r1, z⟩
  · cases h
def dIdx : D → D → Store → Option D
  | .tup l, .int i, _ => atI l i
  | .lst l, .int i, _ => atI l i
  | .cell c, .int i, st => (cellL st c).bind fun l => atI l i
  | .str z, .int i, _ => if z.length ≤ sizeLine then (atI z.cps.toList i).map fun c => .str ⟨#[c]⟩ else none
  | _, _, _ => none
section
variable {X : Cx} {W : XW} {e a b c : Expr} {pos : Pos} {fa fb fc : Ev → M D}
theorem IxR.imp' {r r' : R2} (h : IxR X r) (k : ∀ x y H Q, r' x y H Q → r x y H Q) : IxR X r' := fun va sl pins s σ H x y v u Q I rx ry z => h va sl pins s σ H x y v u Q I rx ry (k _ _ _ _ z)
theorem xd_idx : IxR X (rdO X.K dIdx) := IxR.imp' ((ix_list (X := X)).or (ix_tup.or ix_str)) fun x y H Q h => by
  obtain ⟨w, a, b, hk, rfl, rs, ra, rb, q⟩ := h
  obtain ⟨d, e⟩ := wq_some q
  unfold dIdx at e
  split at e
  · rename_i l i
    simp only [Rep] at ra rb
    obtain ⟨a, xs, rfl, s1, r1, l1⟩ := ra
    obtain ⟨z, e2, r2⟩ := atI_reps r1 e
    exact .inr (.inl ⟨a, xs, i, z, rfl, rb, by rw [← hk]; exact s1, e2, q.here rs e r2⟩)
  · rename_i l i
    simp only [Rep] at ra rb
    obtain ⟨a, xs, rfl, s1, r1, l1⟩ := ra
    obtain ⟨z, e2, r2⟩ := atI_reps r1 e
    exact .inl ⟨a, xs, i, z, rfl, rb, SqL.of s1.1.1, e2, q.here rs e r2⟩
  · rename_i st' c i
    simp only [Rep] at ra rb
    have e0 := e
    cases qc : cellL w.st c with
    | none => rw [qc] at e; cases e
    | some l =>
      rw [qc] at e
      obtain ⟨xs, s1, r1, l1⟩ := cell_sq rs qc
      obtain ⟨z, e2, r2⟩ := atI_reps r1 e
      exact .inl ⟨_, xs, i, z, ra.1, rb, by rw [← hk]; exact s1, e2, q.here rs e0 r2⟩
  · rename_i z i
    simp only [Rep] at ra rb
    have e0 := e
    split at e
    · rename_i hl
      cases qa : atI z.cps.toList i with
      | none => rw [qa] at e; cases e
      | some c =>
        rw [qa] at e
        exact .inr (.inr ⟨z, i, c, ra, rb, hl, qa, q.here rs (e0.trans e.symm) (rep_str _)⟩)
    · cases e
  · cases e
theorem de_ix (ha : DE X W a fa) (hb : DE X W b fb) (hs : PlainIx b := by intro _ _; rfl) : DE X W (.Subscript a b pos) (eOp dIdx fa fb) := PE.imp' (pe_ix xd_idx ha hb hs) fun _ _ _ h => two h
def cut (l : List D) (lo hi : Option Int) : List D := (l.drop (HT.sIx l.length 0 lo)).take (HT.sIx l.length l.length hi - HT.sIx l.length 0 lo)
theorem cut_len (l : List D) (lo hi : Option Int) : (cut l lo hi).length ≤ l.length := by
  unfold cut
  rw [List.length_take, List.length_drop]
  omega
theorem cut_reps {w : Wd} {ds : List D} {xs : List V} (lo hi : Option Int) (h : Reps w ds xs) : Reps w (cut ds lo hi) (cutV xs lo hi) := by
  unfold cut cutV
  rw [reps_len h]
  exact reps_take _ (reps_drop _ h)
def dSl (lo hi : Option Int) : D → Store → Option D
  | .tup l, _ => some (.tup (cut l lo hi))
  | .lst l, _ => some (.lst (cut l lo hi))
  | .cell c, st => (cellL st c).map fun l => .lst (cut l lo hi)
  | .str z, _ => if z.length ≤ sizeLine then some (.str (cutS z lo hi)) else none
  | _, _ => none
def rdSl (K : PySem.W.Frag) : V → Option Int → Option Int → Hp → VK → Prop := fun x lo hi H Q => ∃ (w : Wd) (a : D), w.K = K ∧ w.H = H ∧ RS w ∧ Rep w a x ∧ Wq w (dSl lo hi a w.st) Q
theorem SlR.imp' {r r' : V → Option Int → Option Int → Hp → VK → Prop} (h : SlR X r) (k : ∀ x lo hi H Q, r' x lo hi H Q → r x lo hi H Q) : SlR X r' := fun pins s σ H x v vl vu lo hi sl Q I rx hs pl pu z => h pins s σ H x v vl vu lo hi sl Q I rx hs pl pu (k _ _ _ _ _ z)
theorem cut_whole {l : List D} {lo hi : Option Int} (h1 : HT.sIx l.length 0 lo = 0) (h2 : HT.sIx l.length l.length hi = l.length) : cut l lo hi = l := by
  unfold cut
  rw [h1, h2]
  simp
theorem sd_sl : SlR X (rdSl X.K) := SlR.imp' ((sl_list (X := X)).or (sl_tupA.or sl_str)) fun x lo hi H Q h => by
  obtain ⟨w, a, hk, rfl, rs, ra, q⟩ := h
  obtain ⟨d, e⟩ := wq_some q
  unfold dSl at e
  split at e
  · rename_i l
    have ra0 := ra
    simp only [Rep] at ra
    obtain ⟨a, xs, rfl, s1, r1, l1⟩ := ra
    refine .inr (.inl ⟨a, xs, rfl, by rw [← hk]; exact s1, fun hw => ?_, fun _ p hp => ?_⟩)
    · rw [reps_len r1] at hw
      exact q.here rs (congrArg (fun z => some (D.tup z)) (cut_whole hw.1 hw.2)) ra0
    · exact q.new rs hp rfl (rep_newT rs hp (cut_reps lo hi r1) (Nat.le_trans (cut_len l lo hi) l1))
  · rename_i l
    simp only [Rep] at ra
    obtain ⟨a, xs, rfl, s1, r1, l1⟩ := ra
    exact .inl ⟨a, xs, rfl, SqL.of s1.1.1, fun p hp => q.new rs hp rfl (rep_new rs hp (cut_reps lo hi r1) (Nat.le_trans (cut_len l lo hi) l1))⟩
  · rename_i st' c
    simp only [Rep] at ra
    have e0 := e
    cases qc : cellL w.st c with
    | none => rw [qc] at e; cases e
    | some l =>
      rw [qc] at e
      obtain ⟨xs, s1, r1, l1⟩ := cell_sq rs qc
      refine .inl ⟨_, xs, ra.1, by rw [← hk]; exact s1, fun p hp => q.new rs hp (e0.trans e.symm) (rep_new rs hp (cut_reps lo hi r1) (Nat.le_trans (cut_len l lo hi) l1))⟩
  · rename_i z
    simp only [Rep] at ra
    split at e
    · rename_i hl
      exact .inr (.inr ⟨z, ra, hl, q.here rs (if_pos hl) (rep_str _)⟩)
    · cases e
  · cases e
def rdP (K : PySem.W.Frag) (W : XW) (f : Ev → M (Option Int)) : TO := fun σ H Q => ∃ (w : Wd) (env : Ev), w.K = K ∧ w.H = H ∧ RS w ∧ REnv w env σ ∧ Wp w (f env w.st) (fun o w' => Q o w'.H) (fun c w' => W c σ w'.H)
def DP (X : Cx) (W : XW) (e : Option Expr) (f : Ev → M (Option Int)) : Prop := PO X e (rdP X.K W f)
theorem PO.imp' {e : Option Expr} {t t' : TO} (h : PO X e t) (k : ∀ σ H Q, t' σ H Q → t σ H Q) : PO X e t' := ⟨fun pins s σ H Q I z => h.run pins s σ H Q I (k σ H Q z)⟩
def pNo : Ev → M (Option Int) := fun _ => pure none
def asI : D → M Int
  | .int i => pure i
  | _ => M.stuck
def pAt (f : Ev → M D) : Ev → M (Option Int) := fun env => do
  let d ← f env
  let i ← asI d
  pure (some i)
theorem asI_wp {w : Wd} {d : D} {P : Int → Wd → Prop} {V' : Str → Wd → Prop} (rs : RS w) (h : Wp w (asI d w.st) P V') : ∃ b, d = .int b ∧ P b w := by
  cases d with
  | int b => exact ⟨b, rfl, Wp.ok_ rs h⟩
  | _ => exact h.elim
theorem dp_no : DP X W none pNo := PO.imp' po_none fun σ H Q h => by
  obtain ⟨w, env, hk, rfl, r, n, h⟩ := h
  exact Wp.ok_ (a := (none : Option Int)) r h
theorem dp_at (ha : DE X W a fa) : DP X W (some a) (pAt fa) := PO.imp' (po_some ha) fun σ H Q h => by
  obtain ⟨w, env, hk, rfl, r, n, h⟩ := h
  refine ⟨w, env, hk, rfl, r, n, (Wp.bind h).imp fun x w1 a1 h1 v rv => ?_⟩
  obtain ⟨i, rfl, h2⟩ := asI_wp a1.rs (Wp.bind h1)
  simp only [Rep] at rv
  exact ⟨i, rv, Wp.ok_ (a := some i) a1.rs h2⟩
def eSl (fa : Ev → M D) (fl fh : Ev → M (Option Int)) : Ev → M D := fun env => do
  let d ← fa env
  let lo ← fl env
  let hi ← fh env
  lift (dSl lo hi d)
theorem de_sl {lo hi : Option Expr} {p2 : Pos} {fl fh : Ev → M (Option Int)} (ha : DE X W a fa) (hl : DP X W lo fl) (hh : DP X W hi fh) : DE X W (.Subscript a (.Slice lo hi none p2) pos) (eSl fa fl fh) := PE.imp' (pe_slice sd_sl ha hl hh) fun σ H Q h => by
  obtain ⟨w, env, hk, rfl, r, n, h⟩ := h
  refine ⟨w, env, hk, rfl, r, n, (Wp.bind h).imp fun x w1 a1 h1 v rv => ?_⟩
  refine ⟨w1, env, a1.k.trans hk, rfl, a1.rs, n.after a1, (Wp.bind h1).imp fun lo w2 a2 h2 => ?_⟩
  refine ⟨w2, env, a2.k.trans (a1.k.trans hk), rfl, a2.rs, (n.after a1).after a2, (Wp.bind h2).imp fun hi w3 a3 h3 => ?_⟩
  exact ⟨w3, x, a3.k.trans (a2.k.trans (a1.k.trans hk)), rfl, a3.rs, (a2.trans a3).rep rv, Wq.of h3⟩
/-! ## a < b < c -/
def eChain (g g' : D → D → Store → Option D) (fa fb fc : Ev → M D) : Ev → M D := fun env => do
  let x ← fa env
  let y ← fb env
  let z ← lift (g x y)
  let k ← asB z
  if k = true then do
    let u ← fc env
    lift (g' y u)
  else pure (.bl false)
theorem chain_rd {g g' : D → D → Store → Option D} {σ : L2.St} {H : Hp} {Q : VK} (h : rdE X.K W (eChain g g' fa fb fc) σ H Q) : tChain (rdO X.K g) (rdO X.K g') (rdE X.K W fa) (rdE X.K W fb) (rdE X.K W fc) σ H Q := by
  obtain ⟨w, env, hk, rfl, r, n, h⟩ := h
  refine ⟨w, env, hk, rfl, r, n, (Wp.bind h).imp fun x w1 a1 h1 v rv => ?_⟩
  refine ⟨w1, env, a1.k.trans hk, rfl, a1.rs, n.after a1, (Wp.bind h1).imp fun y w2 a2 h2 u ru => ?_⟩
  have h3 := Wp.bind h2
  refine ⟨w2, x, y, a2.k.trans (a1.k.trans hk), rfl, a2.rs, a2.rep rv, ru, ?_⟩
  unfold lift at h3
  cases e : g x y w2.st with
  | none => rw [e] at h3; exact h3.elim
  | some z =>
    rw [e] at h3
    refine ⟨z, rfl, fun w3 a3 e3 t rt => ?_⟩
    have h4 := h3 w3 a3 e3
    obtain ⟨k, rfl, h5⟩ := asB_wp a3.rs (Wp.bind h4)
    simp only [Rep] at rt
    refine ⟨k, rt, ?_⟩
    cases k with
    | true =>
      refine iteT ⟨w3, env, a3.k.trans (a2.k.trans (a1.k.trans hk)), rfl, a3.rs, ((n.after a1).after a2).after a3, (Wp.bind h5).imp fun t' w4 a4 h6 s rs' => ?_⟩
      exact ⟨w4, y, t', a4.k.trans (a3.k.trans (a2.k.trans (a1.k.trans hk))), rfl, a4.rs, (a3.trans a4).rep ru, rs', Wq.of h6⟩
    | false => exact iteF (Wp.ok_ (a := D.bl false) a3.rs h5 _ (rep_bl _))
theorem de_chain {op op' : CmpOp} {g g' : D → D → Store → Option D} (ho : OpD X (compareOp op) g) (ho' : OpD X (compareOp op') g') (ha : DE X W a fa) (hb : DE X W b fb) (hc : DE X W c fc)
    (hm : lastMarks [op, op'] [b, c] = false := by with_unfolding_all rfl) : DE X W (.Compare a [op, op'] [b, c] pos) (eChain g g' fa fb fc) := PE.imp' (pe_chain ho ho' ha hb hc hm) fun _ _ _ h => chain_rd h
theorem dt_chain {op op' : CmpOp} {g g' : D → D → Store → Option D} (ho : OpD X (compareOp op) g) (ho' : OpD X (compareOp op') g') (ha : DE X W a fa) (hb : DE X W b fb) (hc : DE X W c fc)
    (hm : lastMarks [op, op'] [b, c] = false := by with_unfolding_all rfl) : DT X W (.Compare a [op, op'] [b, c] pos) (tVal (eChain g g' fa fb fc)) := PT.imp' (pt_chain ho ho' ha hb hc hm) fun σ H Q h => chain_rd (tval h)
/-! ## isinstance with a built-in class -/
def tyName (st : Store) : D → Option String
  | .non => some "NoneType"
  | .bl _ => some "bool"
  | .int _ => some "int"
  | .str _ => some "str"
  | .tup _ => some "tuple"
  | .lst _ => some "list"
  | .dct0 => some "dict"
  | .cell i => match st[i]? with
    | some (.lst _) => some "list"
    | some (.dct _) => some "dict"
    | _ => none
  | .exc _ => none
  | .con _ => none
theorem tyx_of {w : Wd} (rs : RS w) {d : D} {v : V} {n : String} (r : Rep w d v) (h : tyName w.st d = some n) : TyX w.K w.H v (.type n) := by
  cases d with
  | non => simp only [Rep] at r; cases h; subst r; exact .base .non
  | bl b => simp only [Rep] at r; cases h; subst r; exact .base (.bl b)
  | int b => simp only [Rep] at r; cases h; subst r; exact .base (.int b)
  | str b => simp only [Rep] at r; cases h; subst r; exact .base (.str b)
  | tup l =>
    simp only [Rep] at r; cases h
    obtain ⟨a, xs, rfl, s, _, _⟩ := r
    rcases s with (s | ⟨o, s⟩) | ⟨o, its, k, s1, s2, _⟩
    · exact .base (.tup s)
    · exact .fTuple s
    · exact .kTuple s1 s2
  | lst l =>
    simp only [Rep] at r; cases h
    obtain ⟨a, xs, rfl, s, _, _⟩ := r
    exact .base (.lst s.1.1)
  | dct0 =>
    simp only [Rep] at r; cases h
    obtain ⟨a, rfl, s⟩ := r
    exact .base (.dK s.1.1)
  | cell i =>
    simp only [Rep] at r
    unfold tyName at h
    simp only at h
    rw [r.1]
    split at h
    · rename_i l e
      cases h
      obtain ⟨xs, e1, _, _⟩ := rs.cells i _ e
      exact .base (.lst e1)
    · rename_i l e
      cases h
      obtain ⟨xs, e1, _⟩ := rs.cells i _ e
      exact .base (.dK e1)
    · cases h
  | exc c => cases h
  | con c => cases h
/-- the answer of isinstance for the seven types -/
def isTy (n T : String) : Bool := n == T || (n == "bool" && T == "int")
def knownTy (T : String) : Prop := ∀ n ∈ ["NoneType", "bool", "int", "str", "tuple", "list", "dict"], kitB n T = some (isTy n T)
theorem ty_int : knownTy "int" := by unfold knownTy; decide +kernel
theorem ty_bool : knownTy "bool" := by unfold knownTy; decide +kernel
theorem ty_str : knownTy "str" := by unfold knownTy; decide +kernel
theorem ty_tuple : knownTy "tuple" := by unfold knownTy; decide +kernel
theorem ty_list : knownTy "list" := by unfold knownTy; decide +kernel
theorem ty_dict : knownTy "dict" := by unfold knownTy; decide +kernel
theorem tyName_mem {st : Store} {d : D} {n : String} (h : tyName st d = some n) : n ∈ ["NoneType", "bool", "int", "str", "tuple", "list", "dict"] := by
  cases d with
  | cell i =>
    unfold tyName at h
    simp only at h
    split at h <;> cases h <;> decide
  | exc c => cases h
  | con c => cases h
  | _ => cases h; decide
def dIsT (T : String) : D → Store → Option D := fun d st => (tyName st d).map fun n => .bl (isTy n T)
theorem de_isi {T : String} {x : Str} {p p' : Pos} (hT : knownTy T) (ha : DE X W a fa) (hg : Gl X "isinstance") (hm : X.mg "isinstance" = none) (hg2 : Gl X x) (hm2 : X.mg x = none) (hv : bootBuiltins x = some (.type T)) (hn : x ≠ "__name__" := by decide) (hdb : (x == ("__debug__" : Str)) = false := by decide)
    (he : starEach [a, .Name x p'] X.env = (false, eval a X.env) :: starEach [.Name x p'] X.env := by rfl) (he2 : starEach [.Name x p'] X.env = (false, eval (.Name x p') X.env) :: starEach [] X.env := by rfl) (hpl : (backTo pos (starEach [.Name x p'] X.env)).any (·.1) = false := by rfl) :
    DE X W (.Call (.Name "isinstance" p) [a, .Name x p'] [] pos) (eUn (dIsT T) fa) := by
  refine PE.imp' (pe_callB call_isi hg hm (by decide +kernel) (pa_cons ha (pa_cons (pe_bltn (v := .ty T) hg2 hm2 hv rfl hn hdb) pa_nil he2) he) (by decide) (by decide) he hpl) fun σ H Q h => ?_
  obtain ⟨w, env, hk, rfl, r, n, h⟩ := h
  refine ⟨w, env, hk, rfl, r, n, (Wp.bind h).imp fun d w1 a1 h1 v rv => ?_⟩
  have q := Wq.of h1
  obtain ⟨d', e⟩ := wq_some q
  cases et : tyName w1.st d with
  | none => unfold dIsT at e; rw [et] at e; cases e
  | some t =>
    refine ⟨v, .ty T, .type t, .type T, isTy t T, rfl, .ty T, by rw [← hk, ← a1.k]; exact tyx_of a1.rs rv et, kit_ty (hT t (tyName_mem et)), ?_⟩
    exact q.here a1.rs (by unfold dIsT; rw [et]; rfl) (rep_bl _)
end
end G
end

section
set_option Elab.async false
set_option linter.all false
set_option autoImplicit false
set_option maxRecDepth 100000
set_option maxHeartbeats 1000000
namespace G
open PySem PySem.Spec PyProof.Rows L2
/-! ## built-in functions -/
theorem reps1 {w : Wd} {d : D} {vs : List V} (h : Reps w [d] vs) : ∃ v, vs = [v] ∧ Rep w d v := by
  simp only [Reps] at h
  obtain ⟨x, xs, rfl, r, rfl⟩ := h
  exact ⟨x, rfl, r⟩
theorem reps2 {w : Wd} {d e : D} {vs : List V} (h : Reps w [d, e] vs) : ∃ v u, vs = [v, u] ∧ Rep w d v ∧ Rep w e u := by
  simp only [Reps] at h
  obtain ⟨x, xs, rfl, r, y, ys, rfl, r2, rfl⟩ := h
  exact ⟨x, y, rfl, r, r2⟩
def ints? : List D → Option (List Int)
  | [] => some []
  | .int i :: r => (ints? r).map (i :: ·)
  | _ => none
def bools? : List D → Option (List Bool)
  | [] => some []
  | .bl i :: r => (bools? r).map (i :: ·)
  | _ => none
theorem ints_reps {w : Wd} : ∀ {l : List D} {ns : List Int} {xs : List V}, ints? l = some ns → Reps w l xs → xs = ns.map V.int
  | [], ns, xs, h, r => by cases h; simp only [Reps] at r; exact r
  | .int i :: l, ns, xs, h, r => by
    simp only [Reps] at r
    obtain ⟨x, ys, rfl, r1, r2⟩ := r
    cases q : ints? l with
    | none => simp [ints?, q] at h
    | some ms =>
      simp [ints?, q] at h
      subst h
      simp only [Rep] at r1
      subst r1
      rw [ints_reps q r2]
      rfl
  | .non :: _, _, _, h, _ => by cases h
  | .bl _ :: _, _, _, h, _ => by cases h
  | .str _ :: _, _, _, h, _ => by cases h
  | .tup _ :: _, _, _, h, _ => by cases h
  | .lst _ :: _, _, _, h, _ => by cases h
  | .cell _ :: _, _, _, h, _ => by cases h
  | .dct0 :: _, _, _, h, _ => by cases h
  | .exc _ :: _, _, _, h, _ => by cases h
  | .con _ :: _, _, _, h, _ => by cases h
theorem bools_reps {w : Wd} : ∀ {l : List D} {ns : List Bool} {xs : List V}, bools? l = some ns → Reps w l xs → xs = ns.map V.bl
  | [], ns, xs, h, r => by cases h; simp only [Reps] at r; exact r
  | .bl i :: l, ns, xs, h, r => by
    simp only [Reps] at r
    obtain ⟨x, ys, rfl, r1, r2⟩ := r
    cases q : bools? l with
    | none => simp [bools?, q] at h
    | some ms =>
      simp [bools?, q] at h
      subst h
      simp only [Rep] at r1
      subst r1
      rw [bools_reps q r2]
      rfl
  | .non :: _, _, _, h, _ => by cases h
  | .int _ :: _, _, _, h, _ => by cases h
  | .str _ :: _, _, _, h, _ => by cases h
  | .tup _ :: _, _, _, h, _ => by cases h
  | .lst _ :: _, _, _, h, _ => by cases h
  | .cell _ :: _, _, _, h, _ => by cases h
  | .dct0 :: _, _, _, h, _ => by cases h
  | .exc _ :: _, _, _, h, _ => by cases h
  | .con _ :: _, _, _, h, _ => by cases h
def dLen : List D → Store → Option D
  | [.str z], _ => if z.length ≤ sizeLine then some (.int z.length) else none
  | [.tup l], _ => some (.int l.length)
  | [.lst l], _ => some (.int l.length)
  | [.cell c], st => (cellL st c).map fun l => .int l.length
  | _, _ => none
def dSum : List D → Store → Option D
  | [.lst l], _ => (ints? l).map fun ns => .int ns.sum
  | _, _ => none
def dAll : List D → Store → Option D
  | [.lst l], _ => (bools? l).map fun ns => .bl (ns.all id)
  | _, _ => none
def dAny : List D → Store → Option D
  | [.lst l], _ => (bools? l).map fun ns => .bl (ns.any id)
  | _, _ => none
def dTuple : List D → Store → Option D
  | [.lst l], _ => some (.tup l)
  | [.tup l], _ => some (.tup l)
  | [.cell c], st => (cellL st c).map fun l => .tup l
  | _, _ => none
def dList : List D → Store → Option D
  | [.lst l], _ => some (.lst l)
  | [.tup l], _ => some (.lst l)
  | [.cell c], st => (cellL st c).map fun l => .lst l
  | _, _ => none
def dMax2 : List D → Store → Option D
  | [.int i, .int j], _ => some (.int (if j > i then j else i))
  | _, _ => none
def dMin2 : List D → Store → Option D
  | [.int i, .int j], _ => some (.int (if j < i then j else i))
  | _, _ => none
def dDivmod : List D → Store → Option D
  | [.int i, .int j], _ => if divOk j then some (.tup [.int (i / j), .int (i % j)]) else none
  | _, _ => none
def dStr : List D → Store → Option D
  | [.int i], _ => if i.natAbs.log2 < 1920 then some (.str (toString i)) else none
  | _, _ => none
def dInt : List D → Store → Option D
  | [.str a], _ => if a.length ≤ 640 then (PySem.intText? a).map .int else none
  | [.int i], _ => some (.int i)
  | _, _ => none
theorem divp_of {i j : Int} (h : divOk j = true) : CDivP i j := by
  obtain ⟨h1, h2⟩ := (by have z := of_decide_eq_true h; exact z : 0 < j ∧ j.natAbs.log2 < 9000)
  refine ⟨h1, ?_⟩
  unfold Builtin.divisionGoesByPylong
  simp only [Bool.and_eq_false_iff, decide_eq_false_iff_not]
  left
  have hj : (j == 0) = false := by simp; omega
  rw [hj]
  simp only [if_neg (show ¬ (false = true) by decide)]
  omega
section
variable {X : Cx} {W : XW} {e a b c : Expr} {pos : Pos} {fa fb fc : Ev → M D}
theorem cd_len : CallD X (.builtin "len") dLen := CallR.imp' ((call_len_seq (X := X)).or call_len_str) fun xs H Q h => by
  obtain ⟨w, ds, hk, rfl, rs, rd, q⟩ := h
  obtain ⟨d, e⟩ := wq_some q
  unfold dLen at e
  split at e
  · rename_i z
    obtain ⟨v, rfl, r⟩ := reps1 rd
    simp only [Rep] at r
    split at e
    · rename_i hl
      exact .inr ⟨z, by rw [r], hl, q.here rs (if_pos hl) (rep_int _)⟩
    · cases e
  · rename_i l
    obtain ⟨v, rfl, r⟩ := reps1 rd
    simp only [Rep] at r
    obtain ⟨a, ys, rfl, s, r1, _⟩ := r
    refine .inl ⟨a, ys, rfl, .inr (by rw [← hk]; exact s), ?_⟩
    rw [reps_len r1]
    exact q.here rs rfl (rep_int _)
  · rename_i l
    obtain ⟨v, rfl, r⟩ := reps1 rd
    simp only [Rep] at r
    obtain ⟨a, ys, rfl, s, r1, _⟩ := r
    refine .inl ⟨a, ys, rfl, .inl (SqL.of s.1.1), ?_⟩
    rw [reps_len r1]
    exact q.here rs rfl (rep_int _)
  · rename_i st' c
    obtain ⟨v, rfl, r⟩ := reps1 rd
    simp only [Rep] at r
    have e0 := e
    cases qc : cellL w.st c with
    | none => rw [qc] at e; cases e
    | some l =>
      rw [qc] at e
      obtain ⟨ys, s1, r1, _⟩ := cell_sq rs qc
      refine .inl ⟨_, ys, by rw [r.1], .inl (by rw [← hk]; exact s1), ?_⟩
      rw [reps_len r1]
      exact q.here rs (e0.trans e.symm) (rep_int _)
  · cases e
theorem cd_sum (hc : X.calm = true) : CallD X (.builtin "sum") dSum := CallR.imp' (cr_sum hc) fun xs H Q h => by
  obtain ⟨w, ds, hk, rfl, rs, rd, q⟩ := h
  obtain ⟨d, e⟩ := wq_some q
  unfold dSum at e
  split at e
  · rename_i l
    obtain ⟨v, rfl, r⟩ := reps1 rd
    simp only [Rep] at r
    obtain ⟨a, ys, rfl, s, r1, _⟩ := r
    have e0 := e
    cases qi : ints? l with
    | none => rw [qi] at e; cases e
    | some ns =>
      rw [qi] at e
      exact ⟨a, ns, rfl, by rw [← ints_reps qi r1]; exact SqL.of s.1.1, q.here rs (e0.trans e.symm) (rep_int _)⟩
  · cases e
theorem cd_all (hc : X.calm = true) : CallD X (.builtin "all") dAll := CallR.imp' (cr_all hc) fun xs H Q h => by
  obtain ⟨w, ds, hk, rfl, rs, rd, q⟩ := h
  obtain ⟨d, e⟩ := wq_some q
  unfold dAll at e
  split at e
  · rename_i l
    obtain ⟨v, rfl, r⟩ := reps1 rd
    simp only [Rep] at r
    obtain ⟨a, ys, rfl, s, r1, _⟩ := r
    have e0 := e
    cases qi : bools? l with
    | none => rw [qi] at e; cases e
    | some ns =>
      rw [qi] at e
      exact ⟨a, ns, rfl, by rw [← bools_reps qi r1]; exact SqL.of s.1.1, q.here rs (e0.trans e.symm) (rep_bl _)⟩
  · cases e
theorem cd_any (hc : X.calm = true) : CallD X (.builtin "any") dAny := CallR.imp' (cr_any hc) fun xs H Q h => by
  obtain ⟨w, ds, hk, rfl, rs, rd, q⟩ := h
  obtain ⟨d, e⟩ := wq_some q
  unfold dAny at e
  split at e
  · rename_i l
    obtain ⟨v, rfl, r⟩ := reps1 rd
    simp only [Rep] at r
    obtain ⟨a, ys, rfl, s, r1, _⟩ := r
    have e0 := e
    cases qi : bools? l with
    | none => rw [qi] at e; cases e
    | some ns =>
      rw [qi] at e
      exact ⟨a, ns, rfl, by rw [← bools_reps qi r1]; exact SqL.of s.1.1, q.here rs (e0.trans e.symm) (rep_bl _)⟩
  · cases e
theorem cd_tuple : CallD X (.type "tuple") dTuple := CallR.imp' call_tuple_of fun xs H Q h => by
  obtain ⟨w, ds, hk, rfl, rs, rd, q⟩ := h
  obtain ⟨d, e⟩ := wq_some q
  unfold dTuple at e
  split at e
  · rename_i l
    obtain ⟨v, rfl, r⟩ := reps1 rd
    simp only [Rep] at r
    obtain ⟨a, ys, rfl, s, r1, l1⟩ := r
    exact ⟨a, ys, rfl, .inl ⟨SqL.of s.1.1, fun p hp => q.new rs hp rfl (rep_newT rs hp r1 l1)⟩⟩
  · rename_i l
    obtain ⟨v, rfl, r⟩ := reps1 rd
    have r0 := r
    simp only [Rep] at r
    obtain ⟨a, ys, rfl, s, r1, l1⟩ := r
    exact ⟨a, ys, rfl, .inr ⟨by rw [← hk]; exact s, q.here rs rfl r0⟩⟩
  · rename_i st' c
    obtain ⟨v, rfl, r⟩ := reps1 rd
    simp only [Rep] at r
    have e0 := e
    cases qc : cellL w.st c with
    | none => rw [qc] at e; cases e
    | some l =>
      rw [qc] at e
      obtain ⟨ys, s1, r1, l1⟩ := cell_sq rs qc
      exact ⟨_, ys, by rw [r.1], .inl ⟨by rw [← hk]; exact s1, fun p hp => q.new rs hp (e0.trans e.symm) (rep_newT rs hp r1 l1)⟩⟩
  · cases e
theorem cd_list : CallD X (.type "list") dList := CallR.imp' call_list_of fun xs H Q h => by
  obtain ⟨w, ds, hk, rfl, rs, rd, q⟩ := h
  obtain ⟨d, e⟩ := wq_some q
  unfold dList at e
  split at e
  · rename_i l
    obtain ⟨v, rfl, r⟩ := reps1 rd
    simp only [Rep] at r
    obtain ⟨a, ys, rfl, s, r1, l1⟩ := r
    exact ⟨a, ys, rfl, .inl (SqL.of s.1.1), fun p hp => q.new rs hp rfl (rep_new rs hp r1 l1)⟩
  · rename_i l
    obtain ⟨v, rfl, r⟩ := reps1 rd
    simp only [Rep] at r
    obtain ⟨a, ys, rfl, s, r1, l1⟩ := r
    exact ⟨a, ys, rfl, .inr (by rw [← hk]; exact s), fun p hp => q.new rs hp rfl (rep_new rs hp r1 l1)⟩
  · rename_i st' c
    obtain ⟨v, rfl, r⟩ := reps1 rd
    simp only [Rep] at r
    have e0 := e
    cases qc : cellL w.st c with
    | none => rw [qc] at e; cases e
    | some l =>
      rw [qc] at e
      obtain ⟨ys, s1, r1, l1⟩ := cell_sq rs qc
      exact ⟨_, ys, by rw [r.1], .inl (by rw [← hk]; exact s1), fun p hp => q.new rs hp (e0.trans e.symm) (rep_new rs hp r1 l1)⟩
  · cases e
theorem cd_max2 (hc : X.calm = true) : CallD X (.builtin "max") dMax2 := CallR.imp' (call_max2 hc) fun xs H Q h => by
  obtain ⟨w, ds, hk, rfl, rs, rd, q⟩ := h
  obtain ⟨d, e⟩ := wq_some q
  unfold dMax2 at e
  split at e
  · rename_i i j
    obtain ⟨v, u, rfl, r, r2⟩ := reps2 rd
    simp only [Rep] at r r2
    exact ⟨i, j, by rw [r, r2], q.here rs rfl (rep_int _)⟩
  · cases e
theorem cd_min2 (hc : X.calm = true) : CallD X (.builtin "min") dMin2 := CallR.imp' (call_min2 hc) fun xs H Q h => by
  obtain ⟨w, ds, hk, rfl, rs, rd, q⟩ := h
  obtain ⟨d, e⟩ := wq_some q
  unfold dMin2 at e
  split at e
  · rename_i i j
    obtain ⟨v, u, rfl, r, r2⟩ := reps2 rd
    simp only [Rep] at r r2
    exact ⟨i, j, by rw [r, r2], q.here rs rfl (rep_int _)⟩
  · cases e
theorem cd_divmod : CallD X (.builtin "divmod") dDivmod := CallR.imp' call_divmodW fun xs H Q h => by
  obtain ⟨w, ds, hk, rfl, rs, rd, q⟩ := h
  obtain ⟨d, e⟩ := wq_some q
  unfold dDivmod at e
  split at e
  · rename_i i j
    obtain ⟨v, u, rfl, r, r2⟩ := reps2 rd
    simp only [Rep] at r r2
    split at e
    · rename_i hc
      refine ⟨i, j, by rw [r, r2], divp_of hc, fun p hp => q.new rs hp (if_pos hc) (rep_newT rs hp ?_ (by show 2 ≤ sizeLine; decide))⟩
      simp only [Reps]
      exact ⟨_, _, rfl, rep_int _, _, _, rfl, rep_int _, rfl⟩
    · cases e
  · cases e
theorem cd_str : CallD X (.type "str") dStr := CallR.imp' call_str_int fun xs H Q h => by
  obtain ⟨w, ds, hk, rfl, rs, rd, q⟩ := h
  obtain ⟨d, e⟩ := wq_some q
  unfold dStr at e
  split at e
  · rename_i i
    obtain ⟨v, rfl, r⟩ := reps1 rd
    simp only [Rep] at r
    split at e
    · rename_i hc
      exact ⟨i, by rw [r], hc, q.here rs (if_pos hc) (rep_str _)⟩
    · cases e
  · cases e
theorem cd_int : CallD X (.type "int") dInt := CallR.imp' ((call_int_str (X := X)).or call_int1) fun xs H Q h => by
  obtain ⟨w, ds, hk, rfl, rs, rd, q⟩ := h
  obtain ⟨d, e⟩ := wq_some q
  unfold dInt at e
  split at e
  · rename_i z
    obtain ⟨v, rfl, r⟩ := reps1 rd
    simp only [Rep] at r
    have e0 := e
    split at e
    · rename_i hc
      cases qi : PySem.intText? z with
      | none => rw [qi] at e; cases e
      | some n =>
        rw [qi] at e
        exact .inl ⟨z, n, by rw [r], qi, hc, q.here rs (e0.trans e.symm) (rep_int _)⟩
    · cases e
  · rename_i i
    obtain ⟨v, rfl, r⟩ := reps1 rd
    simp only [Rep] at r
    exact .inr (.inl ⟨i, by rw [r], q.here rs rfl (rep_int _)⟩)
  · cases e
end
end G
end

section
set_option Elab.async false
set_option linter.all false
set_option autoImplicit false
set_option maxRecDepth 100000
set_option maxHeartbeats 1000000
namespace G
open PySem PySem.Spec PyProof.Rows L2
/-! ## statements -/
inductive Fl where
  | nx (env : Ev)
  | ret (d : D)
  | brk (env : Ev)
  | ct (env : Ev)
  | exc (c : Str) (env : Ev)
/-- an expression within a statement: what it raises ends the statement -/
def stx {α : Type} (x : M α) (env : Ev) (k : α → M Fl) : M Fl := fun st => match x st with
  | .ok a st' => k a st'
  | .err c st' => .ok (.exc c env) st'
  | .bad => .bad
def SFl (W : XW) (D' : Ends) (fl : Fl) (w : Wd) : Prop := match fl with
  | .nx env => ∀ σ, REnv w env σ → D'.nx σ w.H
  | .ret d => ∀ v, Rep w d v → D'.rt v w.H
  | .brk env => ∀ σ, REnv w env σ → D'.bk σ w.H
  | .ct env => ∀ σ, REnv w env σ → D'.ct σ w.H
  | .exc c env => ∀ σ, REnv w env σ → W c σ w.H
def nov : Str → Wd → Prop := fun _ _ => False
def rdS (K : PySem.W.Frag) (W : XW) (g : Ev → M Fl) : TS := fun D' σ H => ∃ (w : Wd) (env : Ev), w.K = K ∧ w.H = H ∧ RS w ∧ REnv w env σ ∧ Wp w (g env w.st) (SFl W D') nov
def DS (X : Cx) (W : XW) (s : Stmt) (g : Ev → M Fl) : Prop := PS X s (rdS X.K W g)
def DSs (X : Cx) (W : XW) (s : List Stmt) (g : Ev → M Fl) : Prop := PSs X s (rdS X.K W g)
section
variable {X : Cx} {W : XW} {e a b c : Expr} {s : Stmt} {ss : List Stmt} {pos : Pos} {fa fb fc : Ev → M D} {g g' : Ev → M Fl}
theorem PS.imp' {t t' : TS} (h : PS X s t) (k : ∀ D' σ H, t' D' σ H → t D' σ H) : PS X s t' := ⟨fun pins s σ H D' I z => h.run pins s σ H D' I (k D' σ H z)⟩
theorem PSs.imp' {t t' : TS} (h : PSs X ss t) (k : ∀ D' σ H, t' D' σ H → t D' σ H) : PSs X ss t' := ⟨fun pins s σ H D' I z => h.run pins s σ H D' I (k D' σ H z)⟩
/-- an expression's part of a statement -/
theorem stx_wp {α : Type} {w : Wd} {env : Ev} {σ : L2.St} {x : M α} {k : α → M Fl} {D' : Ends} (n : REnv w env σ) (h : Wp w (stx x env k w.st) (SFl W D') nov) :
    Wp w (x w.st) (fun a w1 => Wp w1 (k a w1.st) (SFl W D') nov) (fun c w1 => W c σ w1.H) := by
  unfold stx at h
  cases e : x w.st with
  | ok a st' =>
    rw [e] at h
    have h : Wp w (k a st') (SFl W D') nov := h
    intro w' b q
    rw [q]
    exact h.after b
  | err c st' =>
    rw [e] at h
    exact fun w' b q => h w' b q σ (n.after b)
  | bad =>
    rw [e] at h
    exact h
def sNop : Ev → M Fl := fun env => pure (.nx env)
theorem dss_nil : DSs X W [] sNop := PSs.imp' pss_nil fun D' σ H h => by
  obtain ⟨w, env, hk, rfl, r, n, h⟩ := h
  exact Wp.ok_ (a := Fl.nx env) r h σ n
def sSeq (g g' : Ev → M Fl) : Ev → M Fl := fun env => do
  let fl ← g env
  match fl with
  | .nx e => g' e
  | other => pure other
theorem seq_wp {w : Wd} {env : Ev} {D' : Ends} {K : PySem.W.Frag} (hk : w.K = K) (h : Wp w (sSeq g g' env w.st) (SFl W D') nov) : Wp w (g env w.st) (SFl W { D' with nx := rdS K W g' D' }) nov := by
  refine (Wp.bind h).imp fun fl w1 a1 h1 => ?_
  cases fl with
  | nx e1 => exact fun σ1 n1 => ⟨w1, e1, a1.k.trans hk, rfl, a1.rs, n1, h1⟩
  | ret d => exact Wp.ok_ (P := SFl W D') (W := nov) (a := Fl.ret d) a1.rs h1
  | brk e1 => exact Wp.ok_ (P := SFl W D') (W := nov) (a := Fl.brk e1) a1.rs h1
  | ct e1 => exact Wp.ok_ (P := SFl W D') (W := nov) (a := Fl.ct e1) a1.rs h1
  | exc c e1 => exact Wp.ok_ (P := SFl W D') (W := nov) (a := Fl.exc c e1) a1.rs h1
theorem dss_cons (h : DS X W s g) (k : DSs X W ss g') : DSs X W (s :: ss) (sSeq g g') := PSs.imp' (pss_cons h k) fun D' σ H h => by
  obtain ⟨w, env, hk, rfl, r, n, h⟩ := h
  exact ⟨w, env, hk, rfl, r, n, seq_wp hk h⟩
theorem dss_one (h : DS X W s g) : DSs X W [s] g := pss_one h
theorem ds_pass : DS X W (.Pass pos) sNop := PS.imp' ps_pass fun D' σ H h => by
  obtain ⟨w, env, hk, rfl, r, n, h⟩ := h
  exact Wp.ok_ (a := Fl.nx env) r h σ n
theorem ds_break : DS X W (.Break pos) (fun env => pure (.brk env)) := PS.imp' ps_break fun D' σ H h => by
  obtain ⟨w, env, hk, rfl, r, n, h⟩ := h
  exact Wp.ok_ (a := Fl.brk env) r h σ n
theorem ds_continue : DS X W (.Continue pos) (fun env => pure (.ct env)) := PS.imp' ps_continue fun D' σ H h => by
  obtain ⟨w, env, hk, rfl, r, n, h⟩ := h
  exact Wp.ok_ (a := Fl.ct env) r h σ n
def sRet (f : Ev → M D) : Ev → M Fl := fun env => stx (f env) env fun d => pure (.ret d)
theorem ds_ret (h : DE X W e fa) : DS X W (.Return (some e) pos) (sRet fa) := PS.imp' (ps_ret h) fun D' σ H h => by
  obtain ⟨w, env, hk, rfl, r, n, h⟩ := h
  exact ⟨w, env, hk, rfl, r, n, (stx_wp n h).imp fun d w1 a1 h1 => Wp.ok_ (a := Fl.ret d) a1.rs h1⟩
def sRetN : Ev → M Fl := fun _ => pure (.ret .non)
theorem ds_retN : DS X W (.Return none pos) sRetN := PS.imp' ps_retN fun D' σ H h => by
  obtain ⟨w, env, hk, rfl, r, n, h⟩ := h
  exact Wp.ok_ (a := Fl.ret .non) r h _ rep_non
def sExpr (f : Ev → M D) : Ev → M Fl := fun env => stx (f env) env fun _ => pure (.nx env)
theorem ds_expr (h : DE X W e fa) (hs : swapsWith e none pos.line X.env = pure false := by rfl) : DS X W (.Expr e pos) (sExpr fa) := PS.imp' (ps_expr h hs) fun D' σ H h => by
  obtain ⟨w, env, hk, rfl, r, n, h⟩ := h
  exact ⟨w, env, hk, rfl, r, n, (stx_wp n h).imp fun d w1 a1 h1 v _ => Wp.ok_ (a := Fl.nx env) a1.rs h1 σ (n.after a1)⟩
def sIf (t : Ev → M Bool) (g g' : Ev → M Fl) : Ev → M Fl := fun env => stx (t env) env fun b => if b = true then g env else g' env
theorem ds_if {t : Ev → M Bool} {as bs : List Stmt} (ht : DT X W c t) (ha : DSs X W as g) (hb : DSs X W bs g') : DS X W (.If c as bs pos) (sIf t g g') := PS.imp' (ps_if ht ha hb) fun D' σ H h => by
  obtain ⟨w, env, hk, rfl, r, n, h⟩ := h
  refine ⟨w, env, hk, rfl, r, n, (stx_wp n h).imp fun b w1 a1 h1 => ?_⟩
  cases b with
  | true => exact iteT ⟨w1, env, a1.k.trans hk, rfl, a1.rs, n.after a1, h1⟩
  | false => exact iteF ⟨w1, env, a1.k.trans hk, rfl, a1.rs, n.after a1, h1⟩
def sAsg (i : Nat) (f : Ev → M D) : Ev → M Fl := fun env => stx (f env) env fun d => pure (.nx (env.set i (some d)))
theorem asg_rd {i : Nat} {D' : Ends} {σ : L2.St} {H : Hp} (h : rdS X.K W (sAsg i fa) D' σ H) : tAsg (rdE X.K W fa) (gName i) D' σ H := by
  obtain ⟨w, env, hk, rfl, r, n, h⟩ := h
  exact ⟨w, env, hk, rfl, r, n, (stx_wp n h).imp fun d w1 a1 h1 v rv => Wp.ok_ (a := Fl.nx (env.set i (some d))) a1.rs h1 _ ((n.after a1).set i rv)⟩
theorem ds_set (i : Nat) {x : Str} {pos' : Pos} (hN : X.N.Nodup) (hi : X.N[i]? = some x) (hx : Loc X.env.scope x) (he : DE X W e fa) (hs : swapsWith e (some (.Name x pos')) pos.line X.env = pure false := by rfl)
    (hf : X.fn x = true ∨ X.env.scope.names.lookup x = some .local := by first | exact .inl rfl | exact .inr rfl) : DS X W (.Assign [.Name x pos'] e pos) (sAsg i fa) := PS.imp' (ps_set hN hi hx he hs hf) fun _ _ _ h => asg_rd h
/-- a, b = e1, e2 -/
def sPar (i j : Nat) (fa fb : Ev → M D) : Ev → M Fl := fun env => stx (fa env) env fun d => stx (fb env) env fun e => pure (.nx ((env.set i (some d)).set j (some e)))
theorem ds_par (i j : Nat) {x y : Str} {px py pt : Pos} {kt k2 pt2} (hc : X.calm = true) (hN : X.N.Nodup) (hi : X.N[i]? = some x) (hj : X.N[j]? = some y) (hij : i ≠ j) (hx : X.env.scope.names.lookup x = some .local) (hy : X.env.scope.names.lookup y = some .local)
    (ha : DE X W a fa) (hb : DE X W b fb) (hst : starEach [a, b] X.env = (false, eval a X.env) :: starEach [b] X.env := by rfl) (hst2 : starEach [b] X.env = (false, eval b X.env) :: starEach [] X.env := by rfl)
    (hw : swappedStores [.Tuple [.Name x px, .Name y py] kt pt] (.Tuple [a, b] k2 pt2) X.env = pure (some [x, y]) := by rfl)
    (hs : swapsWithSole [.Tuple [.Name x px, .Name y py] kt pt] (.Tuple [a, b] k2 pt2) pos.line X.env = pure false := by rfl) : DS X W (.Assign [.Tuple [.Name x px, .Name y py] kt pt] (.Tuple [a, b] k2 pt2) pos) (sPar i j fa fb) :=
  PS.imp' (ps_par hc hN hi hj hij hx hy (pa_cons ha (pa_cons hb pa_nil hst2) hst) hw hs) fun D' σ H h => by
    obtain ⟨w, env, hk, rfl, r, n, h⟩ := h
    refine ⟨w, env, hk, rfl, r, n, (stx_wp n h).imp fun d w1 a1 h1 v rv => ?_⟩
    refine ⟨w1, env, a1.k.trans hk, rfl, a1.rs, n.after a1, (stx_wp (n.after a1) h1).imp fun e w2 a2 h2 u ru => ?_⟩
    exact ⟨v, u, rfl, Wp.ok_ (a := Fl.nx ((env.set i (some d)).set j (some e))) a2.rs h2 _ ((((n.after a1).after a2).set i (a2.rep rv)).set j ru)⟩
/-- a statement at which the run may not come -/
theorem ds_never : DS X W s (fun _ => M.stuck) := PS.imp' ps_never fun D' σ H h => by
  obtain ⟨w, env, hk, rfl, r, n, h⟩ := h
  exact h.elim
theorem dss_never : DSs X W ss (fun _ => M.stuck) := PSs.imp' pss_never fun D' σ H h => by
  obtain ⟨w, env, hk, rfl, r, n, h⟩ := h
  exact h.elim
/-! ## targets of loops and comprehensions -/
theorem wipe_at (σ : L2.St) (j : Nat) : ∀ vs : List Nat, (wipe σ vs)[j]? = if j ∈ vs then (σ[j]?).map (fun _ => none) else σ[j]?
  | [] => by simp [wipe]
  | v :: vs => by
    unfold wipe
    by_cases hj : v = j
    · subst hj
      rw [if_pos (List.mem_cons_self ..)]
      by_cases hl : v < (wipe σ vs).length
      · rw [List.getElem?_set_self hl]
        rw [wipe_length] at hl
        rw [List.getElem?_eq_getElem hl]
        rfl
      · rw [List.getElem?_eq_none (by rw [List.length_set]; omega)]
        rw [wipe_length] at hl
        rw [List.getElem?_eq_none (by omega)]
        rfl
    · rw [List.getElem?_set_ne hj, wipe_at σ j vs]
      by_cases hm : j ∈ vs
      · rw [if_pos hm, if_pos (List.mem_cons_of_mem _ hm)]
      · rw [if_neg hm, if_neg (by simp only [List.mem_cons, not_or]; exact ⟨fun z => hj z.symm, hm⟩)]
theorem wipe_set {σ : L2.St} {i : Nat} {x : Option V} {vs : List Nat} (h : i ∈ vs) : wipe (σ.set i x) vs = wipe σ vs := by
  refine List.ext_getElem? fun j => ?_
  rw [wipe_at, wipe_at]
  by_cases hm : j ∈ vs
  · rw [if_pos hm, if_pos hm]
    by_cases hj : i = j
    · subst hj
      by_cases hl : i < σ.length
      · rw [List.getElem?_set_self hl, List.getElem?_eq_getElem hl]; rfl
      · rw [List.getElem?_eq_none (by rw [List.length_set]; omega), List.getElem?_eq_none (by omega)]
    · rw [List.getElem?_set_ne hj]
  · rw [if_neg hm, if_neg hm, List.getElem?_set_ne (fun z : i = j => hm (by rw [← z]; exact h))]
theorem wipe_wipe (σ : L2.St) (vs : List Nat) : wipe (wipe σ vs) vs = wipe σ vs := by
  refine List.ext_getElem? fun j => ?_
  rw [wipe_at, wipe_at]
  by_cases hm : j ∈ vs
  · rw [if_pos hm, if_pos hm]; cases σ[j]? <;> rfl
  · rw [if_neg hm, if_neg hm]
def evWipe (env : Ev) : List Nat → Ev
  | [] => env
  | v :: vs => (evWipe env vs).set v none
theorem REnv.wipe {w : Wd} {env : Ev} {σ : L2.St} (h : REnv w env σ) : ∀ vs : List Nat, REnv w (evWipe env vs) (L2.wipe σ vs)
  | [] => h
  | v :: vs => (REnv.wipe h vs).forget v
def TgOk (K : PySem.W.Frag) (t : TG) (tg : D → Ev → Option Ev) (is : List Nat) : Prop := ∀ (w : Wd) (env : Ev) (σ : L2.St) (d : D) (v : V) (env' : Ev) (Q : L2.St → Hp → Prop), w.K = K → REnv w env σ → Rep w d v → tg d env = some env' →
  (∀ σ', REnv w env' σ' → (∀ vs : List Nat, (∀ i ∈ is, i ∈ vs) → wipe σ' vs = wipe σ vs) → Q σ' w.H) → t v σ w.H Q
def tgName (i : Nat) : D → Ev → Option Ev := fun d env => some (env.set i (some d))
def tgPair (i j : Nat) : D → Ev → Option Ev := fun d env => match d with
  | .tup [a, b] => some ((env.set i (some a)).set j (some b))
  | _ => none
theorem tgok_name (K : PySem.W.Frag) (i : Nat) : TgOk K (gName i) (tgName i) [i] := fun w env σ d v env' Q hk n r e q => by
  cases e
  exact q _ (n.set i r) fun vs hv => wipe_set (hv i (by simp))
theorem tgok_pair (K : PySem.W.Frag) (i j : Nat) : TgOk K (gTup K 2 (gCons (gName i) (gCons (gName j) gNil))) (tgPair i j) [i, j] := fun w env σ d v env' Q hk n r e q => by
  unfold tgPair at e
  split at e
  · rename_i a b
    cases e
    simp only [Rep] at r
    obtain ⟨x, xs, rfl, s, r, _⟩ := r
    obtain ⟨u1, u2, rfl, r1, r2⟩ := reps2 r
    refine ⟨x, [u1, u2], rfl, by rw [← hk]; exact s, rfl, u1, [u2], rfl, u2, [], rfl, rfl, ?_⟩
    refine q _ ((n.set i r1).set j r2) fun vs hv => ?_
    rw [wipe_set (hv j (by simp)), wipe_set (hv i (by simp))]
  · cases e
/-! ## what is walked -/
structure Walks (w : Wd) (J : It) (l : List D) : Prop where
  step : ∀ w' : Wd, w'.K = w.K → RS w' → Bears w w' → ∀ (i : Nat) (d : D), l[i]? = some d → J.go i w'.H ∧ ∀ x H', J.yld i w'.H x H' → ∃ w'', Aft w' w'' ∧ w''.st = w'.st ∧ w''.H = H' ∧ w''.m = w'.m ∧ Rep w'' d x
  stop : ∀ w' : Wd, w'.K = w.K → RS w' → Bears w w' → J.stop l.length w'.H
  len : l.length ≤ sizeLine
def rdI (K : PySem.W.Frag) (W : XW) (f : Ev → M (List D)) : TI := fun σ H R => ∃ (w : Wd) (env : Ev), w.K = K ∧ w.H = H ∧ RS w ∧ REnv w env σ ∧ Wp w (f env w.st) (fun l w' => ∀ J, Walks w' J l → R J w'.H) (fun c w' => W c σ w'.H)
def DI (X : Cx) (W : XW) (tg iter : Expr) (f : Ev → M (List D)) : Prop := PI X tg iter (rdI X.K W f)
theorem PI.imp' {tg iter : Expr} {t t' : TI} (h : PI X tg iter t) (k : ∀ σ H R, t' σ H R → t σ H R) : PI X tg iter t' := ⟨fun pins s σ H R I z => h.run pins s σ H R I (k σ H R z)⟩
theorem PI.or' {tg iter : Expr} {t t' : TI} (h : PI X tg iter t) (h' : PI X tg iter t') : PI X tg iter (fun σ H R => t σ H R ∨ t' σ H R) := ⟨fun pins s σ H R I z => z.elim (h.run pins s σ H R I) (h'.run pins s σ H R I)⟩
/-- a list's, a tuple's items -/
def itemsL : D → M (List D)
  | .lst l => pure l
  | _ => M.stuck
def itemsT : D → M (List D)
  | .tup l => pure l
  | _ => M.stuck
def items : D → M (List D)
  | .lst l => pure l
  | .tup l => pure l
  | _ => M.stuck
theorem walks_list {w : Wd} {a : Addr} {l : List D} (r : Rep w (.lst l) (.ref a)) : Walks w (Itl w.K a) l where
  step := fun w' hk rs b i d e => by
    have r' := b.rep _ _ r
    simp only [Rep] at r'
    obtain ⟨a', xs, ea, s, rr, _⟩ := r'
    cases ea
    obtain ⟨x, ex, rx⟩ := reps_at rr e
    refine ⟨⟨xs, x, SqL.of s.1.1, ex⟩, fun y H' hy => ?_⟩
    obtain ⟨rfl, hy⟩ := hy
    have := hy xs (SqL.of s.1.1)
    rw [ex] at this
    cases this
    exact ⟨w', .refl rs, rfl, rfl, rfl, rx⟩
  stop := fun w' hk rs b => by
    have r' := b.rep _ _ r
    simp only [Rep] at r'
    obtain ⟨a', xs, ea, s, rr, _⟩ := r'
    cases ea
    exact ⟨xs, SqL.of s.1.1, by rw [reps_len rr]; exact Nat.le_refl _⟩
  len := by simp only [Rep] at r; obtain ⟨_, _, _, _, _, h⟩ := r; exact h
theorem walks_tup {w : Wd} {a : Addr} {l : List D} (r : Rep w (.tup l) (.ref a)) : Walks w (Itt w.K a) l where
  step := fun w' hk rs b i d e => by
    have r' := b.rep _ _ r
    simp only [Rep] at r'
    obtain ⟨a', xs, ea, s, rr, _⟩ := r'
    cases ea
    obtain ⟨x, ex, rx⟩ := reps_at rr e
    rw [hk] at s
    refine ⟨⟨xs, x, s, ex⟩, fun y H' hy => ?_⟩
    obtain ⟨rfl, hy⟩ := hy
    have := hy xs s
    rw [ex] at this
    cases this
    exact ⟨w', .refl rs, rfl, rfl, rfl, rx⟩
  stop := fun w' hk rs b => by
    have r' := b.rep _ _ r
    simp only [Rep] at r'
    obtain ⟨a', xs, ea, s, rr, _⟩ := r'
    cases ea
    rw [hk] at s
    exact ⟨xs, s, by rw [reps_len rr]; exact Nat.le_refl _⟩
  len := by simp only [Rep] at r; obtain ⟨_, _, _, _, _, h⟩ := r; exact h
def iSeq (f : Ev → M D) : Ev → M (List D) := fun env => do
  let d ← f env
  items d
theorem di_seq {tg : Expr} (h : DE X W e fa) : DI X W tg e (iSeq fa) := by
  have hL : PI X tg e (iList X.K (rdE X.K W fa)) := pi_list h
  have hT : PI X tg e (iTup X.K (rdE X.K W fa)) := pi_tup h
  refine PI.imp' (PI.or' hL hT) fun σ H R h => ?_
  obtain ⟨w, env, hk, rfl, r, n, h⟩ := h
  have h1 := Wp.bind h
  cases ef : fa env w.st with
  | bad => rw [ef] at h1; exact h1.elim
  | err c st' =>
    rw [ef] at h1
    exact .inl ⟨w, env, hk, rfl, r, n, by rw [ef]; exact h1⟩
  | ok d st' =>
    rw [ef] at h1
    cases d with
    | lst l =>
      refine .inl ⟨w, env, hk, rfl, r, n, ?_⟩
      rw [ef]
      intro w1 a1 e1 v rv
      have h2 := Wp.ok_ (a := l) a1.rs (h1 w1 a1 e1)
      have rv0 := rv
      simp only [Rep] at rv
      obtain ⟨a, xs, rfl, s, _⟩ := rv
      exact ⟨a, rfl, ⟨xs, SqL.of s.1.1⟩, by rw [← hk, ← a1.k]; exact h2 _ (walks_list rv0)⟩
    | tup l =>
      refine .inr ⟨w, env, hk, rfl, r, n, ?_⟩
      rw [ef]
      intro w1 a1 e1 v rv
      have h2 := Wp.ok_ (a := l) a1.rs (h1 w1 a1 e1)
      have rv0 := rv
      simp only [Rep] at rv
      obtain ⟨a, xs, rfl, s, _⟩ := rv
      exact ⟨a, rfl, ⟨xs, by rw [← hk, ← a1.k]; exact s⟩, by rw [← hk, ← a1.k]; exact h2 _ (walks_tup rv0)⟩
    | _ => exact .inl ⟨w, env, hk, rfl, r, n, by rw [ef]; intro w1 a1 e1; exact (h1 w1 a1 e1).elim⟩
end
end G
end

section
set_option Elab.async false
set_option linter.all false
set_option autoImplicit false
set_option maxRecDepth 100000
set_option maxHeartbeats 1000000
namespace G
open PySem PySem.Spec PyProof.Rows L2
section
variable {X : Cx} {W : XW} {e a b c : Expr} {s : Stmt} {ss : List Stmt} {pos : Pos} {fa fb fc : Ev → M D} {g g' : Ev → M Fl}
/-! ## range -/
def rangeD (n : Nat) : List D := (List.range n).map fun (k : Nat) => D.int (k : Int)
def iRange (f : Ev → M D) : Ev → M (List D) := fun env => do
  let d ← f env
  let i ← asI d
  if i ≤ 16777216 ∧ -16777216 ≤ i then pure (rangeD i.toNat) else M.stuck
theorem rangeD_at {n i : Nat} {d : D} (h : (rangeD n)[i]? = some d) : i < n ∧ d = .int (i : Int) := by
  unfold rangeD at h
  rw [List.getElem?_map] at h
  by_cases hi : i < n
  · rw [List.getElem?_range hi] at h
    cases h
    exact ⟨hi, rfl⟩
  · rw [List.getElem?_eq_none (by simp; omega)] at h
    cases h
theorem rangeD_len (n : Nat) : (rangeD n).length = n := by simp [rangeD]
theorem walks_range {w : Wd} {n : Nat} (hn : n ≤ sizeLine) : Walks w (Itr 0 n) (rangeD n) where
  step := fun w' hk rs b i d e => by
    obtain ⟨hi, rfl⟩ := rangeD_at e
    refine ⟨hi, fun x H' hx => ?_⟩
    obtain ⟨rfl, rfl⟩ := hx
    exact ⟨w', .refl rs, rfl, rfl, rfl, by simp [Rep]⟩
  stop := fun w' hk rs b => by rw [rangeD_len]; exact Nat.le_refl _
  len := by rw [rangeD_len]; exact hn
theorem di_range {tg : Expr} {p : Pos} (hg : Gl X "range") (hm : X.mg "range" = none) (h : DE X W a fa) (hst : starEach [a] X.env = (false, eval a X.env) :: starEach [] X.env := by rfl) : DI X W tg (.Call (.Name "range" p) [a] [] pos) (iRange fa) := by
  refine PI.imp' (pi_range1 hg hm (pa_cons (es := []) h pa_nil hst) (hs := hst)) fun σ H R h => ?_
  obtain ⟨w, env, hk, rfl, r, n, h⟩ := h
  refine ⟨w, env, hk, rfl, r, n, (Wp.bind h).imp fun d w1 a1 h1 v rv => ?_⟩
  obtain ⟨i, rfl, h2⟩ := asI_wp a1.rs (Wp.bind h1)
  simp only [Rep] at rv
  by_cases hc : i ≤ 16777216 ∧ -16777216 ≤ i
  · rw [if_pos hc] at h2
    refine ⟨i, by rw [rv], by omega, by omega, ?_⟩
    exact Wp.ok_ (a := rangeD i.toNat) a1.rs h2 _ (walks_range (by rw [sizeLine_eq]; omega))
  · rw [if_neg hc] at h2
    exact h2.elim
/-! ## for -/
def forGo (tg : D → Ev → Option Ev) (g : Ev → M Fl) : List D → Ev → M Fl
  | [], env => pure (.nx env)
  | d :: r, env => match tg d env with
    | none => M.stuck
    | some e1 => do
      let fl ← g e1
      match fl with
      | .nx e2 => forGo tg g r e2
      | .ct e2 => forGo tg g r e2
      | .brk e2 => pure (.nx e2)
      | .ret d => pure (.ret d)
      | .exc c e2 => pure (.exc c e2)
def sFor (fi : Ev → M (List D)) (tg : D → Ev → Option Ev) (g : Ev → M Fl) : Ev → M Fl := fun env => stx (fi env) env fun l => forGo tg g l env
theorem ds_for {tgt iter : Expr} {body : List Stmt} {t : TG} {tg : D → Ev → Option Ev} {is : List Nat} {fi : Ev → M (List D)} (hp : PassesOwn (model X.prog X.w) X.A X.env X.xe) (hc : X.calm = true) (hi : DI X W tgt iter fi) (hg : PG X tgt t) (ht : TgOk X.K t tg is) (hb : DSs X W body g)
    (hs : ∀ x, foldedSetIterable iter X.env x = pure x := by intro _; rfl) : DS X W (.For tgt iter body [] pos) (sFor fi tg g) := PS.imp' (ps_for hp hc hi hg hb hs) fun D' σ H h => by
  obtain ⟨w, env, hk, rfl, r, n, h⟩ := h
  refine ⟨w, env, hk, rfl, r, n, (stx_wp n h).imp fun l w1 a1 h1 J hJ => ?_⟩
  refine ⟨fun i m σ H => m + i = l.length ∧ ∃ (w' : Wd) (env' : Ev), w'.K = w1.K ∧ w'.H = H ∧ RS w' ∧ Bears w1 w' ∧ REnv w' env' σ ∧ Wp w' (forGo tg g (l.drop i) env' w'.st) (SFl W D') nov,
    ⟨l.length, by simp, w1, env, rfl, rfl, a1.rs, (Aft.refl a1.rs).bears, n.after a1, h1⟩, ?_⟩
  rintro i m σ1 H1 ⟨hm, w', env', hk', rfl, rs', b', n', h'⟩
  have hi : i ≤ l.length := by omega
  by_cases he : i = l.length
  · refine .inl ⟨by rw [he]; exact hJ.stop w' hk' rs' b', ?_⟩
    rw [he, List.drop_length] at h'
    exact Wp.ok_ (a := Fl.nx env') rs' h' σ1 n'
  · have hlt : i < l.length := by omega
    rw [List.drop_eq_getElem_cons hlt] at h'
    obtain ⟨go, yl⟩ := hJ.step w' hk' rs' b' i l[i] (by simp [hlt])
    refine .inr ⟨go, fun σ' H' => (m - 1) + (i + 1) = l.length ∧ ∃ (w' : Wd) (env' : Ev), w'.K = w1.K ∧ w'.H = H' ∧ RS w' ∧ Bears w1 w' ∧ REnv w' env' σ' ∧ Wp w' (forGo tg g (l.drop (i + 1)) env' w'.st) (SFl W D') nov,
      fun σ' H' hN => ⟨m - 1, by omega, hN⟩, fun x H' hx => ?_⟩
    obtain ⟨w2, a2, e2, rfl, em2, rx⟩ := yl x H' hx
    unfold forGo at h'
    cases et : tg l[i] env' with
    | none => rw [et] at h'; exact h'.elim
    | some e1 =>
      rw [et] at h'
      refine ht w2 env' σ1 l[i] x e1 _ (a2.k.trans (hk'.trans (a1.k.trans hk))) (n'.after a2) rx et fun σ2 n2 _ => ?_
      have hb' := (h'.after a2)
      rw [← e2] at hb'
      refine ⟨w2, e1, a2.k.trans (hk'.trans (a1.k.trans hk)), rfl, a2.rs, n2, (Wp.bind hb').imp fun fl w3 a3 h3 => ?_⟩
      have b3 : Bears w1 w3 := (b'.trans a2.bears).trans a3.bears
      have k3 : w3.K = w1.K := a3.k.trans (a2.k.trans hk')
      cases fl with
      | nx e3 => exact fun σ3 n3 => ⟨by omega, w3, e3, k3, rfl, a3.rs, b3, n3, h3⟩
      | ct e3 => exact fun σ3 n3 => ⟨by omega, w3, e3, k3, rfl, a3.rs, b3, n3, h3⟩
      | brk e3 => exact Wp.ok_ (P := SFl W D') (W := nov) (a := Fl.nx e3) a3.rs h3
      | ret d => exact Wp.ok_ (P := SFl W D') (W := nov) (a := Fl.ret d) a3.rs h3
      | exc c e3 => exact Wp.ok_ (P := SFl W D') (W := nov) (a := Fl.exc c e3) a3.rs h3
/-! ## list comprehensions -/
/-- within a comprehension nothing is raised -/
def noErr {α : Type} (x : M α) : M α := fun st => match x st with
  | .ok a st' => .ok a st'
  | _ => .bad
def compGo (tg : D → Ev → Option Ev) (tt : Ev → M Bool) (fe : Ev → M D) (env : Ev) : List D → List D → M (List D)
  | [], acc => pure acc
  | d :: r, acc => match tg d env with
    | none => M.stuck
    | some e1 => do
      let b ← noErr (tt e1)
      if b = true then do
        let y ← noErr (fe e1)
        compGo tg tt fe env r (acc ++ [y])
      else compGo tg tt fe env r acc
def eComp (vs : List Nat) (fi : Ev → M (List D)) (tg : D → Ev → Option Ev) (tt : Ev → M Bool) (fe : Ev → M D) : Ev → M D := fun env => do
  let l ← fi env
  let ds ← compGo tg tt fe (evWipe env vs) l []
  pure (.lst ds)
/-- a later world, up to the reserved addresses -/
def Lat (w1 w' : Wd) : Prop := Aft w1 ⟨w'.K, w'.m, w'.st, w'.H, w1.rv⟩
theorem bears_rv {w : Wd} {rv' : List Addr} (h : ∀ x, x ∈ rv' → x ∈ w.rv) : Bears w ⟨w.K, w.m, w.st, w.H, rv'⟩ := ⟨fun _ _ => rfl, Nat.le_refl _, fun _ _ q => q, fun x o q => ⟨q.1, fun z => q.2 (h x z)⟩, rfl⟩
theorem cell_rv {w : Wd} {rv' : List Addr} (h : ∀ x, x ∈ rv' → x ∈ w.rv) {x : Addr} {c : Cell} (q : CellOk w x c) : CellOk ⟨w.K, w.m, w.st, w.H, rv'⟩ x c := cell_bears (bears_rv h) (fun o q _ => q) (fun _ q => q) rfl q
/-- a new list at a free address that is reserved -/
theorem bears_res {w : Wd} {p : Addr} {o : HO} (hp : w.H p = none) : Bears w ⟨w.K, w.m, w.st, upd w.H p o, p :: w.rv⟩ := ⟨fun _ _ => rfl, Nat.le_refl _, fun _ _ q => sqT_same (same_upd hp) q, fun x u q => ⟨⟨same_upd hp _ _ q.1.1, q.1.2⟩, fun z => by
  rcases List.mem_cons.mp z with z | z
  · subst z; exact absurd (q.1.1.symm.trans hp) (by simp)
  · exact q.2 z⟩, rfl⟩
theorem noErr_ok {α : Type} {x : M α} {st st' : Store} {a : α} (h : noErr x st = .ok a st') : x st = .ok a st' := by
  unfold noErr at h
  cases e : x st with
  | ok b s1 => rw [e] at h; cases h; rfl
  | err c s1 => rw [e] at h; cases h
  | bad => rw [e] at h; cases h
theorem bind_inv {α β : Type} {x : M α} {f : α → M β} {st st' : Store} {b : β} (h : (x >>= f) st = .ok b st') : ∃ a s1, x st = .ok a s1 ∧ f a s1 = .ok b st' := by
  have h : M.andThen x f st = .ok b st' := h
  unfold M.andThen at h
  cases e : x st with
  | ok a s1 => rw [e] at h; exact ⟨a, s1, rfl, h⟩
  | err c s1 => rw [e] at h; cases h
  | bad => rw [e] at h; cases h
theorem compGo_len {tg : D → Ev → Option Ev} {tt : Ev → M Bool} {fe : Ev → M D} {env : Ev} : ∀ {l acc ds : List D} {st st' : Store}, compGo tg tt fe env l acc st = .ok ds st' → ds.length ≤ acc.length + l.length
  | [], acc, ds, st, st', h => by cases h; simp
  | d :: r, acc, ds, st, st', h => by
    unfold compGo at h
    cases et : tg d env with
    | none => rw [et] at h; cases h
    | some e1 =>
      rw [et] at h
      obtain ⟨b, s1, _, h2⟩ := bind_inv h
      cases b with
      | true =>
        obtain ⟨y, s2, _, h3⟩ := bind_inv h2
        have := compGo_len h3
        simp at this ⊢; omega
      | false =>
        have := compGo_len h2
        simp at this ⊢; omega
theorem wp_nov {α : Type} {w : Wd} {r : Res α} {P : α → Wd → Prop} {V' : Str → Wd → Prop} {a : α} {st : Store} (e : r = .ok a st) (h : ∀ w', Aft w w' → w'.st = st → P a w') : Wp w r P V' := by rw [e]; exact h
theorem comp_rd {vs : List Nat} {fi : Ev → M (List D)} {tg : D → Ev → Option Ev} {is : List Nat} {tt : Ev → M Bool} {fe : Ev → M D} {t : TG} (ht : TgOk X.K t tg is) (hv : ∀ i ∈ is, i ∈ vs) {σ : L2.St} {H : Hp} {Q : VK} (h : rdE X.K W (eComp vs fi tg tt fe) σ H Q) :
    tLc (rdI X.K W fi) t (rdT X.K (fun _ _ _ => False) tt) (rdE X.K (fun _ _ _ => False) fe) vs σ H Q := by
  obtain ⟨w, env, hk, rfl, r, n, h⟩ := h
  refine ⟨w, env, hk, rfl, r, n, (Wp.bind h).imp fun l w1 a1 h1 J hJ Dn hD => ?_⟩
  have h2 := Wp.bind h1
  have hk1 : w1.K = X.K := a1.k.trans hk
  -- the whole loop ends well
  obtain ⟨dsf, stf, ef⟩ : ∃ dsf stf, compGo tg tt fe (evWipe env vs) l [] w1.st = .ok dsf stf := by
    cases er : compGo tg tt fe (evWipe env vs) l [] w1.st with
    | ok dsf stf => exact ⟨dsf, stf, rfl⟩
    | bad => rw [er] at h2; exact h2.elim
    | err c stf =>
      exfalso
      have : ∀ (l acc : List D) (st : Store), compGo tg tt fe (evWipe env vs) l acc st ≠ .err c stf := by
        intro l
        induction l with
        | nil => intro acc st q; cases q
        | cons d r ih =>
          intro acc st q
          unfold compGo at q
          cases et : tg d (evWipe env vs) with
          | none => rw [et] at q; cases q
          | some e1 =>
            rw [et] at q
            have q : M.andThen (noErr (tt e1)) (fun b => if b = true then M.andThen (noErr (fe e1)) (fun y => compGo tg tt fe (evWipe env vs) r (acc ++ [y])) else compGo tg tt fe (evWipe env vs) r acc) st = .err c stf := q
            unfold M.andThen at q
            cases e2 : noErr (tt e1) st with
            | bad => rw [e2] at q; cases q
            | err c' s' => unfold noErr at e2; split at e2 <;> cases e2
            | ok b s1 =>
              rw [e2] at q
              simp only at q
              cases b with
              | false => exact ih _ _ q
              | true =>
                simp only [if_true] at q
                cases e3 : noErr (fe e1) s1 with
                | bad => rw [e3] at q; cases q
                | err c' s' => unfold noErr at e3; split at e3 <;> cases e3
                | ok y s2 => rw [e3] at q; exact ih _ _ q
      exact this _ _ _ er
  have hfin : ∀ w2, Aft w1 w2 → w2.st = stf → ∀ v, Rep w2 (.lst dsf) v → Q v w2.H := fun w2 a2 e2 => by
    rw [ef] at h2
    exact Wp.ok_ (a := D.lst dsf) a2.rs (h2 w2 a2 e2)
  refine ⟨fun i m H => m + i = l.length ∧ ∃ (w' : Wd) (ds : List D) (acc : List V), w'.K = X.K ∧ w'.H = H ∧ RS w' ∧ w'.rv = Dn :: w1.rv ∧ Lat w1 w' ∧ Bears w1 w' ∧ H Dn = some (.lst acc) ∧ Reps w' ds acc ∧ ds.length ≤ i ∧ compGo tg tt fe (evWipe env vs) (l.drop i) ds w'.st = .ok dsf stf,
    ⟨l.length, by simp, ⟨w1.K, w1.m, w1.st, upd w1.H Dn (.lst []), Dn :: w1.rv⟩, [], [], hk1, rfl, ?_, rfl, ?_, ?_, upd_same, by simp [Reps], Nat.zero_le _, by rw [List.drop_zero]; exact ef⟩, ?_⟩
  · -- the world with the new list
    have a0 : Aft w1 ⟨w1.K, w1.m, w1.st, upd w1.H Dn (.lst []), w1.rv⟩ := aft_new a1.rs hD
    refine ⟨fun i c hc => ?_, a0.rs.inj, fun x hx z => ?_, fun x hx z => ?_⟩
    · exact cell_bears (bears_res hD) (fun o q _ => same_upd hD _ _ q) (fun _ q => roL_same (same_upd hD) q) rfl (a1.rs.cells i c hc)
    · rcases List.mem_cons.mp hx with rfl | hx
      · have z : upd w1.H x (.lst []) x = none := z; rw [upd_same] at z; cases z
      · exact a0.rs.rvs x hx z
    · rcases List.mem_cons.mp hx with rfl | hx
      · exact (fz_new (w := w1) (o := .lst []) a1.rs hD).2 z
      · exact a0.rs.rvo x hx z
  · exact aft_new a1.rs hD
  · exact bears_res hD
  · rintro i m H1 ⟨hm, w', ds, acc, hk', rfl, rs', rv', lat, b', hDa, rd, hdl, eq⟩
    have hnD : ∀ x, x ∈ w1.rv → x ≠ Dn := fun x hx z => a1.rs.rvs x hx (by rw [z]; exact hD)
    have own' : ¬ Own w'.m w'.st Dn := rs'.rvo Dn (by rw [rv']; exact List.mem_cons_self ..)
    by_cases he : i = l.length
    · refine .inl ⟨by rw [he]; exact hJ.stop w' (hk'.trans hk1.symm) rs' b', ?_⟩
      rw [he, List.drop_length] at eq
      cases eq
      refine hfin ⟨w'.K, w'.m, w'.st, w'.H, w1.rv⟩ lat rfl (.ref Dn) ?_
      simp only [Rep]
      refine ⟨Dn, acc, rfl, ⟨⟨hDa, own'⟩, fun z => hnD Dn z rfl⟩, ?_, ?_⟩
      · exact (bears_rv fun x hx => by rw [rv']; exact List.mem_cons_of_mem _ hx).reps _ _ rd
      · exact Nat.le_trans hdl (by rw [he]; exact hJ.len)
    · have hlt : i < l.length := by omega
      rw [List.drop_eq_getElem_cons hlt] at eq
      obtain ⟨go, yl⟩ := hJ.step w' (hk'.trans hk1.symm) rs' b' i l[i] (by simp [hlt])
      refine .inr ⟨go, fun H' => (m - 1) + (i + 1) = l.length ∧ ∃ (w' : Wd) (ds : List D) (acc : List V), w'.K = X.K ∧ w'.H = H' ∧ RS w' ∧ w'.rv = Dn :: w1.rv ∧ Lat w1 w' ∧ Bears w1 w' ∧ H' Dn = some (.lst acc) ∧ Reps w' ds acc ∧ ds.length ≤ i + 1 ∧ compGo tg tt fe (evWipe env vs) (l.drop (i + 1)) ds w'.st = .ok dsf stf,
        fun H' hN => ⟨m - 1, by omega, hN⟩, fun x H' hx => ?_⟩
      obtain ⟨w2, a2, e2, rfl, em2, rx⟩ := yl x H' hx
      unfold compGo at eq
      cases et : tg l[i] (evWipe env vs) with
      | none => rw [et] at eq; cases eq
      | some e1 =>
        rw [et] at eq
        obtain ⟨bb, s3, eb, eq3⟩ := bind_inv eq
        have eb := noErr_ok eb
        -- after any step of the turn the list so far stands
        have keep : ∀ w3, Aft w' w3 → w3.K = X.K ∧ RS w3 ∧ w3.rv = Dn :: w1.rv ∧ Lat w1 w3 ∧ Bears w1 w3 ∧ w3.H Dn = some (.lst acc) ∧ Reps w3 ds acc := fun w3 a3 => by
          refine ⟨a3.k.trans hk', a3.rs, a3.rv.trans rv', ?_, b'.trans a3.bears, (a3.fz Dn _ ⟨hDa, own'⟩).1, a3.reps rd⟩
          refine lat.trans ⟨a3.k, rfl, ⟨fun i c hc => cell_rv (fun x hx => by rw [a3.rv, rv']; exact List.mem_cons_of_mem _ hx) (a3.rs.cells i c hc), a3.rs.inj, fun x hx => a3.rs.rvs x (by rw [a3.rv, rv']; exact List.mem_cons_of_mem _ hx), fun x hx => a3.rs.rvo x (by rw [a3.rv, rv']; exact List.mem_cons_of_mem _ hx)⟩, a3.ext, a3.len, a3.tup, a3.fz⟩
        refine ht w2 (evWipe env vs) (wipe σ vs) l[i] x e1 _ (a2.k.trans hk') ?_ rx et fun σ2 n2 hw2 => ?_
        · have nb : REnv w' (evWipe env vs) (wipe σ vs) := ⟨((n.after a1).wipe vs).len, fun j d ej => let ⟨v, e1, rv⟩ := ((n.after a1).wipe vs).at_ j d ej; ⟨v, e1, b'.rep _ _ rv⟩⟩
          exact nb.after a2
        · refine ⟨by rw [hw2 vs hv, wipe_wipe], ?_⟩
          refine ⟨w2, e1, a2.k.trans hk', rfl, a2.rs, n2, wp_nov (by rw [e2]; exact eb) fun w3 a3 e3 => ?_⟩
          cases bb with
          | false =>
            refine iteF ⟨by omega, w3, ds, acc, ?_⟩
            obtain ⟨k1, k2, k3, k4, k5, k6, k7⟩ := keep w3 (a2.trans a3)
            exact ⟨k1, rfl, k2, k3, k4, k5, k6, k7, by omega, by rw [e3]; exact eq3⟩
          | true =>
            obtain ⟨y, s4, ey, eq4⟩ := bind_inv eq3
            have ey := noErr_ok ey
            refine iteT ⟨w3, e1, a3.k.trans (a2.k.trans hk'), rfl, a3.rs, n2.after a3, wp_nov (by rw [e3]; exact ey) fun w4 a4 e4 v rv => ?_⟩
            obtain ⟨k1, k2, k3, k4, k5, k6, k7⟩ := keep w4 ((a2.trans a3).trans a4)
            have own4 : ¬ Own w4.m w4.st Dn := k2.rvo Dn (by rw [k3]; exact List.mem_cons_self ..)
            refine ⟨acc, k6, by rw [reps_len k7]; exact Nat.lt_of_le_of_lt hdl (Nat.lt_of_lt_of_le hlt hJ.len), by omega, ⟨w4.K, w4.m, w4.st, upd w4.H Dn (.lst (acc ++ [v])), w4.rv⟩, ds ++ [y], acc ++ [v], k1, rfl, ?_⟩
            -- the write at the reserved address
            have up : ∀ b u, b ≠ Dn → w4.H b = some u → upd w4.H Dn (.lst (acc ++ [v])) b = some u := fun b u hb q => by rw [upd_ne hb]; exact q
            have tupk : ∀ a xs, SqT w4.K w4.H a xs → SqT w4.K (upd w4.H Dn (.lst (acc ++ [v]))) a xs := fun a xs q => by
              rcases q with (q | ⟨o, q⟩) | q
              · exact .inl (.inl (up _ _ (ne_of q k6 (by intro z; cases z)) q))
              · exact .inl (.inr ⟨o, up _ _ (ne_of q k6 (by intro z; cases z)) q⟩)
              · exact .inr q
            have bW : Bears w4 ⟨w4.K, w4.m, w4.st, upd w4.H Dn (.lst (acc ++ [v])), w4.rv⟩ := ⟨fun _ _ => rfl, Nat.le_refl _, tupk, fun x o q => ⟨⟨up _ _ (fun z => q.2 (by rw [z, k3]; exact List.mem_cons_self ..)) q.1.1, q.1.2⟩, q.2⟩, rfl⟩
            have cellk : ∀ i c, w4.st[i]? = some c → CellOk ⟨w4.K, w4.m, w4.st, upd w4.H Dn (.lst (acc ++ [v])), w4.rv⟩ (w4.m i) c := fun i c hc => by
              have q := k2.cells i c hc
              by_cases lv : c.live
              · have hne : w4.m i ≠ Dn := fun z => own4 ⟨i, c, hc, lv, z⟩
                exact cell_bears bW (fun o q _ => up _ _ hne q) (fun xs q => by
                  rcases q with ⟨u, q⟩ | q
                  · exact .inl ⟨u, up _ _ hne q⟩
                  · exact .inr q) rfl q
              · cases c with
                | ro l' =>
                  obtain ⟨xs, q1, q2, q3⟩ := q
                  refine ⟨xs, ?_, bW.reps _ _ q2, q3⟩
                  rcases q1 with ⟨u, q1⟩ | q1
                  · exact .inl ⟨u, up _ _ (ne_of q1 k6 (by intro z; cases z)) q1⟩
                  · exact .inr q1
                | dead => trivial
                | _ => exact absurd trivial lv
            have rsW : RS ⟨w4.K, w4.m, w4.st, upd w4.H Dn (.lst (acc ++ [v])), w4.rv⟩ := ⟨cellk, k2.inj, fun x hx z => by
                by_cases hxD : x = Dn
                · subst hxD; have z : upd w4.H x (.lst (acc ++ [v])) x = none := z; rw [upd_same] at z; cases z
                · have z : upd w4.H Dn (.lst (acc ++ [v])) x = none := z; rw [upd_ne hxD] at z; exact k2.rvs x hx z, k2.rvo⟩
            refine ⟨rsW, k3, ?_, k5.trans bW, upd_same, ?_, by rw [List.length_append]; simp; omega, by rw [e4]; exact eq4⟩
            · -- up to the reserved address all is later
              refine ⟨k4.k, rfl, ⟨fun i c hc => cell_rv (w := ⟨w4.K, w4.m, w4.st, upd w4.H Dn (.lst (acc ++ [v])), w4.rv⟩) (fun x hx => by show x ∈ w4.rv; rw [k3]; exact List.mem_cons_of_mem _ hx) (cellk i c hc), k2.inj, fun x hx z => ?_, fun x hx => k2.rvo x (by rw [k3]; exact List.mem_cons_of_mem _ hx)⟩, k4.ext, k4.len, fun a xs q => tupk a xs (k4.tup a xs q), fun x o q => ?_⟩
              · have z : upd w4.H Dn (.lst (acc ++ [v])) x = none := z
                rw [upd_ne (hnD x hx)] at z
                exact k2.rvs x (by rw [k3]; exact List.mem_cons_of_mem _ hx) z
              · have q' := k4.fz x o q
                exact ⟨up _ _ (fun z => by rw [z] at q; exact absurd (q.1.symm.trans hD) (by simp)) q'.1, q'.2⟩
            · exact reps_app (bW.reps _ _ k7) (by simp only [Reps]; exact ⟨v, [], rfl, bW.rep _ _ rv, rfl⟩)
/-- the block in which a comprehension runs -/
def Blk (X : Cx) (scope : Scope) (P : Cx → Prop) : Prop := ∀ (s : Shared) (H : Hp) (C : Addr) (cl : List (Str × Addr)) (fp : List Addr), P (X.blk s H scope (compEnvC scope cl C X.env) fp)
abbrev W0 : XW := fun _ _ _ => False
theorem de_comp {elt tgt iter : Expr} {scope : Scope} {own : List (Str × Nat)} {t : TG} {tg : D → Ev → Option Ev} {is : List Nat} {fi : Ev → M (List D)} {fe : Ev → M D} (hc : X.calm = true) (hN : X.N.Nodup) (hi : DI X W tgt iter fi) (ok : BlkOk X.N X.env.scope scope own)
    (hg : Blk X scope fun X' => PG X' tgt t) (ht : TgOk X.K t tg is) (hv : ∀ i ∈ is, i ∈ own.map (·.2)) (he : Blk X scope fun X' => DE X' W0 elt fe) (hs : ∀ x, foldedSetIterable iter X.env x = pure x := by intro _; rfl) :
    DE X W (.ListComp elt [⟨tgt, iter, [], 0⟩] scope pos) (eComp (own.map (·.2)) fi tg (fun _ => pure true) fe) := by
  refine PE.imp' (pe_lc (tt := rdT X.K W0 fun _ => pure true) (te := rdE X.K W0 fe) hc hN hi ok hg (fun s H C cl fp => ?_) he hs) fun _ _ _ h => comp_rd ht hv h
  exact ⟨fun pins s σ H Q I h => pts_nil.run pins s σ H Q I (by
    obtain ⟨w, env, hk, rfl, r, n, h⟩ := h
    exact Wp.ok_ (a := true) r h)⟩
theorem de_compIf {elt tgt iter cond : Expr} {scope : Scope} {own : List (Str × Nat)} {t : TG} {tg : D → Ev → Option Ev} {is : List Nat} {fi : Ev → M (List D)} {tt : Ev → M Bool} {fe : Ev → M D} (hc : X.calm = true) (hN : X.N.Nodup) (hi : DI X W tgt iter fi) (ok : BlkOk X.N X.env.scope scope own)
    (hg : Blk X scope fun X' => PG X' tgt t) (ht : TgOk X.K t tg is) (hv : ∀ i ∈ is, i ∈ own.map (·.2)) (hif : Blk X scope fun X' => DT X' W0 cond tt) (he : Blk X scope fun X' => DE X' W0 elt fe) (hs : ∀ x, foldedSetIterable iter X.env x = pure x := by intro _; rfl) :
    DE X W (.ListComp elt [⟨tgt, iter, [cond], 0⟩] scope pos) (eComp (own.map (·.2)) fi tg tt fe) := by
  exact PE.imp' (pe_lc (tt := rdT X.K W0 tt) (te := rdE X.K W0 fe) hc hN hi ok hg (fun s H C cl fp => pts_one (hif s H C cl fp)) he hs) fun _ _ _ h => comp_rd ht hv h
theorem ds_setComp (i : Nat) {y : Str} {py spos : Pos} {elt tgt iter : Expr} {scope : Scope} {own : List (Str × Nat)} {t : TG} {tg : D → Ev → Option Ev} {is : List Nat} {fi : Ev → M (List D)} {fe : Ev → M D} (hc : X.calm = true) (hN : X.N.Nodup) (hy : X.N[i]? = some y) (hyl : X.env.scope.names.lookup y = some .local)
    (hsw : swapsWith (.ListComp elt [⟨tgt, iter, [], 0⟩] scope pos) (some (.Name y py)) spos.line X.env = pure true) (hi : DI X W tgt iter fi) (ok : BlkOk X.N X.env.scope scope own)
    (hg : Blk X scope fun X' => PG X' tgt t) (ht : TgOk X.K t tg is) (hv : ∀ i ∈ is, i ∈ own.map (·.2)) (he : Blk X scope fun X' => DE X' W0 elt fe) (hs : ∀ x, foldedSetIterable iter X.env x = pure x := by intro _; rfl) :
    DS X W (.Assign [.Name y py] (.ListComp elt [⟨tgt, iter, [], 0⟩] scope pos) spos) (sAsg i (eComp (own.map (·.2)) fi tg (fun _ => pure true) fe)) := by
  refine PS.imp' (ps_setLc (tt := rdT X.K W0 fun _ => pure true) (te := rdE X.K W0 fe) hc hN hy hyl hsw hi ok hg (fun s H C cl fp => ?_) he hs) fun D' σ H h => ?_
  · exact ⟨fun pins s σ H Q I h => pts_nil.run pins s σ H Q I (by
      obtain ⟨w, env, hk, rfl, r, n, h⟩ := h
      exact Wp.ok_ (a := true) r h)⟩
  · exact comp_rd ht hv (asg_rd h)
theorem ds_setCompIf (i : Nat) {y : Str} {py spos : Pos} {elt tgt iter cond : Expr} {scope : Scope} {own : List (Str × Nat)} {t : TG} {tg : D → Ev → Option Ev} {is : List Nat} {fi : Ev → M (List D)} {tt : Ev → M Bool} {fe : Ev → M D} (hc : X.calm = true) (hN : X.N.Nodup) (hy : X.N[i]? = some y) (hyl : X.env.scope.names.lookup y = some .local)
    (hsw : swapsWith (.ListComp elt [⟨tgt, iter, [cond], 0⟩] scope pos) (some (.Name y py)) spos.line X.env = pure true) (hi : DI X W tgt iter fi) (ok : BlkOk X.N X.env.scope scope own)
    (hg : Blk X scope fun X' => PG X' tgt t) (ht : TgOk X.K t tg is) (hv : ∀ i ∈ is, i ∈ own.map (·.2)) (hif : Blk X scope fun X' => DT X' W0 cond tt) (he : Blk X scope fun X' => DE X' W0 elt fe) (hs : ∀ x, foldedSetIterable iter X.env x = pure x := by intro _; rfl) :
    DS X W (.Assign [.Name y py] (.ListComp elt [⟨tgt, iter, [cond], 0⟩] scope pos) spos) (sAsg i (eComp (own.map (·.2)) fi tg tt fe)) :=
  PS.imp' (ps_setLc (tt := rdT X.K W0 tt) (te := rdE X.K W0 fe) hc hN hy hyl hsw hi ok hg (fun s H C cl fp => pts_one (hif s H C cl fp)) he hs) fun D' σ H h => comp_rd ht hv (asg_rd h)
end
end G
end

section
set_option Elab.async false
set_option linter.all false
set_option autoImplicit false
set_option maxRecDepth 100000
set_option maxHeartbeats 1000000
namespace G
open PySem PySem.Spec PyProof.Rows L2
/-! ## defs: their promises where no repr is under way -/
section
variable {P : Program} {w : World} {K : PySem.W.Frag} {mg : Str → Option Value} {base : Heap}
structure FnG (P : Program) (w : World) (K : PySem.W.Frag) (mg : Str → Option Value) (base : Heap) (k : Nat) (f : Addr) (fd : FuncData) (ps : List Str) (sp : Sp) : Prop where
  len : ∀ vs H Q E, sp vs H Q E → vs.length = ps.length
  run : ∀ (A : Around) (outer : List Env) (s : Shared) (H : Hp) (args : Args) (us : List Value) (vs : List V) (Q : VK) (E : XK), A.guards = some [] → Room k A → Env0 P w K mg base A outer s H →
    BindsTo s fd args (ps.zip us) → Vals vs us → sp vs H Q E → codeAny (model P w) A (.call (.ref f) args) (CR (L2N.CX P w) outer P w H s Q E) s
theorem FnG.mono {j k : Nat} {f : Addr} {fd : FuncData} {ps : List Str} {sp : Sp} (F : FnG P w K mg base j f fd ps sp) (h : j ≤ k) : FnG P w K mg base k f fd ps sp :=
  ⟨F.len, fun A outer s H args us vs Q E g hr => F.run A outer s H args us vs Q E g (hr.mono h)⟩
/-- a def by its body -/
theorem fng_of {k : Nat} {x qual : Str} {params : Arguments} {body : List Stmt} {scope : Scope} {f : Addr} {fd : FuncData} {N ps : List Str} {sp : Sp} (FD : FunD K x qual params body scope [] [] f fd) (S : FnScope N ps scope)
    (len : ∀ vs H Q E, sp vs H Q E → vs.length = ps.length)
    (hbody : ∀ (cdv : Value) (A : Around) (outer : List Env) (s : Shared) (H : Hp) (vs : List V) (Q : VK) (E : XK), A.guards = some [] → Room k (A.deeper (envOfC qual scope s.heap.objs.size f cdv)) → sp vs H Q E →
      ∃ t, PSs (cxOf (L2N.CX P w) P w K mg base N qual scope f cdv A outer s H E) body t ∧ t { nx := fun _ H' => Q .non H', rt := Q } (L2.start N vs) H) : FnG P w K mg base (k + 1) f fd ps sp := by
  obtain ⟨oc, od, dV, kV, doc, pm, an, cdv, ct, osl, rfl, lk, hcd, _, _⟩ := FD.ex
  refine ⟨len, ?_⟩
  intro A outer s H args us vs Q E gd rm env0 bind rel hsp
  have hl := len vs H Q E hsp
  have kin : K.In s.heap := env0.mod.kin.keeps (fun b o z => (env0.bs b o z).1)
  have nolim : s.heap.NoLimit := env0.mod.nolimit.keeps (fun b o z => (env0.bs b o z).1)
  have kinds : ∀ y ∈ ps.zip us, scope.names.lookup y.1 = some .local ∨ (scope.names.lookup y.1 = some .cell ∧ ((cellsFrom (s.heap.objs.size + 1) scope.names []).lookup y.1).isSome = true) := by
    rintro ⟨n, v⟩ hy
    cases S.par n (List.of_mem_zip hy).1 with
    | inl q => exact Or.inl q
    | inr q => exact Or.inr ⟨q, PySem.W.cellsFrom_some _ _ _ (Or.inl q)⟩
  refine codeAny_call_function rm.depth (kin _ _ lk) rfl S.co S.gen rfl (PySem.W.codeRec_of kin hcd) (bind _ _ _ _ (wpAny_newFunctionEnv_cells S.kind kinds ?_))
  intro env he s1 x1
  subst he
  refine ⟨nolim.keeps x1.toInCall.keep, codeAny_func ?_⟩
  obtain ⟨t, der, rd⟩ := hbody cdv A outer s H vs Q E gd (rm.deeper _) hsp
  have I0 : Inv (cxOf (L2N.CX P w) P w K mg base N qual scope f cdv A outer s H E) [] (L2.start N vs) H s1 := inv_start S rm.hd env0 hl rel x1
  refine wpAny_mono (der.run [] s1 (L2.start N vs) H _ I0 rd) ?_ (fun _ _ z => z)
  intro fl s' z
  cases fl with
  | ret u =>
    obtain ⟨v, σ', H', J, rv, q⟩ := z
    exact ⟨v, H', J.os, J.bare, J.base, J.hok, rv, q⟩
  | next =>
    obtain ⟨σ', H', J, q⟩ := z
    exact ⟨V.non, H', J.os, J.bare, J.base, J.hok, rfl, q⟩
  | brk => obtain ⟨_, _, _, q⟩ := z; exact q.elim
  | cont => obtain ⟨_, _, _, q⟩ := z; exact q.elim
/-- the promise: it computes F -/
def spM (K : PySem.W.Frag) (n : Nat) (F : List D → M D) : Sp := fun vs H Q E => ∃ (w : Wd) (ds : List D), w.K = K ∧ w.H = H ∧ RS w ∧ Reps w ds vs ∧ ds.length = n ∧
  Wp w (F ds w.st) (fun d w' => ∀ v, Rep w' d v → Q v w'.H) (fun c w' => E (.ref (He.ga K c)) none w'.H)
def FnM (P : Program) (w : World) (K : PySem.W.Frag) (mg : Str → Option Value) (base : Heap) (k : Nat) (f : Addr) (fd : FuncData) (ps : List Str) (F : List D → M D) : Prop := FnG P w K mg base k f fd ps (spM K ps.length F)
def throwM {α : Type} (c : Str) : M α := fun st => .err c st
def runF (n : Nat) (g : Ev → M Fl) : List D → M D := fun ds => do
  let fl ← noErr (g (ds.map some ++ List.replicate (n - ds.length) none))
  match fl with
  | .ret d => pure d
  | .nx _ => pure .non
  | .exc c _ => throwM c
  | _ => M.stuck
theorem env_start {w : Wd} : ∀ {ds : List D} {vs : List V} (n : Nat), Reps w ds vs → REnv w (ds.map some ++ List.replicate n none) (vs.map some ++ List.replicate n none) := by
  intro ds vs n h
  refine ⟨by simp [reps_len h], fun i d e => ?_⟩
  by_cases hi : i < ds.length
  · rw [List.getElem?_append_left (by simpa using hi), List.getElem?_map] at e
    cases q : ds[i]? with
    | none => rw [q] at e; cases e
    | some d' =>
      rw [q] at e
      cases e
      obtain ⟨x, ex, rx⟩ := reps_at h q
      refine ⟨x, ?_, rx⟩
      rw [List.getElem?_append_left (by simpa [reps_len h] using hi), List.getElem?_map, ex]
      rfl
  · rw [List.getElem?_append_right (by simpa using hi), List.getElem?_replicate] at e
    split at e <;> cases e
theorem noErr_wp {α : Type} {w : Wd} {x : M α} {P : α → Wd → Prop} {V' : Str → Wd → Prop} (h : Wp w (noErr x w.st) P V') : Wp w (x w.st) P nov := by
  unfold noErr at h
  cases e : x w.st with
  | ok a st' => rw [e] at h; exact h
  | err c st' => rw [e] at h; exact h.elim
  | bad => rw [e] at h; exact h
/-- the wish of a def about exceptions -/
abbrev wE (K : PySem.W.Frag) (E : XK) : XW := fun c _ H => E (.ref (He.ga K c)) none H
theorem fnm_of {k : Nat} {x qual : Str} {params : Arguments} {body : List Stmt} {scope : Scope} {f : Addr} {fd : FuncData} {N ps : List Str} {g : Ev → M Fl} (FD : FunD K x qual params body scope [] [] f fd) (S : FnScope N ps scope) (hN : ps.length ≤ N.length)
    (hb : ∀ (cdv : Value) (A : Around) (outer : List Env) (s : Shared) (H : Hp) (E : XK), A.guards = some [] → Room k (A.deeper (envOfC qual scope s.heap.objs.size f cdv)) →
      DSs (cxOf (L2N.CX P w) P w K mg base N qual scope f cdv A outer s H E) (wE K E) body g) : FnM P w K mg base (k + 1) f fd ps (runF N.length g) := by
  refine fng_of FD S (fun vs H Q E h => ?_) fun cdv A outer s H vs Q E gd hr h => ⟨_, hb cdv A outer s H E gd hr, ?_⟩
  · obtain ⟨w', ds, _, _, _, r, hl, _⟩ := h
    rw [reps_len r]; exact hl
  · obtain ⟨w', ds, hk, rfl, rs, r, hl, h⟩ := h
    refine ⟨w', ds.map some ++ List.replicate (N.length - ds.length) none, hk, rfl, rs, ?_, (noErr_wp (Wp.bind h)).imp fun fl w1 a1 h1 => ?_⟩
    · have := env_start (w := w') (N.length - ds.length) r
      unfold L2.start
      rw [reps_len r]
      exact this
    · cases fl with
      | ret d => exact Wp.ok_ (a := d) a1.rs h1
      | nx e => exact fun σ _ => Wp.ok_ (a := D.non) a1.rs h1 _ rep_non
      | brk e => exact h1.elim
      | ct e => exact h1.elim
      | exc c e => exact fun σ _ => h1 w1 (.refl a1.rs) rfl
end
/-! ## calls -/
section
variable {X : Cx} {W : XW} {e a b c : Expr} {pos p : Pos} {fa fb fc : Ev → M D} {k : Nat} {f : Addr} {fd : FuncData} {ps : List Str} {x : Str} {es : List Expr}
/-- the wishes in the layer's own words -/
abbrev wX (K : PySem.W.Frag) (Wx : WX) : XW := fun c σ H => Wx (.ref (He.ga K c)) none σ H
theorem run_fng {pins : List (Addr × Obj)} {σ : L2.St} {H : Hp} {s : Shared} {Q : VK} {us : List Value} {vs : List V} {sp : Sp} {Wx : WX} (F : FnG X.prog X.w X.K X.mg X.base k f fd ps sp) (hg : X.A.guards = some []) (hr : Room k X.A) (hb : Binds X.K fd ps []) (tk : L2N.Takes X Wx)
    (I : Inv X pins σ H s) (r : Vals vs us) (h : sp vs H Q (fun cls d H' => Wx cls d σ H')) : wpAny (model X.prog X.w) X.A (call (.ref f) us) (EP X pins σ Q) X.xe s := by
  have e1 : us.length = ps.length := r.length.symm.trans (F.len _ _ _ _ h)
  have e2 := hb s us I.kIn (by rw [List.append_nil]; exact e1)
  rw [List.append_nil] at e2
  refine wpAny_call (codeAny_mono (F.run X.A X.stack s H ⟨us, []⟩ us vs Q _ hg hr I.env0 e2 r h) ?_)
  intro res s' z
  cases res with
  | error ev => exact L2N.passAt tk σ pins H s ev s' I z
  | ok fl =>
    cases fl with
    | ret u => exact I.after z
    | next => exact z.elim
    | brk => exact z.elim
    | cont => exact z.elim
def eCall (F : List D → M D) (fs : List (Ev → M D)) : Ev → M D := fun env => do
  let ds ← aSeq fs env
  F ds
/-- f(e, ..) of a def that computes F -/
theorem de_call {F : List D → M D} {fs : List (Ev → M D)} {Wx : WX} (FN : FnM X.prog X.w X.K X.mg X.base k f fd ps F) (hgd : X.A.guards = some []) (hr : Room k X.A) (tk : L2N.Takes X Wx) (hW : W = wX X.K Wx) (hg : Gl X x) (hm : X.mg x = some (.ref f)) (hk : PySem.W.keepIn X.K (.ref f) = true) (hb : Binds X.K fd ps [])
    (ha : DA X W (e :: es) fs) (hl : fs.length = ps.length := by rfl) (hdb : (x == ("__debug__" : Str)) = false := by decide) (he : starEach (e :: es) X.env = (false, eval e X.env) :: starEach es X.env := by rfl) (hpl : (backTo pos (starEach es X.env)).any (·.1) = false := by rfl) :
    DE X W (.Call (.Name x p) (e :: es) [] pos) (eCall F fs) := by
  refine ⟨fun pins s σ H Q I h => ?_⟩
  obtain ⟨w, env, ek, rfl, r, n, h⟩ := h
  have h1 := wp_seq (Wp.bind h)
  refine wpAny_Call_Name_kw (ld_glob I hg hm ?_ hdb)
  refine PySem.W.callWith_K (h₀ := X.base) I.ok.mod.kin hk (thn (ha.run pos pins s σ w.H (fun vs H1 => spM X.K ps.length F vs H1 Q (fun cls d H' => Wx cls d σ H')) I ⟨w, env, ek, rfl, r, n, h1.imp fun ds w1 a1 h2 vs rv => ?_⟩) fun us s1 z => ?_) he hpl
  · refine ⟨w1, ds, a1.k.trans ek, rfl, a1.rs, rv, h2.1.trans hl, h2.2.mono (fun _ _ _ q => q) fun c w2 a2 q => ?_⟩
    rw [hW] at q
    exact q
  · obtain ⟨vs, H1, I1, r1, q1⟩ := z
    exact ⟨I1.kIn, run_fng FN hgd hr hb tk I1 r1 q1⟩
theorem de_call0 {F : List D → M D} {Wx : WX} (FN : FnM X.prog X.w X.K X.mg X.base k f fd [] F) (hgd : X.A.guards = some []) (hr : Room k X.A) (tk : L2N.Takes X Wx) (hW : W = wX X.K Wx) (hg : Gl X x) (hm : X.mg x = some (.ref f)) (hk : PySem.W.keepIn X.K (.ref f) = true) (hb : Binds X.K fd [] [])
    (hdb : (x == ("__debug__" : Str)) = false := by decide) : DE X W (.Call (.Name x p) [] [] pos) (eCall F []) := by
  refine ⟨fun pins s σ H Q I h => ?_⟩
  obtain ⟨w, env, ek, rfl, r, n, h⟩ := h
  refine wpAny_Call_Name_kw (ld_glob I hg hm ?_ hdb)
  refine PySem.W.callWith_K0 I.kIn hk (run_fng (us := []) (vs := []) FN hgd hr hb tk I .nil ⟨w, [], ek, rfl, r, rfl, rfl, Wp.mono (Wp.ok_ (P := fun ds w1 => Wp w1 (F ds w1.st) _ _) (a := ([] : List D)) r (Wp.bind h)) (fun _ _ _ q => q) fun c w2 a2 q => ?_⟩)
  rw [hW] at q
  exact q
end
/-! ## the law's call -/
section
variable {P : Program} {w : World} {K : PySem.W.Frag} {mg mb : Str → Option Value}
theorem law_callG {k : Nat} {fa a : Addr} {fd : FuncData} {x : Str} {sp : Sp} {s₁ : Shared} {vs : List Value} {ns : List Int} (kin : K.In s₁.heap) (gns : s₁.heap.Ns mainGlobals mg) (bns : s₁.heap.Ns builtinsNs mb) (bbt : ∀ x : Str, x ≠ "__name__" → mb x = bootBuiltins x) (lim : s₁.heap.NoLimit)
    (gen0 : s₁.gens = #[]) (scr : s₁.heap.get? a = some { cls := .type "list", data := .seq vs.toArray }) (itsI : IntsAre vs ns) (short : ns.length ≤ sizeLine) (rm : Room k callerA) (F : ∀ base : Heap, K.In base → base.Ns mainGlobals mg → FnG P w K mg base k fa fd [x] sp)
    (bind : ∀ (s : Shared) (u : Value), BindsTo s fd ⟨[u], []⟩ [(x, u)]) (hsp : ∀ H : Hp, RoL K H a (ns.map V.int) → sp [.ref a] H (fun v _ => v = .bl true) fun _ _ _ => False) :
    codeAny (model P w) callerA (.call (.ref fa) ⟨[.ref a], []⟩) (fun r s' => r = .ok (.ret (.bool true)) ∧ OldK s₁.heap s'.heap ∧ s'.os = s₁.os ∧ AllBare s'.gens) s₁ := by
  have rv : Vals (ns.map V.int) vs := vals_ints itsI
  have lv : vs.length = ns.length := itsI.length
  have main : ∀ H : Hp, RoL K H a (ns.map V.int) → HOk P w H s₁.heap → (∀ b u, H b = some u → b = a ∧ K.lookup a = none ∧ ∃ ob xs, u = .frz ob (.lst xs)) →
      codeAny (model P w) callerA (.call (.ref fa) ⟨[.ref a], []⟩) (fun r s' => r = .ok (.ret (.bool true)) ∧ OldK s₁.heap s'.heap ∧ s'.os = s₁.os ∧ AllBare s'.gens) s₁ := by
    intro H hR hok only
    have hid : ∀ {b : Addr} {o : Obj}, s₁.heap.get? b = some o → H b = none → (hidT s₁.heap H).get? b = some o := fun z n => hidT_get z n
    have dict0 : ∀ {b : Addr} {o : Obj} {es : Array DictEntry} {ep : Nat}, s₁.heap.get? b = some o → o.data = .dict es ep → H b = none := by
      intro b o es ep z d
      cases q : H b with
      | none => rfl
      | some u =>
        obtain ⟨rfl, _⟩ := only b u q
        rw [scr] at z
        cases z
        exact absurd d (by intro z; cases z)
    have nsH : ∀ {b : Addr} {m : Str → Option Value}, s₁.heap.Ns b m → (hidT s₁.heap H).Ns b m := by
      rintro b m ⟨o, es, ep, z, d, r⟩
      exact ⟨o, es, ep, hid z (dict0 z d), d, r⟩
    have kinH : K.In (hidT s₁.heap H) := by
      intro b o z
      refine hid (kin b o z) ?_
      cases q : H b with
      | none => rfl
      | some u =>
        obtain ⟨rfl, z2, _⟩ := only b u q
        rw [z2] at z
        cases z
    obtain ⟨mc, l1, l2⟩ := lim
    have md : Mod K mg (hidT s₁.heap H) := ⟨kinH, nsH gns, ⟨mb, nsH bns, bbt⟩, ⟨mc, nsH l1, l2⟩⟩
    have ev : Env0 P w K mg (hidT s₁.heap H) callerA [] s₁ H := ⟨rfl, md, fun b o z => of_hidT z, Nat.le_of_eq (hidT_size _ _), trivial, fun b z => absurd (show b ∈ ([] : List Addr) from z) (by simp), hok, .of_eq gen0⟩
    refine codeAny_mono ((F _ kinH (nsH gns)).run callerA [] s₁ H ⟨[.ref a], []⟩ [.ref a] [.ref a] _ _ rfl rm ev (bind s₁ (.ref a)) (.cons rfl .nil) (hsp H hR)) ?_
    intro res s' z
    cases res with
    | error e =>
      obtain ⟨_, _, _, _, _, _, _, _, _, _, _, _, y⟩ := z
      exact y.elim
    | ok fl =>
      cases fl with
      | next => exact z.elim
      | brk => exact z.elim
      | cont => exact z.elim
      | ret u =>
        obtain ⟨v, H', eos, eb, un, hok', rel, q⟩ := z
        have q : v = .bl true := q
        subst q
        cases (show u = Value.bool true from rel)
        refine ⟨rfl, OldK.of_keep ?_, eos, eb⟩
        intro b o y
        cases qb : H b with
        | none => exact un.keep b o y qb (fun t => absurd (show b ∈ ([] : List Addr) from t) (by simp)) (by simp)
        | some u =>
          obtain ⟨_, _, ob, xs, rfl⟩ := only b u qb
          have y2 := un.frzs b ob _ qb
          have y3 := (hok b _ qb).1
          have y4 := (hok' b _ y2).1
          rw [y] at y3
          cases y3
          exact y4
  cases hk : K.lookup a with
  | some o =>
    have z := kin a o hk
    rw [scr] at z
    cases z
    refine main (fun _ => none) (.inr ⟨_, vs.toArray, _, hk, rfl, rfl, rfl, ?_, by simpa using rv⟩) (fun b u z => nomatch z) (fun b u z => nomatch z)
    rw [List.size_toArray, lv]; exact short
  | none =>
    refine main (fun b => if b = a then some (.frz { cls := .type "list", data := .seq vs.toArray } (.lst (ns.map V.int))) else none) (.inl ⟨{ cls := .type "list", data := .seq vs.toArray }, if_pos rfl⟩) ?_ ?_
    · intro b u z
      by_cases hb : b = a
      · have z := (if_pos hb).symm.trans z
        cases z
        rw [hb]
        exact ⟨scr, by rw [List.length_map]; exact short, vs, _, rv, scr⟩
      · have z := (if_neg hb).symm.trans z
        cases z
    · intro b u z
      by_cases hb : b = a
      · have z := (if_pos hb).symm.trans z
        cases z
        exact ⟨hb, hk, _, _, rfl⟩
      · have z := (if_neg hb).symm.trans z
        cases z
/-- the law's def computes F, and F tells True of every script -/
theorem walkG {l : PySem.W.OpenLaw} {k : Nat} {q : Program} {loose : List Str} {XP : (Str → Option Value) → Heap → Prop} {YP : World → Heap → Prop} {d : DefRec} {x : Str} {F : List D → M D} (hn : l.most = some 63) (hdf : d.params.defaults = []) (rm : Room k callerA)
    (FN : ∀ (w : World) (mg : Str → Option Value) (fa : Addr) (h : Heap), YP w h → h.Ns mainGlobals mg → mg d.name = some (.ref fa) → ∃ (K : PySem.W.Frag) (fd : FuncData), K.In h ∧ (∀ (s : Shared) (u : Value), BindsTo s fd ⟨[u], []⟩ [(x, u)]) ∧
      ∀ base : Heap, K.In base → base.Ns mainGlobals mg → FnM l.prog w K mg base k fa fd [x] F)
    (true_ : ∀ ns : List Int, ns.length ≤ 63 → (∀ z ∈ ns, Builtin.Int.intBits z ≤ 1048576) → ∃ st', F [.cell 0] [.ro (ns.map D.int)] = .ok (.bl true) st') : PySem.W.WalkO q loose XP YP l.row.toRowW d [] (fun f vs => PySem.call f vs) := by
  refine Att.attach_callB hn hdf ?_
  intro w s₀ s₁ mg mb fa o pm cd doc a vs ns Gr Y ho hd hcd hmg hobj hints hlen hbits hg
  obtain ⟨K, fd, kin, hb, hF⟩ := FN w mg fa _ Y Gr.T.g hmg
  have sh : ns.length ≤ sizeLine := Nat.le_trans hlen (by decide)
  refine law_callG kin Gr.T.g Gr.T.b Gr.T.builtins Gr.T.nolimit hg hobj hints sh rm hF hb ?_
  intro H hR
  obtain ⟨st', e⟩ := true_ ns hlen hbits
  have reps : ∀ (w : Wd) (ms : List Int), Reps w (ms.map D.int) (ms.map V.int) := by
    intro w ms
    induction ms with
    | nil => simp [Reps]
    | cons m r ih => simp only [List.map_cons, Reps]; exact ⟨_, _, rfl, rep_int m, ih⟩
  refine ⟨⟨K, fun _ => a, [.ro (ns.map D.int)], H, []⟩, [.cell 0], rfl, rfl, ⟨fun i c h => ?_, fun i j c c' h h' l => ?_, fun x hx => absurd hx (by simp), fun x hx => absurd hx (by simp)⟩, ?_, rfl, ?_⟩
  · cases i with
    | zero => cases h; exact ⟨ns.map V.int, hR, reps _ _, by rw [List.length_map]; exact sh⟩
    | succ i => simp at h
  · cases i with
    | zero => cases h; exact l.elim
    | succ i => simp at h
  · simp only [Reps, Rep]
    exact ⟨.ref a, [], rfl, ⟨rfl, by simp⟩, rfl⟩
  · have e : F [.cell 0] [Cell.ro (ns.map D.int)] = .ok (.bl true) st' := e
    show Wp _ (F [.cell 0] [Cell.ro (ns.map D.int)]) _ _
    rw [e]
    intro w' a' e' v rv
    simp only [Rep] at rv
    exact rv
end
end G
end

section
set_option Elab.async false
set_option linter.all false
set_option autoImplicit false
set_option maxRecDepth 100000
set_option maxHeartbeats 1000000
namespace G
open PySem PySem.Spec PyProof.Rows L2
section
variable {X : Cx} {W : XW} {e a b c : Expr} {s : Stmt} {ss : List Stmt} {pos : Pos} {fa fb fc : Ev → M D} {g g' : Ev → M Fl}
/-! ## targets that store -/
def rdG (K : PySem.W.Frag) (W : XW) (tg : D → Ev → M Ev) : TG := fun v σ H Q => ∃ (w : Wd) (env : Ev) (d : D), w.K = K ∧ w.H = H ∧ RS w ∧ REnv w env σ ∧ Rep w d v ∧ Wp w (tg d env w.st) (fun env' w' => ∀ σ', REnv w' env' σ' → Q σ' w'.H) (fun c w' => W c σ w'.H)
def DG (X : Cx) (W : XW) (t : Expr) (tg : D → Ev → M Ev) : Prop := PG X t (rdG X.K W tg)
theorem PG.imp' {t : Expr} {r r' : TG} (h : PG X t r) (k : ∀ v σ H Q, r' v σ H Q → r v σ H Q) : PG X t r' := ⟨fun pins s σ H v u Q I rv z => h.run pins s σ H v u Q I rv (k _ _ _ _ z)⟩
def gtName (i : Nat) : D → Ev → M Ev := fun d env => pure (env.set i (some d))
theorem dg_name (i : Nat) {x : Str} (hN : X.N.Nodup) (hi : X.N[i]? = some x) (hx : Loc X.env.scope x) (hf : X.fn x = true ∨ X.env.scope.names.lookup x = some .local := by first | exact .inl rfl | exact .inr rfl) : DG X W (.Name x pos) (gtName i) := PG.imp' (pg_name hN hi hx hf) fun v σ H Q h => by
  obtain ⟨w, env, d, hk, rfl, r, n, rv, h⟩ := h
  exact Wp.ok_ (a := env.set i (some d)) r h _ (n.set i rv)
theorem reps_set {w : Wd} {d : D} {v : V} (r : Rep w d v) : ∀ {ds : List D} {xs : List V} (i : Nat), Reps w ds xs → Reps w (ds.set i d) (xs.set i v)
  | [], xs, i, h => by simp only [Reps] at h; subst h; simp [Reps]
  | y :: ds, xs, 0, h => by
    simp only [Reps] at h
    obtain ⟨x, xs, rfl, r1, rs⟩ := h
    simp only [List.set, Reps]
    exact ⟨v, xs, rfl, r, rs⟩
  | y :: ds, xs, i + 1, h => by
    simp only [Reps] at h
    obtain ⟨x, xs, rfl, r1, rs⟩ := h
    simp only [List.set, Reps]
    exact ⟨x, xs.set i v, rfl, r1, reps_set r i rs⟩
/-- o[i] = d of a list's cell -/
def putIdx (o i d : D) : M Unit := fun st => match o, i with
  | .cell c, .int k => match st[c]? with
    | some (.lst l) => match ixN l.length k with
      | some j => .ok () (st.set c (.lst (l.set j d)))
      | none => .bad
    | _ => .bad
  | _, _ => .bad
theorem putIdx_wp {w : Wd} {o i d : D} {u y v : V} {P : Unit → Wd → Prop} {V' : Str → Wd → Prop} (rs : RS w) (ru : Rep w o u) (ry : Rep w i y) (rv : Rep w d v) (h : Wp w (putIdx o i d w.st) P V') :
    rSetL u y v w.H fun H' => ∃ w', w'.H = H' ∧ Aft w w' ∧ P () w' := by
  unfold putIdx at h
  split at h
  · rename_i c k
    split at h
    · rename_i l el
      split at h
      · rename_i j ej
        simp only [Rep] at ru ry
        obtain ⟨xs, e1, r1, l1⟩ := rs.cells c _ el
        refine ⟨_, xs, k, j, ru.1, ry, e1, by rw [reps_len r1]; exact ej, ?_⟩
        have up : ∀ b q, b ≠ w.m c → w.H b = some q → upd w.H (w.m c) (.lst (xs.set j v)) b = some q := fun b q hb z => by rw [upd_ne hb]; exact z
        have bb : Bears w ⟨w.K, w.m, w.st.set c (.lst (l.set j d)), upd w.H (w.m c) (.lst (xs.set j v)), w.rv⟩ := bears_set (c := .lst (l.set j d)) (c0 := .lst l) rs el trivial up
        have aa : Aft w ⟨w.K, w.m, w.st.set c (.lst (l.set j d)), upd w.H (w.m c) (.lst (xs.set j v)), w.rv⟩ := aft_set (c0 := .lst l) rs el trivial up ⟨_, upd_same, reps_set (bb.rep _ _ rv) j (bb.reps _ _ r1), by rw [List.length_set]; exact l1⟩
        exact ⟨_, rfl, aa, h _ aa rfl⟩
      · exact h.elim
    · exact h.elim
  · exact h.elim
def gtSub (fo fi : Ev → M D) : D → Ev → M Ev := fun d env => do
  let o ← fo env
  let i ← fi env
  putIdx o i d
  pure env
theorem dg_sub {o i : Expr} {fo fi : Ev → M D} (ho : DE X W o fo) (hi : DE X W i fi)
    (ha : ∀ v, assign (.Subscript o i pos) X.env v = (do
      let ov ← holding [v] (eval o X.env)
      let iv ← holding [v, ov] (eval i X.env)
      standAt pos
      holding [v, ov, iv] (setItem ov iv v)
      release [v, ov, iv] []) := by intro _; rfl) : DG X W (.Subscript o i pos) (gtSub fo fi) := PG.imp' (pg_sub ho hi set_list ha) fun v σ H Q h => by
  obtain ⟨w, env, d, hk, rfl, r, n, rv, h⟩ := h
  refine ⟨w, env, hk, rfl, r, n, (Wp.bind h).imp fun od w1 a1 h1 u ru => ?_⟩
  refine ⟨w1, env, a1.k.trans hk, rfl, a1.rs, n.after a1, (Wp.bind h1).imp fun id w2 a2 h2 y ry => ?_⟩
  obtain ⟨p, xs, k, j, e1, e2, e3, e4, w3, e5, a3, h3⟩ := putIdx_wp a2.rs (a2.rep ru) ry ((a1.trans a2).rep rv) (Wp.bind h2)
  refine ⟨p, xs, k, j, e1, e2, e3, e4, ?_⟩
  rw [← e5]
  exact Wp.ok_ (a := env) a3.rs h3 σ (((n.after a1).after a2).after a3)
def gtPair (t1 t2 : D → Ev → M Ev) : D → Ev → M Ev := fun d env => match d with
  | .tup [a, b] => do
    let e1 ← t1 a env
    t2 b e1
  | _ => M.stuck
theorem gtPair_wp {g1 g2 : D → Ev → M Ev} {w : Wd} {d : D} {env : Ev} {P : Ev → Wd → Prop} {V' : Str → Wd → Prop} (h : Wp w (gtPair g1 g2 d env w.st) P V') : ∃ x y, d = .tup [x, y] ∧ Wp w ((g1 x env >>= fun e1 => g2 y e1) w.st) P V' := by
  cases d with
  | tup l =>
    cases l with
    | nil => exact h.elim
    | cons x l =>
      cases l with
      | nil => exact h.elim
      | cons y l =>
        cases l with
        | nil => exact ⟨x, y, rfl, h⟩
        | cons z l => exact h.elim
  | _ => exact h.elim
theorem dg_pair {t1 t2 : Expr} {kk : Nat} {g1 g2 : D → Ev → M Ev} (hc : X.calm = true) (h1 : DG X W0 t1 g1) (h2 : DG X W0 t2 g2) (hs1 : (assignEach [t1, t2] X.env).map (·.2) = assign t1 X.env :: (assignEach [t2] X.env).map (·.2) := by rfl) (hs2 : (assignEach [t2] X.env).map (·.2) = assign t2 X.env :: (assignEach [] X.env).map (·.2) := by rfl)
    (hn : (assignEach [t1, t2] X.env).length = 2 := by rfl) (hst : (assignEach [t1, t2] X.env).findIdx? (·.1) = none := by rfl) : DG X W (.Tuple [t1, t2] kk pos) (fun d env => noErr (gtPair g1 g2 d env)) := PG.imp' (pg_tup hc (pgs_cons h1 (pgs_cons h2 pgs_nil hs2) hs1) hn hst) fun v σ H Q h => by
  obtain ⟨w, env, d, hk, rfl, r, n, rv, h⟩ := h
  have h := noErr_wp (x := gtPair g1 g2 d env) h
  obtain ⟨x, y, rfl, h⟩ := gtPair_wp h
  simp only [Rep] at rv
  obtain ⟨p, xs, rfl, sq, rr, _⟩ := rv
  obtain ⟨u1, u2, rfl, r1, r2⟩ := reps2 rr
  refine ⟨p, [u1, u2], rfl, by rw [← hk]; exact sq, rfl, u1, [u2], rfl, w, env, x, hk, rfl, r, n, r1, (Wp.bind h).mono (fun e1 w1 a1 h1 σ1 n1 => ?_) fun _ _ _ z => z⟩
  refine ⟨u2, [], rfl, w1, e1, y, a1.k.trans hk, rfl, a1.rs, n1, a1.rep r2, h1.mono (fun e2 w2 a2 h2 σ2 n2 => ⟨rfl, h2 σ2 n2⟩) fun _ _ _ z => z⟩
def sAsgT (f : Ev → M D) (tg : D → Ev → M Ev) : Ev → M Fl := fun env => stx (f env) env fun d => stx (tg d env) env fun env' => pure (.nx env')
theorem ds_asg {tgt : Expr} {tg : D → Ev → M Ev} (he : DE X W e fa) (hg : DG X W tgt tg) (hs : swapsWithSole [tgt] e pos.line X.env = pure false := by rfl) (hw : swappedStores [tgt] e X.env = pure none := by rfl) (h1 : (assignEach [tgt] X.env).map (·.2) = [assign tgt X.env] := by rfl) :
    DS X W (.Assign [tgt] e pos) (sAsgT fa tg) := PS.imp' (ps_asg he hg hs hw h1) fun D' σ H h => by
  obtain ⟨w, env, hk, rfl, r, n, h⟩ := h
  refine ⟨w, env, hk, rfl, r, n, (stx_wp n h).imp fun d w1 a1 h1 v rv => ?_⟩
  refine ⟨w1, env, d, a1.k.trans hk, rfl, a1.rs, n.after a1, rv, (stx_wp (n.after a1) h1).imp fun e' w2 a2 h2 σ' n' => ?_⟩
  exact Wp.ok_ (a := Fl.nx e') a2.rs h2 σ' n'
/-! ## dicts in cells -/
def keyOf : D → Option Key
  | .int i => some (.inl i)
  | .str x => some (.inr x)
  | _ => none
def valD (l : List (Key × D)) (k : Key) : Option D := (l.find? fun kv => decide (kv.1 = k)).map (·.2)
def putD (l : List (Key × D)) (k : Key) (d : D) : List (Key × D) := if (l.any fun kv => decide (kv.1 = k)) = true then l.map (fun kv => if kv.1 = k then (kv.1, d) else kv) else l ++ [(k, d)]
theorem keyOf_rep {w : Wd} {d : D} {v : V} {k : Key} (h : keyOf d = some k) (r : Rep w d v) : v = kV k := by
  cases d with
  | int i => cases h; simp only [Rep] at r; exact r
  | str x => cases h; simp only [Rep] at r; exact r
  | _ => cases h
theorem valD_rep {w : Wd} {k : Key} : ∀ {l : List (Key × D)} {kvs : List (Key × V)} {d : D}, RepK w l kvs → valD l k = some d → ∃ v, valV kvs k = some v ∧ Rep w d v
  | [], kvs, d, h, e => by cases e
  | (k1, d1) :: l, kvs, d, h, e => by
    obtain ⟨⟨k2, v2⟩, ys, rfl, e1, r, rs⟩ := h
    have e1 : k2 = k1 := e1
    subst e1
    by_cases hk : k2 = k
    · rw [valV_pos (p := (k2, v2)) hk]
      have : valD ((k2, d1) :: l) k = some d1 := by simp [valD, List.find?_cons, hk]
      rw [this] at e
      cases e
      exact ⟨v2, rfl, r⟩
    · rw [valV_neg (p := (k2, v2)) hk]
      have : valD ((k2, d1) :: l) k = valD l k := by simp [valD, List.find?_cons, hk]
      rw [this] at e
      exact valD_rep rs e
theorem valD_none {w : Wd} {k : Key} : ∀ {l : List (Key × D)} {kvs : List (Key × V)}, RepK w l kvs → valD l k = none → valV kvs k = none
  | [], kvs, h, e => by simp only [RepK] at h; subst h; rfl
  | (k1, d1) :: l, kvs, h, e => by
    obtain ⟨⟨k2, v2⟩, ys, rfl, e1, r, rs⟩ := h
    have e1 : k2 = k1 := e1
    subst e1
    by_cases hk : k2 = k
    · have : valD ((k2, d1) :: l) k = some d1 := by simp [valD, List.find?_cons, hk]
      rw [this] at e; cases e
    · rw [valV_neg (p := (k2, v2)) hk]
      have : valD ((k2, d1) :: l) k = valD l k := by simp [valD, List.find?_cons, hk]
      rw [this] at e
      exact valD_none rs e
theorem repK_any {w : Wd} {k : Key} : ∀ {l : List (Key × D)} {kvs : List (Key × V)}, RepK w l kvs → (kvs.any fun kv => decide (kv.1 = k)) = (l.any fun kv => decide (kv.1 = k))
  | [], kvs, h => by simp only [RepK] at h; subst h; rfl
  | (k1, d1) :: l, kvs, h => by
    obtain ⟨⟨k2, v2⟩, ys, rfl, e1, r, rs⟩ := h
    have e1 : k2 = k1 := e1
    subst e1
    simp only [List.any_cons, repK_any rs]
theorem repK_map {w : Wd} {k : Key} {d : D} {v : V} (r0 : Rep w d v) : ∀ {l : List (Key × D)} {kvs : List (Key × V)}, RepK w l kvs → RepK w (l.map fun kv => if kv.1 = k then (kv.1, d) else kv) (kvs.map fun kv => if kv.1 = k then (kv.1, v) else kv)
  | [], kvs, h => by simp only [RepK] at h; subst h; rfl
  | (k1, d1) :: l, kvs, h => by
    obtain ⟨⟨k2, v2⟩, ys, rfl, e1, r, rs⟩ := h
    have e1 : k2 = k1 := e1
    subst e1
    simp only [List.map_cons, RepK]
    refine ⟨_, _, rfl, ?_, ?_, repK_map r0 rs⟩
    · by_cases hk : k2 = k <;> simp [hk]
    · by_cases hk : k2 = k <;> simp [hk]
      · exact r0
      · exact r
theorem repK_snoc {w : Wd} {k : Key} {d : D} {v : V} (r0 : Rep w d v) : ∀ {l : List (Key × D)} {kvs : List (Key × V)}, RepK w l kvs → RepK w (l ++ [(k, d)]) (kvs ++ [(k, v)])
  | [], kvs, h => by simp only [RepK] at h; subst h; exact ⟨(k, v), [], rfl, rfl, r0, rfl⟩
  | x :: l, kvs, h => by
    obtain ⟨y, ys, rfl, e1, r, rs⟩ := h
    exact ⟨y, ys ++ [(k, v)], rfl, e1, r, repK_snoc r0 rs⟩
theorem repK_put {w : Wd} {l : List (Key × D)} {kvs : List (Key × V)} {k : Key} {d : D} {v : V} (h : RepK w l kvs) (r : Rep w d v) : RepK w (putD l k d) (putK kvs k v) := by
  unfold putD putK
  rw [repK_any h]
  split
  · exact repK_map r h
  · exact repK_snoc r h
theorem repK_len {w : Wd} : ∀ {l : List (Key × D)} {kvs : List (Key × V)}, RepK w l kvs → kvs.length = l.length
  | [], kvs, h => by simp only [RepK] at h; subst h; rfl
  | x :: l, kvs, h => by
    obtain ⟨y, ys, rfl, _, _, rs⟩ := h
    rw [List.length_cons, List.length_cons, repK_len rs]
/-- d[k] of a dict's cell -/
def dGet : D → D → Store → Option D := fun o i st => match o, keyOf i with
  | .cell c, some k => match st[c]? with
    | some (.dct l) => valD l k
    | _ => none
  | _, _ => none
theorem de_dget (hu : X.A.units + 1 < cLine) (ha : DE X W a fa) (hb : DE X W b fb) (hs : NoSl b := by intro _ _; rfl) : DE X W (.Subscript a b pos) (eOp dGet fa fb) := PE.imp' (pe_dget hu ha hb hs) fun σ H Q h => by
  obtain ⟨w, env, hk, rfl, r, n, h⟩ := h
  refine ⟨w, env, hk, rfl, r, n, (Wp.bind h).imp fun x w1 a1 h1 v rv => ?_⟩
  refine ⟨w1, env, a1.k.trans hk, rfl, a1.rs, n.after a1, (Wp.bind h1).imp fun y w2 a2 h2 u ru => ?_⟩
  have q := Wq.of h2
  obtain ⟨d, e⟩ := wq_some q
  have e0 := e
  unfold dGet at e
  split at e
  · rename_i c k hkey
    split at e
    · rename_i l el
      obtain ⟨kvs, e1, r1⟩ := a2.rs.cells c _ el
      obtain ⟨z, ez, rz⟩ := valD_rep r1 e
      have rv2 := a2.rep rv
      simp only [Rep] at rv2
      refine ⟨_, z, rv2.1, ?_, q.here a2.rs e0 rz⟩
      rw [keyOf_rep hkey ru, ← ez]
      exact DGet.k e1
    · cases e
  · cases e
def putKey (o i d : D) : M Unit := fun st => match o, keyOf i with
  | .cell c, some k => match st[c]? with
    | some (.dct l) => if l.length < 1000 then .ok () (st.set c (.dct (putD l k d))) else .bad
    | _ => .bad
  | _, _ => .bad
def sPutK (fo fi f : Ev → M D) : Ev → M Fl := fun env => stx (f env) env fun d => stx (fo env) env fun o => stx (fi env) env fun i => stx (putKey o i d) env fun _ => pure (.nx env)
theorem ds_dput {o i : Expr} {pos' : Pos} {fo fi : Ev → M D} (hu : X.A.units + 1 < cLine) (ho : DE X W o fo) (hi : DE X W i fi) (hv : DE X W e fa) (hs : swapsWith e (some (.Subscript o i pos')) pos.line X.env = pure false := by rfl) : DS X W (.Assign [.Subscript o i pos'] e pos) (sPutK fo fi fa) :=
  PS.imp' (ps_dput hu ho hi hv hs) fun D' σ H h => by
    obtain ⟨w, env, hk, rfl, r, n, h⟩ := h
    refine ⟨w, env, hk, rfl, r, n, (stx_wp n h).imp fun d w1 a1 h1 v rv => ?_⟩
    refine ⟨w1, env, a1.k.trans hk, rfl, a1.rs, n.after a1, (stx_wp (n.after a1) h1).imp fun od w2 a2 h2 u ru => ?_⟩
    refine ⟨w2, env, a2.k.trans (a1.k.trans hk), rfl, a2.rs, (n.after a1).after a2, (stx_wp ((n.after a1).after a2) h2).imp fun id w3 a3 h3 y ry => ?_⟩
    have h4 := stx_wp (((n.after a1).after a2).after a3) h3
    unfold putKey at h4
    split at h4
    · rename_i c k hkey
      split at h4
      · rename_i l el
        split at h4
        · rename_i hl
          obtain ⟨kvs, e1, r1⟩ := a3.rs.cells c _ el
          have ru3 := a3.rep ru
          simp only [Rep] at ru3
          have up : ∀ b q, b ≠ w3.m c → w3.H b = some q → upd w3.H (w3.m c) (.dK (putK kvs k v)) b = some q := fun b q hb z => by rw [upd_ne hb]; exact z
          have rv3 := (a2.trans a3).rep rv
          have bb : Bears w3 ⟨w3.K, w3.m, w3.st.set c (.dct (putD l k d)), upd w3.H (w3.m c) (.dK (putK kvs k v)), w3.rv⟩ := bears_set (c := .dct (putD l k d)) (c0 := .dct l) a3.rs el trivial up
          have aa : Aft w3 ⟨w3.K, w3.m, w3.st.set c (.dct (putD l k d)), upd w3.H (w3.m c) (.dK (putK kvs k v)), w3.rv⟩ := aft_set (c0 := .dct l) a3.rs el trivial up ⟨_, upd_same, repK_put (bb.repK _ _ r1) (bb.rep _ _ rv3)⟩
          refine ⟨_, _, ru3.1, ?_, Wp.ok_ (a := Fl.nx env) aa.rs (h4 _ aa rfl) σ ((((n.after a1).after a2).after a3).after aa)⟩
          rw [keyOf_rep hkey ry]
          exact DPut.k e1 (by rw [repK_len r1]; exact small1000 (Nat.le_of_lt hl))
        · exact h4.elim
      · exact h4.elim
    · exact h4.elim
/-! ### displays of dicts -/
theorem lat_after {w w1 w2 : Wd} (l : Lat w w1) (a : Aft w1 w2) (h : ∀ x, x ∈ w.rv → x ∈ w1.rv) : Lat w w2 := by
  have hx : ∀ x, x ∈ w.rv → x ∈ w2.rv := fun x hx => by rw [a.rv]; exact h x hx
  exact l.trans ⟨a.k, rfl, ⟨fun i c hc => cell_rv hx (a.rs.cells i c hc), a.rs.inj, fun x z => a.rs.rvs x (hx x z), fun x z => a.rs.rvo x (hx x z)⟩, a.ext, a.len, a.tup, a.fz⟩
theorem Wp.lat {α : Type} {w w1 : Wd} {r : Res α} {P : α → Wd → Prop} {V' : Str → Wd → Prop} (h : Wp w r P V') (l : Lat w w1) (hr : ∀ x, x ∈ w.rv → x ∈ w1.rv) : Wp w1 r (fun a w2 => Lat w w2 ∧ P a ⟨w2.K, w2.m, w2.st, w2.H, w.rv⟩) (fun c w2 => V' c ⟨w2.K, w2.m, w2.st, w2.H, w.rv⟩) := by
  cases r with
  | ok a st' => exact fun w2 a2 e2 => ⟨lat_after l a2 hr, h _ (lat_after l a2 hr) e2⟩
  | err c st' => exact fun w2 a2 e2 => h _ (lat_after l a2 hr) e2
  | bad => exact h
/-- the keys of a display are written -/
def DKs (X : Cx) (W : XW) (pos : Pos) (keys : List (Option Expr)) (vals : List Expr) (ks : List Key) (fs : List (Ev → M D)) : Prop := PPs X pos keys vals ((ks.zip fs).map fun p => (tC (kV p.1), rdE X.K W p.2)) ∧ ks.length = fs.length
theorem dk_nil : DKs X W pos [] [] [] [] := ⟨pps_nil, rfl⟩
theorem dk_cons {x : Str} {j : Nat} {kp : Pos} {keys : List (Option Expr)} {vals : List Expr} {ks : List Key} {fs : List (Ev → M D)} (hv : DE X W e fa) (hr : DKs X W pos keys vals ks fs) : DKs X W pos (some (.Constant (.str x) j kp) :: keys) (e :: vals) (.inr x :: ks) (fa :: fs) :=
  ⟨pps_cons pe_str hv hr.1, by rw [List.length_cons, List.length_cons, hr.2]⟩
theorem pairs_rd {σ : L2.St} {env : Ev} : ∀ {ks : List Key} {fs : List (Ev → M D)} {w : Wd} {G : List (V × V) → Hp → Prop}, ks.length = fs.length → w.K = X.K → RS w → REnv w env σ →
    Wp w (aSeq fs env w.st) (fun ds w2 => ∀ vs, Reps w2 ds vs → G ((ks.zip vs).map fun p => (kV p.1, p.2)) w2.H) (fun c w2 => W c σ w2.H) → tPairs ((ks.zip fs).map fun p => (tC (kV p.1), rdE X.K W p.2)) σ w.H G
  | [], [], w, G, hl, hk, rs, n, h => Wp.ok_ (a := ([] : List D)) rs h [] rfl
  | [], _ :: _, _, _, hl, _, _, _, _ => by cases hl
  | _ :: _, [], _, _, hl, _, _, _, _ => by cases hl
  | k :: ks, f :: fs, w, G, hl, hk, rs, n, h => by
    refine ⟨w, env, hk, rfl, rs, n, (Wp.bind h).imp fun d w1 a1 h1 v rv => ?_⟩
    refine pairs_rd (by simpa using hl) (a1.k.trans hk) a1.rs (n.after a1) ((Wp.bind h1).imp fun ds w2 a2 h2 vs rvs => ?_)
    exact Wp.ok_ (a := d :: ds) a2.rs h2 (v :: vs) ⟨v, vs, rfl, a2.rep rv, rvs⟩
theorem merge_nodup : ∀ {kvs acc : List (Key × V)}, (acc.map (·.1) ++ kvs.map (·.1)).Nodup → mergeK acc kvs = acc ++ kvs
  | [], acc, h => by simp [mergeK]
  | kv :: kvs, acc, h => by
    have hn : valV acc kv.1 = none := by
      have : ¬ kv.1 ∈ acc.map (·.1) := fun z => by
        rw [List.nodup_append] at h
        exact h.2.2 _ z _ (by simp) rfl
      unfold valV
      rw [Option.map_eq_none_iff, List.find?_eq_none]
      intro y hy z
      exact this (List.mem_map.mpr ⟨y, hy, of_decide_eq_true z⟩)
    have e : mergeK acc (kv :: kvs) = mergeK (putK acc kv.1 kv.2) kvs := rfl
    rw [e, putK_new _ hn, merge_nodup (by simpa using h)]
    simp
theorem repK_zip {w : Wd} : ∀ {ks : List Key} {ds : List D} {vs : List V}, Reps w ds vs → RepK w (ks.zip ds) (ks.zip vs)
  | [], ds, vs, h => by simp [RepK]
  | k :: ks, [], vs, h => by simp only [Reps] at h; subst h; simp [RepK]
  | k :: ks, d :: ds, vs, h => by
    simp only [Reps] at h
    obtain ⟨x, xs, rfl, r, rs⟩ := h
    exact ⟨(k, x), _, rfl, rfl, r, repK_zip rs⟩
/-- the same world, one more address reserved -/
def Wd.res (w : Wd) (p : Addr) : Wd := ⟨w.K, w.m, w.st, w.H, p :: w.rv⟩
/-- what a display leaves: the dict at p, known to nobody yet -/
theorem disp_rd {σ : L2.St} {env : Ev} {ks : List Key} {fs : List (Ev → M D)} {w : Wd} {Q : VK} (hl : ks.length = fs.length) (hs : ks.length ≤ 15) (hnd : ks.Nodup) (hk : w.K = X.K) (rs : RS w) (n : REnv w env σ)
    (h : Wp w (aSeq fs env w.st) (fun ds w2 => ∀ (p : Addr) (vs : List V), w.H p = none → w2.H p = some (.dK (ks.zip vs)) → RS (w2.res p) → Bears w (w2.res p) → Reps (w2.res p) ds vs → ds.length = ks.length → Q (.ref p) w2.H) (fun c w2 => W c σ w2.H)) :
    tDisp ((ks.zip fs).map fun p => (tC (kV p.1), rdE X.K W p.2)) σ w.H Q := by
  intro p hp
  have hsub : ∀ x, x ∈ w.rv → x ∈ p :: w.rv := fun x hx => List.mem_cons_of_mem _ hx
  have a0 : Aft w ⟨w.K, w.m, w.st, upd w.H p (.dK []), w.rv⟩ := aft_new rs hp
  have l0 : Lat w ⟨w.K, w.m, w.st, upd w.H p (.dK []), p :: w.rv⟩ := a0
  have rs0 : RS ⟨w.K, w.m, w.st, upd w.H p (.dK []), p :: w.rv⟩ := by
    refine ⟨fun i c hc => cell_bears (bears_res hp) (fun o q _ => same_upd hp _ _ q) (fun _ q => roL_same (same_upd hp) q) rfl (rs.cells i c hc), a0.rs.inj, fun x hx z => ?_, fun x hx z => ?_⟩
    · rcases List.mem_cons.mp hx with rfl | hx
      · have z : upd w.H x (.dK []) x = none := z; rw [upd_same] at z; cases z
      · exact a0.rs.rvs x hx z
    · rcases List.mem_cons.mp hx with rfl | hx
      · exact (fz_new (w := w) (o := .dK []) rs hp).2 z
      · exact a0.rs.rvo x hx z
  have n0 : REnv ⟨w.K, w.m, w.st, upd w.H p (.dK []), p :: w.rv⟩ env σ := ⟨n.len, fun i d e => let ⟨v, e1, r⟩ := n.at_ i d e; ⟨v, e1, (bears_res hp).rep _ _ r⟩⟩
  refine pairs_rd (w := ⟨w.K, w.m, w.st, upd w.H p (.dK []), p :: w.rv⟩) hl hk rs0 n0 ?_
  show Wp (⟨w.K, w.m, w.st, upd w.H p (.dK []), p :: w.rv⟩ : Wd) (aSeq fs env w.st) _ _
  cases ea : aSeq fs env w.st with
  | bad => rw [ea] at h; exact h.elim
  | err c st' =>
    rw [ea] at h
    exact fun w2 a2 e2 => h ⟨w2.K, w2.m, w2.st, w2.H, w.rv⟩ (lat_after l0 a2 hsub) e2
  | ok ds st' =>
    rw [ea] at h
    intro w2 a2 e2 vs rvs
    have hdl : ds.length = fs.length := aSeq_len ea
    have lat2 : Lat w w2 := lat_after l0 a2 hsub
    have hf := a2.fz p (.dK []) (fz_new (w := w) rs hp)
    have own2 : ¬ Own w2.m w2.st p := hf.2
    have hks : (ks.zip vs).map (·.1) = ks := by
      rw [List.map_fst_zip]
      rw [reps_len rvs, hdl, hl]; exact Nat.le_refl _
    refine ⟨hf.1, ks.zip vs, rfl, by rw [List.length_zip]; omega, ?_⟩
    rw [merge_nodup (by simpa [hks] using hnd), List.nil_append]
    have rv2 : w2.rv = p :: w.rv := a2.rv
    have up : ∀ b q, b ≠ p → w2.H b = some q → upd w2.H p (.dK (ks.zip vs)) b = some q := fun b q hb z => by rw [upd_ne hb]; exact z
    have tupk : ∀ a xs, SqT w2.K w2.H a xs → SqT w2.K (upd w2.H p (.dK (ks.zip vs))) a xs := fun a xs q => by
      rcases q with (q | ⟨o, q⟩) | q
      · exact .inl (.inl (up _ _ (ne_of q hf.1 (by intro z; cases z)) q))
      · exact .inl (.inr ⟨o, up _ _ (ne_of q hf.1 (by intro z; cases z)) q⟩)
      · exact .inr q
    have bW : Bears w2 ⟨w2.K, w2.m, w2.st, upd w2.H p (.dK (ks.zip vs)), p :: w.rv⟩ := ⟨fun _ _ => rfl, Nat.le_refl _, tupk, fun x o q => ⟨⟨up _ _ (fun z => q.2 (by rw [z, rv2]; exact List.mem_cons_self ..)) q.1.1, q.1.2⟩, by rw [← rv2]; exact q.2⟩, rfl⟩
    have cellk : ∀ i c, w2.st[i]? = some c → CellOk ⟨w2.K, w2.m, w2.st, upd w2.H p (.dK (ks.zip vs)), p :: w.rv⟩ (w2.m i) c := fun i c hc => by
      have q := a2.rs.cells i c hc
      by_cases lv : c.live
      · have hne : w2.m i ≠ p := fun z => own2 ⟨i, c, hc, lv, z⟩
        exact cell_bears bW (fun o q _ => up _ _ hne q) (fun xs q => by
          rcases q with ⟨u, q⟩ | q
          · exact .inl ⟨u, up _ _ hne q⟩
          · exact .inr q) rfl q
      · cases c with
        | ro l' =>
          obtain ⟨xs, q1, q2, q3⟩ := q
          refine ⟨xs, ?_, bW.reps _ _ q2, q3⟩
          rcases q1 with ⟨u, q1⟩ | q1
          · exact .inl ⟨u, up _ _ (ne_of q1 hf.1 (by intro z; cases z)) q1⟩
          · exact .inr q1
        | dead => trivial
        | _ => exact absurd trivial lv
    have rsW : RS ⟨w2.K, w2.m, w2.st, upd w2.H p (.dK (ks.zip vs)), p :: w.rv⟩ := ⟨cellk, a2.rs.inj, fun x hx z => by
        by_cases hxp : x = p
        · subst hxp; have z : upd w2.H x (.dK (ks.zip vs)) x = none := z; rw [upd_same] at z; cases z
        · have z : upd w2.H p (.dK (ks.zip vs)) x = none := z
          rw [upd_ne hxp] at z; exact a2.rs.rvs x (by rw [rv2]; exact hx) z, fun x hx => a2.rs.rvo x (by rw [rv2]; exact hx)⟩
    have latW : Aft w ⟨w2.K, w2.m, w2.st, upd w2.H p (.dK (ks.zip vs)), w.rv⟩ := by
      refine ⟨lat2.k, rfl, ⟨fun i c hc => cell_rv (w := ⟨w2.K, w2.m, w2.st, upd w2.H p (.dK (ks.zip vs)), p :: w.rv⟩) hsub (cellk i c hc), a2.rs.inj, fun x hx => rsW.rvs x (hsub x hx), fun x hx => rsW.rvo x (hsub x hx)⟩, lat2.ext, lat2.len, fun a xs q => tupk a xs (lat2.tup a xs q), fun x o q => ?_⟩
      have q' := lat2.fz x o q
      exact ⟨up _ _ (fun z => by rw [z] at q; exact absurd (q.1.symm.trans hp) (by simp)) q'.1, q'.2⟩
    exact h _ latW e2 p vs hp upd_same rsW ((bears_res hp).trans (a2.bears.trans bW)) (bW.reps _ _ rvs) (by rw [hdl, hl])
/-- {..}[k] -/
def eDispGet (ks : List Key) (fs : List (Ev → M D)) (fb : Ev → M D) : Ev → M D := fun env => do
  let ds ← aSeq fs env
  let k ← fb env
  lift fun _ => (keyOf k).bind fun key => valD (ks.zip ds) key
end
end G
end

section
set_option Elab.async false
set_option linter.all false
set_option autoImplicit false
set_option maxRecDepth 100000
set_option maxHeartbeats 1000000
namespace G
open PySem PySem.Spec PyProof.Rows L2
section
variable {X : Cx} {W : XW} {e a b c : Expr} {s : Stmt} {ss : List Stmt} {pos : Pos} {fa fb fc : Ev → M D} {g g' : Ev → M Fl}
theorem de_dispGet {keys : List (Option Expr)} {vals : List Expr} {ks : List Key} {fs : List (Ev → M D)} {dpos : Pos} (hu : X.A.units + 1 < cLine) (hd : DKs X W dpos keys vals ks fs) (hb : DE X W b fb) (hall : keys.all (·.isSome) = true) (hl : keys.length = vals.length) (h0 : keys ≠ []) (h15 : keys.length ≤ 15)
    (hkl : ks.length ≤ 15) (hnd : ks.Nodup) (hs : NoSl b := by intro _ _; rfl) : DE X W (.Subscript (.Dict keys vals dpos) b pos) (eDispGet ks fs fb) := PE.imp' (pe_dget hu (pe_disp hd.1 hall hl h0 h15) hb hs) fun σ H Q h => by
  obtain ⟨w, env, hk, rfl, r, n, h⟩ := h
  refine disp_rd hd.2 hkl hnd hk r n ((Wp.bind h).imp fun ds w2 a2 h2 p vs hp hH rsR bR rvs hdl => ?_)
  have hsub : ∀ x, x ∈ w2.rv → x ∈ (w2.res p).rv := fun x hx => List.mem_cons_of_mem _ hx
  have l2 : Lat w2 (w2.res p) := Aft.refl a2.rs
  refine ⟨w2.res p, env, a2.k.trans hk, rfl, rsR, ⟨n.len, fun i d e => let ⟨v, e1, rr⟩ := n.at_ i d e; ⟨v, e1, bR.rep _ _ rr⟩⟩, ?_⟩
  show Wp (w2.res p) (fb env w2.st) _ _
  have h3 := Wp.bind h2
  cases ek : fb env w2.st with
  | bad => rw [ek] at h3; exact h3.elim
  | err c st' => rw [ek] at h3; exact fun w3 a3 e3 => h3 ⟨w3.K, w3.m, w3.st, w3.H, w2.rv⟩ (lat_after l2 a3 hsub) e3
  | ok y st' =>
    rw [ek] at h3
    intro w3 a3 e3 u ru
    have h4 := Wq.of (w := ⟨w3.K, w3.m, w3.st, w3.H, w2.rv⟩) (h3 ⟨w3.K, w3.m, w3.st, w3.H, w2.rv⟩ (lat_after l2 a3 hsub) e3)
    obtain ⟨d, ed⟩ := wq_some h4
    have hf := a3.fz p _ ⟨hH, rsR.rvo p (List.mem_cons_self ..)⟩
    cases kk : keyOf y with
    | none => rw [kk] at ed; cases ed
    | some key =>
      have ed' := ed
      rw [kk] at ed'
      obtain ⟨v, ev, rv⟩ := valD_rep (repK_zip (ks := ks) (a3.reps rvs)) ed'
      refine ⟨p, v, rfl, by rw [keyOf_rep kk ru, ← ev]; exact DGet.k hf.1, ?_⟩
      exact h4.here (lat_after l2 a3 hsub).rs ed ((bears_rv (w := w3) (fun x hx => by rw [a3.rv]; exact hsub x hx)).rep _ _ rv)
def eNewD (ks : List Key) (fs : List (Ev → M D)) : Ev → M D := fun env => do
  let ds ← aSeq fs env
  newCell (.dct (ks.zip ds))
theorem de_newD {keys : List (Option Expr)} {vals : List Expr} {ks : List Key} {fs : List (Ev → M D)} (hd : DKs X W pos keys vals ks fs) (hall : keys.all (·.isSome) = true) (hl : keys.length = vals.length) (h0 : keys ≠ []) (h15 : keys.length ≤ 15) (hkl : ks.length ≤ 15) (hnd : ks.Nodup) :
    DE X W (.Dict keys vals pos) (eNewD ks fs) := PE.imp' (pe_disp hd.1 hall hl h0 h15) fun σ H Q h => by
  obtain ⟨w, env, hk, rfl, r, n, h⟩ := h
  refine disp_rd hd.2 hkl hnd hk r n ?_
  have h1 : Wp w ((aSeq fs env >>= fun ds => newCell (.dct (ks.zip ds))) w.st) (fun d w' => ∀ v, Rep w' d v → Q v w'.H) (fun c w' => W c σ w'.H) := h
  have h2 : Wp w (M.andThen (aSeq fs env) (fun ds => newCell (.dct (ks.zip ds))) w.st) (fun d w' => ∀ v, Rep w' d v → Q v w'.H) (fun c w' => W c σ w'.H) := h1
  unfold M.andThen at h2
  cases ea : aSeq fs env w.st with
  | bad => rw [ea] at h2; exact h2.elim
  | err c st' => rw [ea] at h2; exact h2
  | ok ds st' =>
    rw [ea] at h2
    intro w2 a2 e2 p vs hp hH rsR bR rvs hdl
    subst e2
    have own2 : ¬ Own w2.m w2.st p := rsR.rvo p (List.mem_cons_self ..)
    -- the dict becomes a cell
    have ownN : ∀ x, Own (mpNew w2.m w2.st.length p) (w2.st ++ [.dct (ks.zip ds)]) x → Own w2.m w2.st x ∨ x = p := fun x z => own_new z
    have bN : Bears (w2.res p) ⟨w2.K, mpNew w2.m w2.st.length p, w2.st ++ [.dct (ks.zip ds)], w2.H, w2.rv⟩ := ⟨fun i hi => mpNew_old hi, by simp [Wd.res], fun _ _ q => q, fun x o q => ⟨⟨q.1.1, fun z => by
      rcases ownN x z with z | z
      · exact q.1.2 z
      · exact q.2 (by rw [z]; exact List.mem_cons_self ..)⟩, fun z => q.2 (List.mem_cons_of_mem _ z)⟩, rfl⟩
    have cells : ∀ i c, (w2.st ++ [Cell.dct (ks.zip ds)])[i]? = some c → CellOk ⟨w2.K, mpNew w2.m w2.st.length p, w2.st ++ [.dct (ks.zip ds)], w2.H, w2.rv⟩ (mpNew w2.m w2.st.length p i) c := fun i c hc => by
      rcases at_new hc with ⟨hi, hc⟩ | ⟨hi, hc⟩
      · rw [mpNew_old hi]
        exact cell_bears bN (fun o q _ => q) (fun _ q => q) rfl (rsR.cells i c hc)
      · subst hc hi
        rw [mpNew_new]
        exact ⟨_, hH, repK_zip (bN.reps _ _ rvs)⟩
    have aN : Aft w ⟨w2.K, mpNew w2.m w2.st.length p, w2.st ++ [.dct (ks.zip ds)], w2.H, w2.rv⟩ := by
      refine ⟨a2.k, a2.rv, ⟨cells, fun i j c1 c2 q1 q2 l1 l2 q => ?_, fun x hx => a2.rs.rvs x hx, fun x hx z => ?_⟩, fun i hi => (mpNew_old (Nat.lt_of_lt_of_le hi a2.len)).trans (a2.ext i hi), Nat.le_trans a2.len (by simp), a2.tup, fun x o q => ?_⟩
      · have q : mpNew w2.m w2.st.length p i = mpNew w2.m w2.st.length p j := q
        rcases at_new q1 with ⟨hi, q1⟩ | ⟨hi, q1⟩
        · rw [mpNew_old hi] at q
          rcases at_new q2 with ⟨hj, q2⟩ | ⟨hj, q2⟩
          · rw [mpNew_old hj] at q
            exact a2.rs.inj i j c1 c2 q1 q2 l1 l2 q
          · rw [hj, mpNew_new] at q
            exact absurd ⟨i, c1, q1, l1, q⟩ own2
        · rw [hi, mpNew_new] at q
          rcases at_new q2 with ⟨hj, q2⟩ | ⟨hj, q2⟩
          · rw [mpNew_old hj] at q
            exact absurd ⟨j, c2, q2, l2, q.symm⟩ own2
          · rw [hi, hj]
      · rcases ownN x z with z | z
        · exact a2.rs.rvo x hx z
        · subst z; rw [a2.rv] at hx; exact r.rvs x hx hp
      · have q' := a2.fz x o q
        refine ⟨q'.1, fun z => ?_⟩
        rcases ownN x z with z | z
        · exact q'.2 z
        · subst z; exact absurd (q.1.symm.trans hp) (by simp)
    refine h2 _ aN rfl (.ref p) ?_
    simp only [Rep]
    exact ⟨by rw [mpNew_new], by simp⟩
/-! ## repr of data -/
def reprOk (p : PyData) : Bool := p.showable && decide (p.shown.length ≤ sizeLine) && decide (p.depth ≤ 60) && !p.hasDict
def dRepr : List D → Store → Option D
  | [.tup l], _ => match (D.tup l).data with
    | some p => if reprOk p then some (.str p.shown) else none
    | none => none
  | [.lst l], _ => match (D.lst l).data with
    | some p => if reprOk p then some (.str p.shown) else none
    | none => none
  | [.int i], _ => if i.natAbs.log2 < 1920 then some (.str (toString i)) else none
  | _, _ => none
def rReprD (K : PySem.W.Frag) : List V → Hp → VK → Prop := fun xs H Q => ∃ (x : Addr) (d : PyData), xs = [.ref x] ∧ Dp K H (.ref x) d ∧ reprOk d = true ∧ Q (.str d.shown) H
theorem cr_reprD (hg : X.A.guards = some []) (hu : X.A.units + 64 < cLine) : CallR X (.builtin "repr") (rReprD X.K) := by
  intro pins s σ H xs us Q I rel h
  obtain ⟨x, d, rfl, hd, hok, q⟩ := h
  obtain ⟨u, rfl, rx⟩ := vals1 rel
  cases (show u = Value.ref x from rx)
  obtain ⟨as, rr⟩ := Dp.reads I d (.ref x) (.ref x) hd rfl
  unfold reprOk at hok
  simp only [Bool.and_eq_true, decide_eq_true_eq, Bool.not_eq_true'] at hok
  obtain ⟨⟨⟨h1, h2⟩, h3⟩, h4⟩ := hok
  refine repr_of_reads' (h₀ := s.heap) rr h1 (fun z => by rw [h4] at z; cases z) hg (by omega) (fun _ _ z => z) ?_ h2
  intro h' ut tk keep
  refine ⟨.str d.shown, H, ?_, ⟨_, rfl⟩, q⟩
  exact I.un (Un.kept keep) (I.hok.kept keep)
theorem cd_repr (hg : X.A.guards = some []) (hu : X.A.units + 64 < cLine) : CallD X (.builtin "repr") dRepr := CallR.imp' ((cr_reprD hg hu).or SkE.call_repr_int) fun xs H Q h => by
  obtain ⟨w, ds, hk, rfl, rs, rd, q⟩ := h
  obtain ⟨d, e⟩ := wq_some q
  have e0 := e
  unfold dRepr at e
  split at e
  · rename_i l
    obtain ⟨v, rfl, r⟩ := reps1 rd
    split at e
    · rename_i p ep
      split at e
      · rename_i hok
        have r0 := r
        simp only [Rep] at r
        obtain ⟨x, ys, rfl, _⟩ := r
        exact .inl ⟨x, p, rfl, by rw [← hk]; exact dp_of _ _ p r0 ep, hok, q.here rs (e0.trans e.symm) (rep_str _)⟩
      · cases e
    · cases e
  · rename_i l
    obtain ⟨v, rfl, r⟩ := reps1 rd
    split at e
    · rename_i p ep
      split at e
      · rename_i hok
        have r0 := r
        simp only [Rep] at r
        obtain ⟨x, ys, rfl, _⟩ := r
        exact .inl ⟨x, p, rfl, by rw [← hk]; exact dp_of _ _ p r0 ep, hok, q.here rs (e0.trans e.symm) (rep_str _)⟩
      · cases e
    · cases e
  · rename_i i
    obtain ⟨v, rfl, r⟩ := reps1 rd
    simp only [Rep] at r
    split at e
    · rename_i hc
      exact .inr ⟨i, by rw [r], hc, q.here rs (e0.trans e.symm) (rep_str _)⟩
    · cases e
  · cases e
/-! ## xs[::-1] -/
def dRev : D → Store → Option D
  | .lst l, _ => some (.lst l.reverse)
  | _, _ => none
theorem reps_rev {w : Wd} : ∀ {ds : List D} {vs : List V}, Reps w ds vs → Reps w ds.reverse vs.reverse
  | [], vs, h => by simp only [Reps] at h; subst h; simp [Reps]
  | d :: ds, vs, h => by
    simp only [Reps] at h
    obtain ⟨x, xs, rfl, r, rs⟩ := h
    rw [List.reverse_cons, List.reverse_cons]
    exact reps_app (reps_rev rs) (by simp only [Reps]; exact ⟨x, [], rfl, r, rfl⟩)
theorem de_rev {k : Nat} {p1 p2 p3 : Pos} (ha : DE X W a fa) : DE X W (.Subscript a (.Slice none none (some (.UnaryOp .USub (.Constant (.int 1) k p1) p2)) p3) pos) (eUn dRev fa) := PE.imp' (pe_revL ha) fun σ H Q h => by
  obtain ⟨w, env, hk, rfl, r, n, h⟩ := h
  refine ⟨w, env, hk, rfl, r, n, (Wp.bind h).imp fun x w1 a1 h1 v rv => ?_⟩
  have q := Wq.of h1
  obtain ⟨d, e⟩ := wq_some q
  unfold dRev at e
  split at e
  · rename_i l
    simp only [Rep] at rv
    obtain ⟨x, xs, rfl, sq, rr, hl⟩ := rv
    show ∃ a xs, _ ∧ _ ∧ _
    exact ⟨x, xs, rfl, SqL.of sq.1.1, fun p hp => q.new a1.rs hp rfl (rep_new a1.rs hp (reps_rev rr) (by rw [List.length_reverse]; exact hl))⟩
  · cases e
end
end G
end

section
set_option Elab.async false
set_option linter.all false
set_option autoImplicit false
set_option maxRecDepth 100000
set_option maxHeartbeats 1000000
namespace G
open PySem PySem.Spec PyProof.Rows L2
/-! ## a def by its name -/
structure CalM (P : Program) (w : World) (K : PySem.W.Frag) (mg : Str → Option Value) (base : Heap) (k : Nat) (x : Str) (ps : List Str) (F : List D → M D) : Prop where
  ex : ∃ (f : Addr) (fd : FuncData), mg x = some (.ref f) ∧ PySem.W.keepIn K (.ref f) = true ∧ Binds K fd ps [] ∧ FnM P w K mg base k f fd ps F
theorem calm_zero {P : Program} {w : World} {K : PySem.W.Frag} {mg : Str → Option Value} {base : Heap} {x : Str} {ps : List Str} {f : Addr} {fd : FuncData} (hm : mg x = some (.ref f)) (hk : PySem.W.keepIn K (.ref f) = true) (hb : Binds K fd ps []) : CalM P w K mg base 0 x ps (fun _ => M.stuck) :=
  ⟨f, fd, hm, hk, hb, ⟨fun vs H Q E h => by obtain ⟨_, _, _, _, _, _, _, h⟩ := h; exact h.elim, fun A outer s H args us vs Q E _ _ _ _ _ h => by obtain ⟨_, _, _, _, _, _, _, h⟩ := h; exact h.elim⟩⟩
section
variable {X : Cx} {W : XW} {e a b c : Expr} {pos p : Pos} {fa fb fc : Ev → M D} {k : Nat} {ps : List Str} {x : Str} {es : List Expr}
theorem dcall {F : List D → M D} {fs : List (Ev → M D)} {Wx : WX} (C : CalM X.prog X.w X.K X.mg X.base k x ps F) (hgd : X.A.guards = some []) (hr : Room k X.A) (tk : L2N.Takes X Wx) (hW : W = wX X.K Wx) (hg : Gl X x) (ha : DA X W (e :: es) fs) (hl : fs.length = ps.length := by rfl)
    (hdb : (x == ("__debug__" : Str)) = false := by decide) (he : starEach (e :: es) X.env = (false, eval e X.env) :: starEach es X.env := by rfl) (hpl : (backTo pos (starEach es X.env)).any (·.1) = false := by rfl) : DE X W (.Call (.Name x p) (e :: es) [] pos) (eCall F fs) := by
  obtain ⟨f, fd, h1, h2, h3, h4⟩ := C.ex
  exact de_call h4 hgd hr tk hW hg h1 h2 h3 ha hl hdb he hpl
theorem dcall0 {F : List D → M D} {Wx : WX} (C : CalM X.prog X.w X.K X.mg X.base k x [] F) (hgd : X.A.guards = some []) (hr : Room k X.A) (tk : L2N.Takes X Wx) (hW : W = wX X.K Wx) (hg : Gl X x) (hdb : (x == ("__debug__" : Str)) = false := by decide) : DE X W (.Call (.Name x p) [] [] pos) (eCall F []) := by
  obtain ⟨f, fd, h1, h2, h3, h4⟩ := C.ex
  exact de_call0 h4 hgd hr tk hW hg h1 h2 h3 hdb
/-- the name in the i-th slot -/
theorem dv (i : Nat) (hN : X.N[i]? = some x := by rfl) (hv : Vis X.env.scope x := by first | exact Or.inl rfl | exact Or.inr (Or.inl rfl) | exact Or.inr (Or.inr rfl)) (hd : (x == ("__debug__" : Str)) = false := by decide) (hcd : (x == ("__classdict__" : Str)) = false := by decide) : DE X W (.Name x pos) (eVar i) := de_var i hN hv hd hcd
/-- a list's cell is given up -/
def freeL : D → M D := fun d st => match d with
  | .cell c => match st[c]? with
    | some (.lst l) => .ok (.lst l) (st.set c .dead)
    | _ => .bad
  | _ => .bad
def eFree (f : Ev → M D) : Ev → M D := fun env => do
  let d ← f env
  freeL d
theorem de_free (h : DE X W e fa) : DE X W e (eFree fa) := PE.imp' h fun σ H Q h => by
  obtain ⟨w, env, hk, rfl, r, n, h⟩ := h
  refine ⟨w, env, hk, rfl, r, n, (Wp.bind h).imp fun d w1 a1 h1 v rv => ?_⟩
  unfold freeL at h1
  split at h1
  · rename_i c
    split at h1
    · rename_i l el
      obtain ⟨a2, v2, r2, e2⟩ := aft_free (K := w1.K) (m := w1.m) (st := w1.st) (H := w1.H) (rv := w1.rv) a1.rs el
      simp only [Rep] at rv
      subst e2
      rw [rv.1]
      exact h1 _ a2 rfl _ r2
    · exact h1.elim
  · exact h1.elim
theorem room65 {A : Around} {n : Nat} (r : Room n A) : A.units + 65 < cLine := by have := r.un; omega
theorem room1 {A : Around} {n : Nat} (r : Room n A) : A.units + 1 < cLine := by have := r.un; omega
end
/-! ## the frame of a proof: the defs of a text by an index -/
structure Facts (ι : Type) (nm : ι → Str) (st : ι → Stmt) (free : List Str) (K : PySem.W.Frag) (mg : Str → Option Value) : Prop where
  mgf : ∀ i, mg (nm i) = some (.ref (He.ga K (nm i)))
  fd : ∀ i, ∃ fd, FunD K (nm i) (nm i) (defArgs (st i)) (defBody (st i)) (defScope (st i)) [] [] (He.ga K (nm i)) fd
  fr : ∀ x ∈ free, mg x = none
theorem calm_of {ι : Type} {nm : ι → Str} {st : ι → Stmt} {free : List Str} {P : Program} {w : World} {K : PySem.W.Frag} {mg : Str → Option Value} {base : Heap} {k : Nat} {N ps : List Str} {g : Ev → M Fl} (T : Facts ι nm st free K mg) (i : ι) (S : FnScope N ps (defScope (st i))) (hN : ps.length ≤ N.length)
    (hbd : ∀ fd, FunD K (nm i) (nm i) (defArgs (st i)) (defBody (st i)) (defScope (st i)) [] [] (He.ga K (nm i)) fd → Binds K fd ps [])
    (hb : ∀ (cdv : Value) (A : Around) (outer : List Env) (s : Shared) (H : Hp) (E : XK), A.guards = some [] → Room k (A.deeper (envOfC (nm i) (defScope (st i)) s.heap.objs.size (He.ga K (nm i)) cdv)) →
      DSs (cxOf (L2N.CX P w) P w K mg base N (nm i) (defScope (st i)) (He.ga K (nm i)) cdv A outer s H E) (wE K E) (defBody (st i)) g) : CalM P w K mg base (k + 1) (nm i) ps (runF N.length g) := by
  obtain ⟨fd, FD⟩ := T.fd i
  exact ⟨_, fd, T.mgf i, FD.kp, hbd fd FD, fnm_of FD S hN hb⟩
/-! ## == of two texts -/
def dEqS : D → D → Store → Option D
  | .str x, .str y, _ => some (.bl (x == y))
  | _, _, _ => none
def dNeS : D → D → Store → Option D
  | .str x, .str y, _ => some (.bl (!(x == y)))
  | _, _, _ => none
theorem od_eqS {X : Cx} : OpD X (compareOp .Eq) dEqS := OpR.imp' op_eq fun x y H Q h => by
  obtain ⟨w, a, b, hk, rfl, rs, ra, rb, q⟩ := h
  obtain ⟨d, e⟩ := wq_some q
  unfold dEqS at e
  split at e
  · rename_i u v
    cases e
    simp only [Rep] at ra rb
    subst ra; subst rb
    refine ⟨rfl, ?_⟩
    rw [dec_str]
    exact q.here rs rfl (rep_bl _)
  · cases e
theorem od_neS {X : Cx} : OpD X (compareOp .NotEq) dNeS := OpR.imp' op_ne fun x y H Q h => by
  obtain ⟨w, a, b, hk, rfl, rs, ra, rb, q⟩ := h
  obtain ⟨d, e⟩ := wq_some q
  unfold dNeS at e
  split at e
  · rename_i u v
    cases e
    simp only [Rep] at ra rb
    subst ra; subst rb
    refine ⟨rfl, ?_⟩
    rw [dec_str]
    exact q.here rs rfl (rep_bl _)
  · cases e
end G
end

section
set_option Elab.async false
set_option linter.all false
set_option maxRecDepth 100000
set_option maxHeartbeats 1000000
namespace G
open PySem PySem.Spec PyProof.Rows L2
/-! ## how the readings compute -/
def Res.bnd {α β : Type} (r : Res α) (f : α → M β) : Res β := match r with
  | .ok a st => f a st
  | .err c st => .err c st
  | .bad => .bad
def Res.sb {α : Type} (r : Res α) (env : Ev) (k : α → M Fl) : Res Fl := match r with
  | .ok a st => k a st
  | .err c st => .ok (.exc c env) st
  | .bad => .bad
def Res.noe {α : Type} (r : Res α) : Res α := match r with
  | .ok a st => .ok a st
  | _ => .bad
def lif (o : Option D) (st : Store) : Res D := match o with
  | some d => .ok d st
  | none => .bad
def nxt (g' : Ev → M Fl) : Fl → M Fl
  | .nx e => g' e
  | other => pure other
section
variable {α β : Type} {env : Ev} {st : Store} {fa fb fc : Ev → M D} {g g' : Ev → M Fl} {fs : List (Ev → M D)}
@[simp] theorem bnd_ok (a : α) (st : Store) (f : α → M β) : (Res.ok a st).bnd f = f a st := rfl
@[simp] theorem bnd_err (c : Str) (st : Store) (f : α → M β) : (Res.err c st).bnd f = .err c st := rfl
@[simp] theorem sb_ok (a : α) (st : Store) (env : Ev) (f : α → M Fl) : (Res.ok a st).sb env f = f a st := rfl
@[simp] theorem sb_err (c : Str) (st : Store) (env : Ev) (f : α → M Fl) : (Res.err c st).sb env f = .ok (.exc c env) st := rfl
@[simp] theorem noe_ok (a : α) (st : Store) : (Res.ok a st).noe = .ok a st := rfl
@[simp] theorem lif_some (d : D) (st : Store) : lif (some d) st = .ok d st := rfl
@[simp] theorem nxt_nx (e : Ev) : nxt g' (.nx e) = g' e := rfl
@[simp] theorem nxt_ret (d : D) : nxt g' (.ret d) st = .ok (.ret d) st := rfl
@[simp] theorem nxt_exc (c : Str) (e : Ev) : nxt g' (.exc c e) st = .ok (.exc c e) st := rfl
@[simp] theorem bind_app (x : M α) (f : α → M β) (st : Store) : (x >>= f) st = (x st).bnd f := rfl
@[simp] theorem pure_app' (a : α) (st : Store) : (pure a : M α) st = .ok a st := rfl
@[simp] theorem noErr_app (x : M α) (st : Store) : noErr x st = (x st).noe := rfl
@[simp] theorem stx_app (x : M α) (env : Ev) (k : α → M Fl) (st : Store) : stx x env k st = (x st).sb env k := rfl
@[simp] theorem lift_app (o : Store → Option D) (st : Store) : lift o st = lif (o st) st := by unfold lift lif; cases o st <;> rfl
@[simp] theorem sSeq_app : sSeq g g' env st = (g env st).bnd (nxt g') := by
  show (g env >>= _) st = _
  rw [bind_app]
  congr 1
@[simp] theorem sRet_app : sRet fa env st = (fa env st).sb env fun d st => .ok (.ret d) st := rfl
@[simp] theorem sNop_app : sNop env st = .ok (.nx env) st := rfl
@[simp] theorem sExpr_app : sExpr fa env st = (fa env st).sb env fun _ st => .ok (.nx env) st := rfl
@[simp] theorem sIf_app {t : Ev → M Bool} : sIf t g g' env st = (t env st).sb env fun b => if b = true then g env else g' env := rfl
@[simp] theorem sAsg_app {i : Nat} : sAsg i fa env st = (fa env st).sb env fun d st => .ok (.nx (env.set i (some d))) st := rfl
@[simp] theorem sPar_app {i j : Nat} : sPar i j fa fb env st = (fa env st).sb env fun d st => (fb env st).sb env fun e st => .ok (.nx ((env.set i (some d)).set j (some e))) st := rfl
@[simp] theorem sFor_app {fi : Ev → M (List D)} {tg : D → Ev → Option Ev} : sFor fi tg g env st = (fi env st).sb env fun l => forGo tg g l env := rfl
@[simp] theorem sAsgT_app {tg : D → Ev → M Ev} : sAsgT fa tg env st = (fa env st).sb env fun d st => (tg d env st).sb env fun e st => .ok (.nx e) st := rfl
@[simp] theorem sPutK_app : sPutK fa fb fc env st = (fc env st).sb env fun d st => (fa env st).sb env fun o st => (fb env st).sb env fun i st => (putKey o i d st).sb env fun _ st => .ok (.nx env) st := rfl
@[simp] theorem eC_app (d : D) : eC d env st = .ok d st := rfl
@[simp] theorem eVar_at (i : Nat) {d : D} (h : env[i]? = some (some d)) : eVar i env st = .ok d st := by unfold eVar; rw [h]
@[simp] theorem eOp_app {g : D → D → Store → Option D} : eOp g fa fb env st = (fa env st).bnd fun x st => (fb env st).bnd fun y st => lif (g x y st) st := by
  show (fa env >>= _) st = _
  simp only [bind_app, lift_app]
  congr 1
@[simp] theorem eUn_app {g : D → Store → Option D} : eUn g fa env st = (fa env st).bnd fun x st => lif (g x st) st := by
  show (fa env >>= _) st = _
  simp only [bind_app]
  congr 1
@[simp] theorem asB_bl (b : Bool) : asB (.bl b) st = .ok b st := rfl
@[simp] theorem asI_int (b : Int) : asI (.int b) st = .ok b st := rfl
@[simp] theorem tVal_app : tVal fa env st = (fa env st).bnd asB := rfl
@[simp] theorem tNot_app {t : Ev → M Bool} : tNot' t env st = (t env st).bnd fun b st => .ok (!b) st := rfl
@[simp] theorem tAnd_app {t u : Ev → M Bool} : tAnd' t u env st = (t env st).bnd fun b => if b = true then u env else fun st => .ok false st := rfl
@[simp] theorem tOr_app {t u : Ev → M Bool} : tOr' t u env st = (t env st).bnd fun b => if b = true then fun st => .ok true st else u env := rfl
@[simp] theorem aSeq_nil : aSeq [] env st = .ok [] st := rfl
@[simp] theorem aSeq_cons (f : Ev → M D) : aSeq (f :: fs) env st = (f env st).bnd fun d st => (aSeq fs env st).bnd fun ds st => .ok (d :: ds) st := rfl
@[simp] theorem eCall_app {F : List D → M D} : eCall F fs env st = (aSeq fs env st).bnd F := rfl
@[simp] theorem eB_app {g : List D → Store → Option D} : eB g fs env st = (aSeq fs env st).bnd fun ds st => lif (g ds st) st := by
  show (aSeq fs env >>= _) st = _
  simp only [bind_app]
  congr 1
@[simp] theorem eTup_app : eTup fs env st = (aSeq fs env st).bnd fun ds st => .ok (.tup ds) st := rfl
@[simp] theorem eLst_app : eLst fs env st = (aSeq fs env st).bnd fun ds st => .ok (.lst ds) st := rfl
@[simp] theorem eNewL_app : eNewL fs env st = (aSeq fs env st).bnd fun ds st => .ok (.cell st.length) (st ++ [.lst ds]) := rfl
@[simp] theorem eNewD_app {ks : List Key} : eNewD ks fs env st = (aSeq fs env st).bnd fun ds st => .ok (.cell st.length) (st ++ [.dct (ks.zip ds)]) := rfl
@[simp] theorem iSeq_app : iSeq fa env st = (fa env st).bnd items := rfl
@[simp] theorem items_tup (l : List D) : items (.tup l) st = .ok l st := rfl
@[simp] theorem items_lst (l : List D) : items (.lst l) st = .ok l st := rfl
theorem iRange_at {i : Int} {st' : Store} (h : fa env st = .ok (.int i) st') (h1 : i ≤ 16777216) (h2 : 0 ≤ i) : iRange fa env st = .ok (rangeD i.toNat) st' := by
  show (fa env >>= _) st = _
  rw [bind_app, h, bnd_ok, bind_app, asI_int, bnd_ok, if_pos ⟨h1, by omega⟩]
  rfl
@[simp] theorem eDispGet_app {ks : List Key} : eDispGet ks fs fb env st = (aSeq fs env st).bnd fun ds st => (fb env st).bnd fun k st => lif ((keyOf k).bind fun key => valD (ks.zip ds) key) st := by
  show (aSeq fs env >>= _) st = _
  simp only [bind_app]
  congr 1
@[simp] theorem gtName_app {i : Nat} {d : D} : gtName i d env st = .ok (env.set i (some d)) st := rfl
@[simp] theorem gtSub_app {d : D} : gtSub fa fb d env st = (fa env st).bnd fun o st => (fb env st).bnd fun i st => (putIdx o i d st).bnd fun _ st => .ok env st := rfl
@[simp] theorem gtPair_app {t1 t2 : D → Ev → M Ev} {a b : D} : gtPair t1 t2 (.tup [a, b]) env st = (t1 a env st).bnd fun e1 => t2 b e1 := rfl
@[simp] theorem pNo_app : pNo env st = .ok none st := rfl
@[simp] theorem pAt_app : pAt fa env st = (fa env st).bnd fun d st => (asI d st).bnd fun i st => .ok (some i) st := rfl
@[simp] theorem eSl_app {fl fh : Ev → M (Option Int)} : eSl fa fl fh env st = (fa env st).bnd fun d st => (fl env st).bnd fun lo st => (fh env st).bnd fun hi st => lif (dSl lo hi d st) st := by
  show (fa env >>= _) st = _
  simp only [bind_app]
  congr 1
@[simp] theorem eIf_app {t : Ev → M Bool} : eIf t fa fb env st = (t env st).bnd fun b => if b = true then fa env else fb env := rfl
@[simp] theorem dLt_int {i j : Int} : dLt (.int i) (.int j) st = some (.bl (decide (i < j))) := rfl
@[simp] theorem dLe_int {i j : Int} : dLe (.int i) (.int j) st = some (.bl (decide (i ≤ j))) := rfl
@[simp] theorem dGt_int {i j : Int} : dGt (.int i) (.int j) st = some (.bl (decide (j < i))) := rfl
@[simp] theorem dGe_int {i j : Int} : dGe (.int i) (.int j) st = some (.bl (decide (j ≤ i))) := rfl
@[simp] theorem dAdd_int {i j : Int} : dAdd (.int i) (.int j) st = some (.int (i + j)) := rfl
@[simp] theorem dSub_int {i j : Int} : dSub (.int i) (.int j) st = some (.int (i - j)) := rfl
@[simp] theorem dNeg_int {i : Int} : dNeg (.int i) st = some (.int (-i)) := rfl
theorem beq_decide (i j : Int) : (i == j) = decide (i = j) := rfl
@[simp] theorem dEq_int {i j : Int} : dEq (.int i) (.int j) st = some (.bl (decide (i = j))) := rfl
@[simp] theorem dNe_int {i j : Int} : dNe (.int i) (.int j) st = some (.bl (!decide (i = j))) := rfl
theorem mulOk_of {i j : Int} {a b : Nat} (h1 : i.natAbs < 2 ^ a) (h2 : j.natAbs < 2 ^ b) (h : a + b ≤ 1000000) (hp : 0 < a ∨ 0 < b) : mulOk i j = true := by
  have l1 : i.natAbs.log2 ≤ a := by
    by_cases z : i.natAbs = 0
    · rw [z]; exact Nat.zero_le _
    · exact Nat.le_of_lt ((Nat.log2_lt z).mpr h1)
  have l2 : j.natAbs.log2 ≤ b := by
    by_cases z : j.natAbs = 0
    · rw [z]; exact Nat.zero_le _
    · exact Nat.le_of_lt ((Nat.log2_lt z).mpr h2)
  have l3 : 0 < a → i.natAbs.log2 < a := fun ha => by
    by_cases z : i.natAbs = 0
    · rw [z]; exact ha
    · exact (Nat.log2_lt z).mpr h1
  have l4 : 0 < b → j.natAbs.log2 < b := fun ha => by
    by_cases z : j.natAbs = 0
    · rw [z]; exact ha
    · exact (Nat.log2_lt z).mpr h2
  unfold mulOk
  refine decide_eq_true ?_
  rcases hp with hp | hp
  · have := l3 hp; omega
  · have := l4 hp; omega
theorem dMul_of {i j : Int} (h : mulOk i j = true) : dMul (.int i) (.int j) st = some (.int (i * j)) := by simp only [dMul, if_pos h]
theorem dMod_of {i j : Int} (h : 0 < j) : dMod (.int i) (.int j) st = some (.int (i % j)) := by simp only [dMod, if_pos h]
theorem dDiv_of {i j : Int} (h : divOk j = true) : dDiv (.int i) (.int j) st = some (.int (i / j)) := by simp only [dDiv, if_pos h]
theorem dDivmod_of {i j : Int} (h : divOk j = true) : dDivmod [.int i, .int j] st = some (.tup [.int (i / j), .int (i % j)]) := by simp only [dDivmod, if_pos h]
end
/-! ## loops -/
section
variable {env : Ev} {st : Store} {fe : Ev → M D}
theorem eComp_of {vs : List Nat} {fi : Ev → M (List D)} {tg : D → Ev → Option Ev} {tt : Ev → M Bool} {l ds : List D} {st1 st2 : Store} (h1 : fi env st = .ok l st1) (h2 : compGo tg tt fe (evWipe env vs) l [] st1 = .ok ds st2) : eComp vs fi tg tt fe env st = .ok (.lst ds) st2 := by
  show (fi env >>= _) st = _
  rw [bind_app, h1, bnd_ok, bind_app, h2, bnd_ok]
  rfl
theorem compGo_inv {i : Nat} (I : Store → Prop) (P : D → Prop) : ∀ (l : List D) (acc : List D) (st : Store), (∀ d ∈ l, ∀ st, I st → ∃ y st', fe (env.set i (some d)) st = .ok y st' ∧ I st' ∧ P y) → I st →
    ∃ ys st', compGo (tgName i) (fun _ => pure true) fe env l acc st = .ok (acc ++ ys) st' ∧ I st' ∧ ys.length = l.length ∧ ∀ y ∈ ys, P y
  | [], acc, st, _, hi => ⟨[], st, by simp [compGo], hi, rfl, by simp⟩
  | d :: l, acc, st, h, hi => by
    obtain ⟨y, st1, e1, i1, p1⟩ := h d (by simp) st hi
    obtain ⟨ys, st2, e2, i2, hl, p2⟩ := compGo_inv I P l (acc ++ [y]) st1 (fun d hd => h d (by simp [hd])) i1
    refine ⟨y :: ys, st2, ?_, i2, by simp [hl], ?_⟩
    · unfold compGo
      simp only [tgName, bind_app, noErr_app, pure_app', noe_ok, bnd_ok, if_pos, e1]
      rw [e2]
      simp
    · intro z hz
      rcases List.mem_cons.mp hz with rfl | hz
      · exact p1
      · exact p2 z hz
theorem compGo_map {i : Nat} (f : D → D) : ∀ (l : List D) (acc : List D), (∀ d ∈ l, fe (env.set i (some d)) st = .ok (f d) st) → compGo (tgName i) (fun _ => pure true) fe env l acc st = .ok (acc ++ l.map f) st
  | [], acc, _ => by simp [compGo]
  | d :: l, acc, h => by
    have e1 := h d (by simp)
    have e2 := compGo_map f l (acc ++ [f d]) (fun d hd => h d (by simp [hd]))
    unfold compGo
    simp only [tgName, bind_app, noErr_app, pure_app', noe_ok, bnd_ok, if_pos, e1]
    rw [e2]
    simp
theorem pick {α β : Type} [Inhabited β] [DecidableEq α] {l : List α} {R : α → β → Prop} (h : ∀ d ∈ l, ∃ y, R d y) : ∃ f : α → β, ∀ d ∈ l, R d (f d) := by
  classical
  refine ⟨fun d => if hd : d ∈ l then Classical.choose (h d hd) else default, fun d hd => ?_⟩
  simp only [dif_pos hd]
  exact Classical.choose_spec (h d hd)
theorem pickD {β : Type} [Inhabited β] {l : List D} {R : D → β → Prop} (h : ∀ d ∈ l, ∃ y, R d y) : ∃ f : D → β, ∀ d ∈ l, R d (f d) := by
  classical
  exact pick h
theorem bools_map (l : List D) (f : D → Bool) : bools? (l.map fun d => D.bl (f d)) = some (l.map f) := by
  induction l with
  | nil => rfl
  | cons d l ih => simp only [List.map_cons, bools?, ih]; rfl
theorem ints_map (l : List D) (f : D → Int) : ints? (l.map fun d => D.int (f d)) = some (l.map f) := by
  induction l with
  | nil => rfl
  | cons d l ih => simp only [List.map_cons, ints?, ih]; rfl
theorem ints_map' (l : List Int) : ints? (l.map D.int) = some l := by
  induction l with
  | nil => rfl
  | cons d l ih => simp only [List.map_cons, ints?, ih]; rfl
/-- a loop that looks at each item and stops at the first bad one -/
theorem forGo_all {i : Nat} {g : Ev → M Fl} (J : Ev → Prop) (f : D → Bool) {r : D} : ∀ (l : List D) (env : Ev), J env → (∀ d ∈ l, ∀ env, J env → ∃ env', J env' ∧ g (env.set i (some d)) st = .ok (if f d = true then .nx env' else .ret r) st) →
    ∃ env', J env' ∧ forGo (tgName i) g l env st = .ok (if l.all f = true then .nx env' else .ret r) st
  | [], env, j, _ => ⟨env, j, by simp [forGo]⟩
  | d :: l, env, j, h => by
    obtain ⟨e1, j1, h1⟩ := h d (by simp) env j
    obtain ⟨e2, j2, h2⟩ := forGo_all J f l e1 j1 (fun d hd => h d (by simp [hd]))
    refine ⟨e2, j2, ?_⟩
    unfold forGo
    simp only [tgName, bind_app, h1, bnd_ok]
    by_cases q : f d = true
    · simp only [q, if_true, List.all_cons, Bool.true_and]; exact h2
    · simp [q]
/-- a loop with an invariant that ends no sooner -/
theorem forGo_inv {i : Nat} {g : Ev → M Fl} : ∀ (l : List D) (I : Nat → Ev → Store → Prop) (env : Ev) (st : Store), I 0 env st → (∀ k d, l[k]? = some d → ∀ env st, I k env st → ∃ env' st', I (k + 1) env' st' ∧ g (env.set i (some d)) st = .ok (.nx env') st') →
    ∃ env' st', I l.length env' st' ∧ forGo (tgName i) g l env st = .ok (.nx env') st'
  | [], I, env, st, h0, _ => ⟨env, st, h0, by simp [forGo]⟩
  | d :: l, I, env, st, h0, h => by
    obtain ⟨e1, s1, i1, h1⟩ := h 0 d rfl env st h0
    obtain ⟨e2, s2, i2, h2⟩ := forGo_inv l (fun k => I (k + 1)) e1 s1 i1 (fun k d' hd => h (k + 1) d' hd)
    refine ⟨e2, s2, i2, ?_⟩
    unfold forGo
    simp only [tgName, bind_app, h1, bnd_ok]
    exact h2
end
end G
end

section
set_option Elab.async false
set_option linter.all false
set_option maxRecDepth 100000
set_option maxHeartbeats 1000000
namespace G
open PySem PySem.Spec PyProof.Rows L2
/-! ## plain data of a bounded depth -/
def Sh (L : Nat) : Nat → D → Prop
  | _, .non => True
  | _, .bl _ => True
  | _, .int i => i.natAbs < 10 ^ 31
  | _, .str x => PyData.strOk x = true ∧ x.length ≤ 100
  | k + 1, .tup l => l.length ≤ L ∧ ∀ x ∈ l, Sh L k x
  | k + 1, .lst l => l.length ≤ L ∧ ∀ x ∈ l, Sh L k x
  | _, _ => False
theorem Sh.mono {L L' : Nat} (hL : L ≤ L') : ∀ {k k' : Nat} {d : D}, k ≤ k' → Sh L k d → Sh L' k' d
  | _, _, .non, _, _ => by simp [Sh]
  | _, _, .bl _, _, _ => by simp [Sh]
  | _, _, .int _, _, h => by simpa only [Sh] using h
  | _, _, .str x, _, h => by simpa only [Sh] using h
  | 0, _, .tup l, _, h => by simp [Sh] at h
  | 0, _, .lst l, _, h => by simp [Sh] at h
  | k + 1, 0, .tup l, hk, h => absurd hk (by omega)
  | k + 1, 0, .lst l, hk, h => absurd hk (by omega)
  | k + 1, k' + 1, .tup l, hk, h => by
    simp only [Sh] at h ⊢
    exact ⟨Nat.le_trans h.1 hL, fun x hx => Sh.mono hL (by omega) (h.2 x hx)⟩
  | k + 1, k' + 1, .lst l, hk, h => by
    simp only [Sh] at h ⊢
    exact ⟨Nat.le_trans h.1 hL, fun x hx => Sh.mono hL (by omega) (h.2 x hx)⟩
  | _, _, .cell _, _, h => by simp [Sh] at h
  | _, _, .dct0, _, h => by simp [Sh] at h
  | _, _, .exc _, _, h => by simp [Sh] at h
  | _, _, .con _, _, h => by simp [Sh] at h
theorem sh_list {k : Nat} : ∀ (l : List D), (∀ x ∈ l, ∃ p, x.data = some p ∧ p.canLay0 = true ∧ p.depth ≤ k ∧ p.hasDict = false) → ∃ ps, D.datas l = some ps ∧ PyData.canLayAll0 ps = true ∧ PyData.depthAll ps ≤ k ∧ PyData.hasDictAll ps = false
  | [], _ => ⟨[], by simp [D.datas], by simp [PyData.canLayAll0], by simp [PyData.depthAll], by simp [PyData.hasDictAll]⟩
  | x :: l, h => by
    obtain ⟨p, e, c, q, z⟩ := h x (by simp)
    obtain ⟨ps, es, cs, qs, zs⟩ := sh_list l fun y hy => h y (by simp [hy])
    refine ⟨p :: ps, by simp only [D.datas, e, es], by simp only [PyData.canLayAll0, c, cs, Bool.and_self], ?_, by simp only [PyData.hasDictAll, z, zs, Bool.or_self]⟩
    simp only [PyData.depthAll]
    omega
theorem Sh.data {L : Nat} : ∀ {k : Nat} {d : D}, Sh L k d → ∃ p, d.data = some p ∧ p.canLay0 = true ∧ p.depth ≤ k ∧ p.hasDict = false
  | _, .non, _ => ⟨_, rfl, rfl, Nat.zero_le _, rfl⟩
  | _, .bl _, _ => ⟨_, rfl, rfl, Nat.zero_le _, rfl⟩
  | _, .int _, _ => ⟨_, rfl, rfl, Nat.zero_le _, rfl⟩
  | _, .str x, h => ⟨_, rfl, by simp only [Sh] at h; simpa only [PyData.canLay0] using h.1, Nat.zero_le _, rfl⟩
  | 0, .tup l, h => by simp [Sh] at h
  | 0, .lst l, h => by simp [Sh] at h
  | k + 1, .tup l, h => by
    simp only [Sh] at h
    obtain ⟨ps, e, c, q, z⟩ := sh_list l fun x hx => Sh.data (h.2 x hx)
    exact ⟨.tuple ps, by simp [D.data, e], by simpa [PyData.canLay0] using c, by simp only [PyData.depth]; omega, by simpa [PyData.hasDict] using z⟩
  | k + 1, .lst l, h => by
    simp only [Sh] at h
    obtain ⟨ps, e, c, q, z⟩ := sh_list l fun x hx => Sh.data (h.2 x hx)
    exact ⟨.list ps, by simp [D.data, e], by simpa [PyData.canLay0] using c, by simp only [PyData.depth]; omega, by simpa [PyData.hasDict] using z⟩
  | _, .cell _, h => by simp [Sh] at h
  | _, .dct0, h => by simp [Sh] at h
  | _, .exc _, h => by simp [Sh] at h
  | _, .con _, h => by simp [Sh] at h
theorem Sh.shaped {L k : Nat} {d : D} (h : Sh L k d) (hk : k ≤ 64) : ∃ p, d.data = some p ∧ SeqAt.shaped p = true := by
  obtain ⟨p, e, c, q, _⟩ := h.data
  exact ⟨p, e, by simp only [SeqAt.shaped, c, Bool.true_and, decide_eq_true_eq]; omega⟩
/-- is d the text x? -/
def isW (d : D) (x : Str) : Bool := match d with
  | .str y => y == x
  | _ => false
theorem eqv_str {L k : Nat} {d : D} {p : PyData} {x : Str} (h : Sh L k d) (e : d.data = some p) : PyData.eqv p (.str x) = isW d x := by
  cases d with
  | tup l => simp only [D.data] at e; cases q : D.datas l with
    | none => rw [q] at e; cases e
    | some ps => rw [q] at e; cases e; rfl
  | lst l => simp only [D.data] at e; cases q : D.datas l with
    | none => rw [q] at e; cases e
    | some ps => rw [q] at e; cases e; rfl
  | non => cases e; rfl
  | bl b => cases e; rfl
  | int i => cases e; rfl
  | str y => cases e; rfl
  | cell _ => cases e
  | dct0 => cases e
  | exc _ => cases e
  | con _ => cases e
theorem beq_str_comm (x y : Str) : (x == y) = (y == x) := by
  by_cases h : x = y
  · subst h; rfl
  · have h2 : ¬ y = x := fun e => h e.symm
    rw [show (x == y) = false from by simpa using h, show (y == x) = false from by simpa using h2]
theorem eqv_str' {L k : Nat} {d : D} {p : PyData} {x : Str} (h : Sh L k d) (e : d.data = some p) : PyData.eqv (.str x) p = isW d x := by
  cases d with
  | tup l => simp only [D.data] at e; cases q : D.datas l with
    | none => rw [q] at e; cases e
    | some ps => rw [q] at e; cases e; rfl
  | lst l => simp only [D.data] at e; cases q : D.datas l with
    | none => rw [q] at e; cases e
    | some ps => rw [q] at e; cases e; rfl
  | non => cases e; rfl
  | bl b => cases e; rfl
  | int i => cases e; rfl
  | str y => cases e; exact beq_str_comm _ _
  | cell _ => cases e
  | dct0 => cases e
  | exc _ => cases e
  | con _ => cases e
theorem shaped_str {x : Str} (h : PyData.strOk x = true) : SeqAt.shaped (.str x) = true := by
  simp only [SeqAt.shaped, PyData.canLay0, h, PyData.depth]; rfl
section
variable {L k : Nat} {d : D} {st : Store}
theorem dEq_w {x : Str} (h : Sh L k d) (hk : k ≤ 64) (hx : PyData.strOk x = true) : dEq d (.str x) st = some (.bl (isW d x)) := by
  obtain ⟨p, e, s⟩ := h.shaped hk
  simp only [dEq, eqD, e, D.data, s, shaped_str hx, Bool.and_self, if_true, Option.map_some, eqv_str h e]
theorem dNe_w {x : Str} (h : Sh L k d) (hk : k ≤ 64) (hx : PyData.strOk x = true) : dNe d (.str x) st = some (.bl (!isW d x)) := by
  obtain ⟨p, e, s⟩ := h.shaped hk
  simp only [dNe, eqD, e, D.data, s, shaped_str hx, Bool.and_self, if_true, Option.map_some, eqv_str h e]
def strsD (xs : List Str) : List D := xs.map .str
theorem datas_strs : ∀ xs : List Str, D.datas (xs.map D.str) = some (xs.map PyData.str)
  | [] => rfl
  | x :: xs => by simp only [List.map_cons, D.datas, D.data, datas_strs xs]
theorem canLay_strs : ∀ xs : List Str, xs.all PyData.strOk = true → PyData.canLayAll0 (xs.map PyData.str) = true
  | [], _ => rfl
  | x :: xs, h => by
    simp only [List.all_cons, Bool.and_eq_true] at h
    simp only [List.map_cons, PyData.canLayAll0, PyData.canLay0, h.1, canLay_strs xs h.2, Bool.and_self]
theorem depth_strs : ∀ xs : List Str, PyData.depthAll (xs.map PyData.str) = 0
  | [] => rfl
  | x :: xs => by simp only [List.map_cons, PyData.depthAll, PyData.depth, depth_strs xs]; rfl
theorem inD_strs {xs : List Str} (h : Sh L k d) (hk : k ≤ 64) (hx : xs.all PyData.strOk = true) : inD d (.tup (xs.map D.str)) = some (xs.any fun x => isW d x) := by
  obtain ⟨p, e, s⟩ := h.shaped hk
  have s2 : SeqAt.shaped (.tuple (xs.map PyData.str)) = true := by
    simp only [SeqAt.shaped, PyData.canLay0, canLay_strs xs hx, PyData.depth, depth_strs]; rfl
  simp only [inD, e, D.data, datas_strs, Option.map_some, s, s2, Bool.and_self, if_true, List.any_map]
  congr 2
  funext x
  exact eqv_str' h e
theorem inD_strsL {xs : List Str} (h : Sh L k d) (hk : k ≤ 64) (hx : xs.all PyData.strOk = true) : inD d (.lst (xs.map D.str)) = some (xs.any fun x => isW d x) := by
  obtain ⟨p, e, s⟩ := h.shaped hk
  have s2 : SeqAt.shaped (.list (xs.map PyData.str)) = true := by
    simp only [SeqAt.shaped, PyData.canLay0, canLay_strs xs hx, PyData.depth, depth_strs]; rfl
  simp only [inD, e, D.data, datas_strs, Option.map_some, s, s2, Bool.and_self, if_true, List.any_map]
  congr 2
  funext x
  exact eqv_str' h e
theorem dIn_2 {x y : Str} (h : Sh L k d) (hk : k ≤ 64) (hx : [x, y].all PyData.strOk = true) : dIn d (.tup [.str x, .str y]) st = some (.bl (isW d x || isW d y)) := by
  have e := inD_strs h hk hx
  simp only [List.map_cons, List.map_nil, List.any_cons, List.any_nil, Bool.or_false] at e
  simp only [dIn, e, Option.map_some]
theorem dNotIn_2L {x y : Str} (h : Sh L k d) (hk : k ≤ 64) (hx : [x, y].all PyData.strOk = true) : dNotIn d (.lst [.str x, .str y]) st = some (.bl (!(isW d x || isW d y))) := by
  have e := inD_strsL h hk hx
  simp only [List.map_cons, List.map_nil, List.any_cons, List.any_nil, Bool.or_false] at e
  simp only [dNotIn, e, Option.map_some]
theorem dNotIn_3L {x y z : Str} (h : Sh L k d) (hk : k ≤ 64) (hx : [x, y, z].all PyData.strOk = true) : dNotIn d (.lst [.str x, .str y, .str z]) st = some (.bl (!(isW d x || (isW d y || isW d z)))) := by
  have e := inD_strsL h hk hx
  simp only [List.map_cons, List.map_nil, List.any_cons, List.any_nil, Bool.or_false] at e
  simp only [dNotIn, e, Option.map_some]
theorem dNotIn_ints {i a b : Int} : dNotIn (.int i) (.tup [.int a, .int b]) st = some (.bl (!(decide (a = i) || decide (b = i)))) := by
  have e : inD (.int i) (.tup [.int a, .int b]) = some (decide (a = i) || (decide (b = i) || false)) := rfl
  simp only [dNotIn, e, Option.map_some, Bool.or_false]
def qTup : D → Bool
  | .tup _ => true
  | _ => false
def qInt : D → Bool
  | .int _ => true
  | _ => false
def qBl : D → Bool
  | .bl _ => true
  | _ => false
def qStr : D → Bool
  | .str _ => true
  | _ => false
theorem dIsT_tuple (h : Sh L k d) : dIsT "tuple" d st = some (.bl (qTup d)) := by
  cases d <;> first | rfl | simp [Sh] at h
theorem dIsT_int (h : Sh L k d) : dIsT "int" d st = some (.bl (qInt d || qBl d)) := by
  cases d <;> first | rfl | simp [Sh] at h
theorem dIsT_bool (h : Sh L k d) : dIsT "bool" d st = some (.bl (qBl d)) := by
  cases d <;> first | rfl | simp [Sh] at h
theorem dIsT_str (h : Sh L k d) : dIsT "str" d st = some (.bl (qStr d)) := by
  cases d <;> first | rfl | simp [Sh] at h
@[simp] theorem eChain_app {fa fb fc : Ev → M D} {g g' : D → D → Store → Option D} {env : Ev} : eChain g g' fa fb fc env st = (fa env st).bnd fun x st => (fb env st).bnd fun y st => (lif (g x y st) st).bnd fun z st => (asB z st).bnd fun k st => if k = true then (fc env st).bnd (fun u st => lif (g' y u st) st) else .ok (.bl false) st := by
  show (fa env >>= _) st = _
  simp only [bind_app]
  congr 1
  funext x st
  simp only [bind_app]
  congr 1
  funext y st
  simp only [bind_app, lift_app]
  congr 1
  funext z st
  simp only [bind_app]
  congr 1
  funext k st
  cases k <;> rfl
end
section
variable {st : Store} {env : Ev} {fa fb : Ev → M D}
@[simp] theorem eAnd_app : eAnd fa fb env st = (fa env st).bnd fun d st => (asB d st).bnd fun b => if b = true then fb env else fun st => .ok (.bl false) st := rfl
@[simp] theorem eOr_app : eOr fa fb env st = (fa env st).bnd fun d st => (asB d st).bnd fun b => if b = true then fun st => .ok (.bl true) st else fb env := rfl
@[simp] theorem eNot_app : eNot fa env st = (fa env st).bnd fun d st => (asB d st).bnd fun b st => .ok (.bl (!b)) st := rfl
theorem atI_nat {l : List D} {k : Nat} (h : k < l.length) : atI l (k : Int) = l[k]? := by
  unfold atI ixN
  rw [if_pos (by omega), if_pos (by omega)]
  simp
@[simp] theorem dIdx_t0 (a : D) (l : List D) : dIdx (.tup (a :: l)) (.int 0) st = some a := atI_nat (l := a :: l) (k := 0) (by simp)
@[simp] theorem dIdx_t1 (a b : D) (l : List D) : dIdx (.tup (a :: b :: l)) (.int 1) st = some b := atI_nat (l := a :: b :: l) (k := 1) (by simp)
@[simp] theorem dIdx_t2 (a b c : D) (l : List D) : dIdx (.tup (a :: b :: c :: l)) (.int 2) st = some c := atI_nat (l := a :: b :: c :: l) (k := 2) (by simp)
@[simp] theorem dIdx_l0 (a : D) (l : List D) : dIdx (.lst (a :: l)) (.int 0) st = some a := atI_nat (l := a :: l) (k := 0) (by simp)
@[simp] theorem dIdx_l1 (a b : D) (l : List D) : dIdx (.lst (a :: b :: l)) (.int 1) st = some b := atI_nat (l := a :: b :: l) (k := 1) (by simp)
theorem dIdx_tn {l : List D} {k : Nat} {d : D} (h : l[k]? = some d) : dIdx (.tup l) (.int (k : Int)) st = some d := by
  have := (List.getElem?_eq_some_iff.mp h).1
  rw [← h]; exact atI_nat this
theorem dIdx_ln {l : List D} {k : Nat} {d : D} (h : l[k]? = some d) : dIdx (.lst l) (.int (k : Int)) st = some d := by
  have := (List.getElem?_eq_some_iff.mp h).1
  rw [← h]; exact atI_nat this
theorem dIdx_cn {l : List D} {c k : Nat} {d : D} (hc : cellL st c = some l) (h : l[k]? = some d) : dIdx (.cell c) (.int (k : Int)) st = some d := by
  have := (List.getElem?_eq_some_iff.mp h).1
  simp only [dIdx, hc, Option.bind_some]
  rw [← h]; exact atI_nat this
@[simp] theorem dLen_tup (l : List D) : dLen [.tup l] st = some (.int l.length) := rfl
@[simp] theorem dLen_lst (l : List D) : dLen [.lst l] st = some (.int l.length) := rfl
@[simp] theorem dTuple_lst (l : List D) : dTuple [.lst l] st = some (.tup l) := rfl
end
end G
end

section
set_option Elab.async false
set_option linter.all false
set_option autoImplicit false
set_option maxRecDepth 100000
set_option maxHeartbeats 1000000
namespace G
open PySem PySem.Spec PyProof.Rows L2
/-! ## the module's constants -/
inductive Con (K : PySem.W.Frag) (mg : Str → Option Value) (x : Str) : D → Prop
  | int {i : Int} {t : Tok} (h : mg x = some (.int i t)) : Con K mg x (.int i)
  | str {z : Str} {t : Tok} (h : mg x = some (.str z t)) : Con K mg x (.str z)
  | tup {zs : List Str} (h : mg x = some (.ref (He.ga K x))) (hs : ∀ H, SqT K H (He.ga K x) (zs.map V.str)) (hl : zs.length ≤ sizeLine) : Con K mg x (.tup (zs.map D.str))
theorem reps_strs {w : Wd} : ∀ zs : List Str, Reps w (zs.map D.str) (zs.map V.str)
  | [] => by simp [Reps]
  | z :: zs => by
    simp only [List.map_cons, Reps]
    exact ⟨_, _, rfl, by simp [Rep], reps_strs zs⟩
section
variable {X : Cx} {W : XW} {e a b c : Expr} {pos p : Pos} {fa fb fc : Ev → M D} {x : Str}
theorem de_con {d : D} (hg : Gl X x) (hc : Con X.K X.mg x d) (hd : (x == ("__debug__" : Str)) = false := by decide) : DE X W (.Name x pos) (eC d) := by
  cases hc with
  | @int i t h =>
    refine PE.imp' (pe_glob (v := .int i) hg h ⟨t, rfl⟩ hd) fun σ H Q h => ?_
    obtain ⟨w, env, hk, rfl, r, n, h⟩ := h
    exact Wp.ok_ (a := D.int i) r h _ (by simp [Rep])
  | @str z t h =>
    refine PE.imp' (pe_glob (v := .str z) hg h ⟨t, rfl⟩ hd) fun σ H Q h => ?_
    obtain ⟨w, env, hk, rfl, r, n, h⟩ := h
    exact Wp.ok_ (a := D.str z) r h _ (by simp [Rep])
  | @tup zs h hs hl =>
    refine PE.imp' (pe_glob (v := .ref (He.ga X.K x)) hg h rfl hd) fun σ H Q h => ?_
    obtain ⟨w, env, hk, rfl, r, n, h⟩ := h
    refine Wp.ok_ (a := D.tup (zs.map D.str)) r h _ ?_
    simp only [Rep]
    exact ⟨_, zs.map V.str, rfl, by rw [hk]; exact hs _, reps_strs zs, by simpa using hl⟩
/-! ## signs -/
def chars (z : Str) : List D := z.cps.toList.map fun c => D.str ⟨#[c]⟩
def asS : D → M Str
  | .str z => pure z
  | _ => M.stuck
def iChars (f : Ev → M D) : Ev → M (List D) := fun env => do
  let d ← f env
  let z ← asS d
  if z.length ≤ sizeLine then pure (chars z) else M.stuck
theorem asS_wp {w : Wd} {d : D} {P : Str → Wd → Prop} {V' : Str → Wd → Prop} (rs : RS w) (h : Wp w (asS d w.st) P V') : ∃ b, d = .str b ∧ P b w := by
  cases d with
  | str b => exact ⟨b, rfl, Wp.ok_ rs h⟩
  | _ => exact h.elim
theorem walks_str {w : Wd} {z : Str} (hz : z.length ≤ sizeLine) : Walks w (Its z) (chars z) where
  step := fun w' hk rs b i d e => by
    unfold chars at e
    rw [List.getElem?_map] at e
    cases q : z.cps.toList[i]? with
    | none => rw [q] at e; cases e
    | some c =>
      rw [q] at e
      cases e
      have hi : i < z.cps.size := by
        have := (List.getElem?_eq_some_iff.mp q).1
        simpa using this
      refine ⟨hi, fun v H' hv => ?_⟩
      obtain ⟨rfl, c', hc', rfl⟩ := hv
      have e3 : c' = c := by
        rw [Array.getElem?_toList] at q
        rw [hc'] at q
        cases q
        rfl
      subst e3
      exact ⟨w', .refl rs, rfl, rfl, rfl, by simp [Rep]⟩
  stop := fun w' hk rs b => by
    unfold chars
    rw [List.length_map]
    exact Nat.le_of_eq (by simp)
  len := by
    unfold chars
    rw [List.length_map]
    exact hz
theorem di_chars {tg : Expr} (h : DE X W a fa) : DI X W tg a (iChars fa) := by
  refine PI.imp' (pi_str h) fun σ H R h => ?_
  obtain ⟨w, env, hk, rfl, r, n, h⟩ := h
  refine ⟨w, env, hk, rfl, r, n, (Wp.bind h).imp fun d w1 a1 h1 v rv => ?_⟩
  obtain ⟨z, rfl, h2⟩ := asS_wp a1.rs (Wp.bind h1)
  simp only [Rep] at rv
  by_cases hc : z.length ≤ sizeLine
  · rw [if_pos hc] at h2
    exact ⟨z, rv, Wp.ok_ (a := chars z) a1.rs h2 _ (walks_str hc)⟩
  · rw [if_neg hc] at h2
    exact h2.elim
def sign? : D → Option Nat
  | .str z => match z.cps.toList with
    | [c] => some c
    | _ => none
  | _ => none
def dInS : D → D → Store → Option D := fun a b _ => match sign? a, b with
  | some c, .str z => some (.bl (decide (c ∈ z.cps.toList)))
  | _, _ => none
def dNotInS : D → D → Store → Option D := fun a b _ => match sign? a, b with
  | some c, .str z => some (.bl (!decide (c ∈ z.cps.toList)))
  | _, _ => none
theorem sign_some {d : D} {c : Nat} (h : sign? d = some c) : d = .str ⟨#[c]⟩ := by
  cases d with
  | str z =>
    obtain ⟨cs⟩ := z
    obtain ⟨l⟩ := cs
    simp only [sign?] at h
    split at h
    · cases h
      rfl
    · cases h
  | _ => cases h
theorem od_inS : OpD X (compareOp .In) dInS := OpR.imp' op_in_sign fun x y H Q h => by
  obtain ⟨w, a, b, hk, rfl, rs, ra, rb, q⟩ := h
  obtain ⟨d, e⟩ := wq_some q
  have e0 := e
  unfold dInS at e
  split at e
  · rename_i c z hs
    cases sign_some hs
    simp only [Rep] at ra rb
    exact ⟨c, z, ra, rb, q.here rs (e0.trans e.symm) (rep_bl _)⟩
  · cases e
theorem od_notInS : OpD X (compareOp .NotIn) dNotInS := OpR.imp' op_notIn_sign fun x y H Q h => by
  obtain ⟨w, a, b, hk, rfl, rs, ra, rb, q⟩ := h
  obtain ⟨d, e⟩ := wq_some q
  have e0 := e
  unfold dNotInS at e
  split at e
  · rename_i c z hs
    cases sign_some hs
    simp only [Rep] at ra rb
    exact ⟨c, z, ra, rb, q.here rs (e0.trans e.symm) (rep_bl _)⟩
  · cases e
/-! ## int of a truth -/
def dIntB : List D → Store → Option D
  | [.bl k], _ => some (.int (if k then 1 else 0))
  | _, _ => none
theorem cd_intB : CallD X (.type "int") dIntB := CallR.imp' call_int1 fun xs H Q h => by
  obtain ⟨w, ds, hk, rfl, rs, rd, q⟩ := h
  obtain ⟨d, e⟩ := wq_some q
  unfold dIntB at e
  split at e
  · rename_i k
    obtain ⟨v, rfl, r⟩ := reps1 rd
    simp only [Rep] at r
    exact .inr ⟨k, by rw [r], q.here rs rfl (rep_int _)⟩
  · cases e
/-! ## max of a list -/
def maxI : List Int → Option Int
  | [] => none
  | n :: r => some (r.foldl max n)
theorem foldl_max (r : List Int) : ∀ n : Int, (r.foldl max n = n ∨ r.foldl max n ∈ r) ∧ n ≤ r.foldl max n ∧ ∀ y ∈ r, y ≤ r.foldl max n := by
  induction r with
  | nil => intro n; exact ⟨.inl rfl, Int.le_refl _, by simp⟩
  | cons m r ih =>
    intro n
    obtain ⟨h1, h2, h3⟩ := ih (max n m)
    simp only [List.foldl_cons]
    refine ⟨?_, by omega, fun y hy => ?_⟩
    · rcases h1 with h1 | h1
      · rw [h1]
        by_cases z : n ≤ m
        · right; rw [Int.max_eq_right z]; simp
        · left; rw [Int.max_eq_left (by omega)]
      · right; simp [h1]
    · rcases List.mem_cons.mp hy with rfl | hy
      · omega
      · exact h3 y hy
def dMaxL : List D → Store → Option D
  | [.lst l], _ => (ints? l).bind fun ns => (maxI ns).map .int
  | _, _ => none
theorem cd_maxL (hc : X.calm = true) : CallD X (.builtin "max") dMaxL := CallR.imp' (cr_max hc) fun xs H Q h => by
  obtain ⟨w, ds, hk, rfl, rs, rd, q⟩ := h
  obtain ⟨d, e⟩ := wq_some q
  have e0 := e
  unfold dMaxL at e
  split at e
  · rename_i l
    obtain ⟨v, rfl, r⟩ := reps1 rd
    simp only [Rep] at r
    obtain ⟨a, ys, rfl, s, r1, l1⟩ := r
    cases qi : ints? l with
    | none => rw [qi] at e; cases e
    | some ns =>
      rw [qi] at e
      have ey := ints_reps qi r1
      subst ey
      cases ns with
      | nil => cases e
      | cons n r =>
        obtain ⟨f1, f2, f3⟩ := foldl_max r n
        refine ⟨a, n :: r, rfl, by rw [← hk]; exact SqL.of s.1.1, by simp, fun m hm hy => ?_⟩
        have em : m = r.foldl max n := by
          have a1 : m ≤ r.foldl max n := by
            rcases List.mem_cons.mp hm with rfl | hm
            · exact f2
            · exact f3 m hm
          have a2 : r.foldl max n ≤ m := by
            rcases f1 with f1 | f1
            · rw [f1]; exact hy n (by simp)
            · exact hy _ (by simp [f1])
          omega
        subst em
        exact q.here rs (e0.trans e.symm) (rep_int _)
  · cases e
end
end G
end

section
set_option Elab.async false
set_option linter.all false
set_option autoImplicit false
set_option maxRecDepth 100000
set_option maxHeartbeats 1000000
namespace G
open PySem PySem.Spec PyProof.Rows L2
section
variable {X : Cx} {W : XW} {e a b c : Expr} {pos p : Pos} {fa fb fc : Ev → M D} {x : Str}
/-! ## repr of any datum -/
def dReprA : List D → Store → Option D
  | [.non], _ => some (.str "None")
  | [.bl k], _ => some (.str (if k then "True" else "False"))
  | [.str z], _ => if (reprText z).length ≤ sizeLine then some (.str (reprText z)) else none
  | [.dct0], _ => some (.str (PyData.shown (.dict [])))
  | ds, st => dRepr ds st
theorem cr_none : CallR X (.builtin "repr") (fun xs H Q => xs = [.non] ∧ Q (.str "None") H) := by
  intro pins s σ H xs us Q I r h
  obtain ⟨rfl, q⟩ := h
  obtain ⟨u, rfl, ru⟩ := vals1 r
  cases (show u = Value.none from ru)
  exact PySem.P.repr_of_none ⟨.str _, H, I.tok _, ⟨_, rfl⟩, q⟩
theorem cr_bool : CallR X (.builtin "repr") (fun xs H Q => ∃ k : Bool, xs = [.bl k] ∧ Q (.str (if k then "True" else "False")) H) := by
  intro pins s σ H xs us Q I r h
  obtain ⟨k, rfl, q⟩ := h
  obtain ⟨u, rfl, ru⟩ := vals1 r
  cases (show u = Value.bool k from ru)
  refine PySem.P.repr_of_bool ?_
  exact ⟨.str (if k then "True" else "False"), H, I.tok _, by cases k <;> exact ⟨_, rfl⟩, q⟩
theorem cr_strR : CallR X (.builtin "repr") (fun xs H Q => ∃ z : Str, xs = [.str z] ∧ (reprText z).length ≤ sizeLine ∧ Q (.str (reprText z)) H) := by
  intro pins s σ H xs us Q I r h
  obtain ⟨z, rfl, hz, q⟩ := h
  obtain ⟨u, rfl, t, rfl⟩ := vals1 r
  exact PySem.P.repr_of_str ⟨.str _, H, I.tok _, ⟨_, rfl⟩, q⟩ hz
theorem cr_dct0 (hg : X.A.guards = some []) (hu : X.A.units + 64 < cLine) : CallR X (.builtin "repr") (fun xs H Q => ∃ a, xs = [.ref a] ∧ H a = some (.dK []) ∧ Q (.str (PyData.shown (.dict []))) H) := by
  intro pins s σ H xs us Q I r h
  obtain ⟨a, rfl, ha, q⟩ := h
  obtain ⟨u, rfl, ru⟩ := vals1 r
  cases (show u = Value.ref a from ru)
  obtain ⟨_, hne, vs, kv, dd⟩ := dk_of I.hok ha
  have hv : vs = [] := by cases kv; rfl
  subst hv
  obtain ⟨o, es, ep, h1, h2, h3, _, h5, _⟩ := dd
  have he : es.toList = [] := by
    generalize es.toList = l at h5
    cases h5; rfl
  have hsm : ¬ sysModules ∈ [a] := by
    intro z
    rw [List.mem_singleton.mp z] at hne
    simp at hne
  have rr : Reads s.heap (.ref a) (.dict []) (a :: [] ++ []) := .dict h1 h2.1 h3 (by rw [he]; exact .nil) (by rw [he]; exact .nil)
  refine repr_of_reads' (h₀ := s.heap) rr rfl (fun _ => hsm) hg (by show X.A.units + (PyData.depth (.dict []) + 1) < cLine; have : PyData.depth (.dict []) = 1 := rfl; omega) (fun _ _ z => z) ?_ (by decide)
  intro h' ut tk keep
  exact ⟨.str _, H, I.un (Un.kept keep) (I.hok.kept keep), ⟨_, rfl⟩, q⟩
theorem cd_reprA (hg : X.A.guards = some []) (hu : X.A.units + 64 < cLine) : CallD X (.builtin "repr") dReprA := CallR.imp' (cr_none.or (cr_bool.or (cr_strR.or ((cr_dct0 hg hu).or (cd_repr hg hu))))) fun xs H Q h => by
  obtain ⟨w, ds, hk, rfl, rs, rd, q⟩ := h
  obtain ⟨d, e⟩ := wq_some q
  have e0 := e
  unfold dReprA at e
  split at e
  · obtain ⟨v, rfl, r⟩ := reps1 rd
    simp only [Rep] at r
    exact .inl ⟨by rw [r], q.here rs rfl (rep_str _)⟩
  · rename_i k
    obtain ⟨v, rfl, r⟩ := reps1 rd
    simp only [Rep] at r
    exact .inr (.inl ⟨k, by rw [r], q.here rs rfl (rep_str _)⟩)
  · rename_i z
    obtain ⟨v, rfl, r⟩ := reps1 rd
    simp only [Rep] at r
    split at e
    · rename_i hz
      exact .inr (.inr (.inl ⟨z, by rw [r], hz, q.here rs (e0.trans e.symm) (rep_str _)⟩))
    · cases e
  · obtain ⟨v, rfl, r⟩ := reps1 rd
    simp only [Rep] at r
    obtain ⟨a, rfl, s⟩ := r
    exact .inr (.inr (.inr (.inl ⟨a, rfl, s.1.1, q.here rs rfl (rep_str _)⟩)))
  · rename_i ds' n1 n2 n3 n4
    refine .inr (.inr (.inr (.inr ⟨w, _, hk, rfl, rs, rd, ?_⟩)))
    obtain ⟨d', e', q'⟩ := q
    exact ⟨d', e.trans (e0.symm.trans e'), q'⟩
/-! ## split -/
def dSplit : D → D → Store → Option D
  | .str z, .str y, _ => if (y.length == 0) = false ∧ z.length + 2 ≤ sizeLine ∧ (Txt.split z y).length ≤ sizeLine then some (.lst ((Txt.split z y).map D.str)) else none
  | _, _, _ => none
def eSplit (fa fb : Ev → M D) : Ev → M D := fun env => do
  let d ← fa env
  let z ← asS d
  let y ← fb env
  lift (dSplit (.str z) y)
theorem de_split {apos : Pos} (ha : DE X W a fa) (hb : DE X W b fb) (hs : starEach [b] X.env = [(false, eval b X.env)] := by rfl) (hbase : attributeBase a "split" X.env (eval a X.env) = eval a X.env := by rfl) (hline : (apos.endLine == pos.line) = true := by rfl) :
    DE X W (.Call (.Attribute a "split" apos) [b] [] pos) (eSplit fa fb) := PE.imp' (pe_split ha hb hs hbase hline) fun σ H Q h => by
  obtain ⟨w, env, hk, rfl, r, n, h⟩ := h
  refine ⟨w, env, hk, rfl, r, n, (Wp.bind h).imp fun x w1 a1 h1 v rv => ?_⟩
  obtain ⟨z, rfl, h2⟩ := asS_wp a1.rs (Wp.bind h1)
  simp only [Rep] at rv
  refine ⟨⟨z, rv⟩, w1, env, a1.k.trans hk, rfl, a1.rs, n.after a1, (Wp.bind h2).imp fun y w2 a2 h3 u ru => ?_⟩
  have q := Wq.of h3
  obtain ⟨d, e⟩ := wq_some q
  have e0 := e
  unfold dSplit at e
  split at e
  · rename_i z' y' ez
    cases ez
    simp only [Rep] at ru
    split at e
    · rename_i hc
      refine ⟨z, _, rv, by rw [ru], hc.1, hc.2.1, fun p hp => ?_⟩
      refine q.new a2.rs hp (e0.trans e.symm) ?_
      exact rep_new a2.rs hp (reps_strs _) (by simpa using hc.2.2)
    · cases e
  · cases e
/-! ## d.get(k, x) of a dict's cell -/
def isDct (d : D) (st : Store) : Bool := match d with
  | .cell c => match st[c]? with
    | some (.dct _) => true
    | _ => false
  | _ => false
def chkD (d : D) : M Unit := fun st => if isDct d st = true then .ok () st else .bad
def dGet2 (o k z : D) (st : Store) : Option D := match o, keyOf k with
    | .cell c, some key => match st[c]? with
      | some (.dct l) => some ((valD l key).getD z)
      | _ => none
    | _, _ => none
def eGet2 (fo fk fx : Ev → M D) : Ev → M D := fun env => do
  let o ← fo env
  chkD o
  let k ← fk env
  let z ← fx env
  lift (dGet2 o k z)
theorem chkD_wp {w : Wd} {d : D} {P : Unit → Wd → Prop} {V' : Str → Wd → Prop} (rs : RS w) (h : Wp w (chkD d w.st) P V') : (∃ c l, d = .cell c ∧ w.st[c]? = some (.dct l)) ∧ P () w := by
  unfold chkD at h
  by_cases hd : isDct d w.st = true
  · rw [if_pos hd] at h
    refine ⟨?_, Wp.ok_ rs h⟩
    unfold isDct at hd
    split at hd
    · split at hd
      · rename_i c _ l e; exact ⟨c, l, rfl, e⟩
      · cases hd
    · cases hd
  · rw [if_neg hd] at h; exact h.elim
theorem de_get2 {apos : Pos} (hu : X.A.units + 1 < cLine) (ha : DE X W a fa) (hb : DE X W b fb) (hc : DE X W c fc) (m : M2 X a "get" apos b c pos) : DE X W (.Call (.Attribute a "get" apos) [b, c] [] pos) (eGet2 fa fb fc) := PE.imp' (pe_dget2 hu ha hb hc m) fun σ H Q h => by
  obtain ⟨w, env, hk, rfl, r, n, h⟩ := h
  refine ⟨w, env, hk, rfl, r, n, (Wp.bind h).imp fun x w1 a1 h1 v rv => ?_⟩
  obtain ⟨⟨c1, l1, rfl, e1⟩, h2⟩ := chkD_wp a1.rs (Wp.bind h1)
  have rv0 := rv
  simp only [Rep] at rv
  obtain ⟨kv1, q1, _⟩ := a1.rs.cells c1 _ e1
  refine ⟨_, rv.1, .inl ⟨kv1, .inl q1⟩, w1, env, a1.k.trans hk, rfl, a1.rs, n.after a1, (Wp.bind h2).imp fun y w2 a2 h3 u ru => ?_⟩
  refine ⟨w2, env, a2.k.trans (a1.k.trans hk), rfl, a2.rs, (n.after a1).after a2, (Wp.bind h3).imp fun z w3 a3 h4 t rt => ?_⟩
  have q := Wq.of h4
  obtain ⟨d, e⟩ := wq_some q
  have e0 := e
  unfold dGet2 at e
  split at e
  · rename_i c' key ec hkey
    cases ec
    split at e
    · rename_i l el
      obtain ⟨kvs, e2, r2⟩ := a3.rs.cells _ _ el
      have rv3 := (a2.trans a3).rep rv0
      simp only [Rep] at rv3
      have eu := keyOf_rep hkey ru
      subst eu
      have em : w1.m c1 = w3.m c1 := V.ref.inj (rv.1.symm.trans rv3.1)
      cases qv : valD l key with
      | some d1 =>
        obtain ⟨v1, ev, r1⟩ := valD_rep r2 qv
        refine ⟨some v1, ?_, q.here a3.rs (e0.trans (e.symm.trans (by rw [qv]; rfl))) r1⟩
        rw [← ev, em]
        exact DGet.k e2
      | none =>
        have ev := valD_none r2 qv
        refine ⟨none, ?_, q.here a3.rs (e0.trans (e.symm.trans (by rw [qv]; rfl))) rt⟩
        rw [← ev, em]
        exact DGet.k e2
    · cases e
  · cases e
/-! ## enumerate -/
def pairsD (l : List D) : List D := (l.zipIdx).map fun q => D.tup [.int (q.2 : Nat), q.1]
def iEnumL (f : Ev → M D) : Ev → M (List D) := fun env => do
  let d ← f env
  let l ← itemsL d
  pure (pairsD l)
theorem walks_enum {w : Wd} {a : Addr} {l : List D} (r : Rep w (.lst l) (.ref a)) : Walks w (Ite w.K a) (pairsD l) where
  step := fun w' hk rs b i d e => by
    have r' := b.rep _ _ r
    simp only [Rep] at r'
    obtain ⟨a', xs, ea, s, rr, _⟩ := r'
    cases ea
    unfold pairsD at e
    rw [List.getElem?_map, List.getElem?_zipIdx] at e
    cases q : l[i]? with
    | none => rw [q] at e; cases e
    | some d0 =>
      rw [q] at e
      simp only [Option.map_some, Nat.zero_add, Option.some.injEq] at e
      subst e
      obtain ⟨x0, ex, rx⟩ := reps_at rr q
      have sl : SqL w.K w'.H a xs := by rw [← hk]; exact SqL.of s.1.1
      refine ⟨⟨xs, x0, sl, ex⟩, fun y H' hy => ?_⟩
      obtain ⟨T, x1, rfl, hT, rfl, hx⟩ := hy
      have e1 := hx xs sl
      rw [ex] at e1
      cases e1
      refine ⟨⟨w'.K, w'.m, w'.st, upd w'.H T (.tup [.int (i : Nat), x0]), w'.rv⟩, aft_new (K := w'.K) (m := w'.m) (st := w'.st) (H := w'.H) (rv := w'.rv) rs hT, rfl, rfl, rfl, ?_⟩
      refine rep_newT rs hT ?_ (Nat.le_of_ble_eq_true rfl)
      simp only [Reps]
      exact ⟨_, _, rfl, by simp [Rep], _, _, rfl, rx, rfl⟩
  stop := fun w' hk rs b => by
    have r' := b.rep _ _ r
    simp only [Rep] at r'
    obtain ⟨a', xs, ea, s, rr, _⟩ := r'
    cases ea
    refine ⟨xs, by rw [← hk]; exact SqL.of s.1.1, ?_⟩
    unfold pairsD
    simp [reps_len rr]
  len := by
    simp only [Rep] at r
    obtain ⟨_, _, _, _, _, h⟩ := r
    unfold pairsD
    simpa using h
theorem itemsL_wp {w : Wd} {d : D} {P : List D → Wd → Prop} {V' : Str → Wd → Prop} (rs : RS w) (h : Wp w (itemsL d w.st) P V') : ∃ l, d = .lst l ∧ P l w := by
  cases d with
  | lst l => exact ⟨l, rfl, Wp.ok_ rs h⟩
  | _ => exact h.elim
theorem di_enum {elts : List Expr} {kk : Nat} {tpos : Pos} (hg : Gl X "enumerate") (hm : X.mg "enumerate" = none) (h : DE X W a fa) (hst : starEach [a] X.env = (false, eval a X.env) :: starEach [] X.env := by rfl) : DI X W (.Tuple elts kk tpos) (.Call (.Name "enumerate" p) [a] [] pos) (iEnumL fa) := by
  refine PI.imp' (pi_enum hg hm (pa_cons (es := []) h pa_nil hst) (hs := hst)) fun σ H R h => ?_
  obtain ⟨w, env, hk, rfl, r, n, h⟩ := h
  refine ⟨w, env, hk, rfl, r, n, (Wp.bind h).imp fun d w1 a1 h1 v rv => ?_⟩
  obtain ⟨l, rfl, h2⟩ := itemsL_wp a1.rs (Wp.bind h1)
  have rv0 := rv
  simp only [Rep] at rv
  obtain ⟨q, xs, rfl, s, rr, hl⟩ := rv
  refine ⟨q, xs, rfl, SqL.of s.1.1, ?_⟩
  have wk := walks_enum rv0
  rw [a1.k.trans hk] at wk
  exact Wp.ok_ (a := pairsD l) a1.rs h2 _ wk
/-! ## a, b = a list of two -/
def gtPairL (t1 t2 : D → Ev → M Ev) : D → Ev → M Ev := fun d env => match d with
  | .lst [a, b] => do
    let e1 ← t1 a env
    t2 b e1
  | _ => M.stuck
theorem gtPairL_wp {g1 g2 : D → Ev → M Ev} {w : Wd} {d : D} {env : Ev} {P : Ev → Wd → Prop} {V' : Str → Wd → Prop} (h : Wp w (gtPairL g1 g2 d env w.st) P V') : ∃ x y, d = .lst [x, y] ∧ Wp w ((g1 x env >>= fun e1 => g2 y e1) w.st) P V' := by
  cases d with
  | lst l =>
    match l, h with
    | [], h => exact h.elim
    | [x], h => exact h.elim
    | [x, y], h => exact ⟨x, y, rfl, h⟩
    | x :: y :: z :: l, h => exact h.elim
  | _ => exact h.elim
theorem dg_pairL {t1 t2 : Expr} {kk : Nat} {g1 g2 : D → Ev → M Ev} (hc : X.calm = true) (h1 : DG X W0 t1 g1) (h2 : DG X W0 t2 g2) (hs1 : (assignEach [t1, t2] X.env).map (·.2) = assign t1 X.env :: (assignEach [t2] X.env).map (·.2) := by rfl) (hs2 : (assignEach [t2] X.env).map (·.2) = assign t2 X.env :: (assignEach [] X.env).map (·.2) := by rfl)
    (hn : (assignEach [t1, t2] X.env).length = 2 := by rfl) (hst : (assignEach [t1, t2] X.env).findIdx? (·.1) = none := by rfl) : DG X W (.Tuple [t1, t2] kk pos) (fun d env => noErr (gtPairL g1 g2 d env)) := PG.imp' (pg_lst hc (pgs_cons h1 (pgs_cons h2 pgs_nil hs2) hs1) hn hst) fun v σ H Q h => by
  obtain ⟨w, env, d, hk, rfl, r, n, rv, h⟩ := h
  have h := noErr_wp (x := gtPairL g1 g2 d env) h
  obtain ⟨x, y, rfl, h⟩ := gtPairL_wp h
  simp only [Rep] at rv
  obtain ⟨p, xs, rfl, sq, rr, _⟩ := rv
  obtain ⟨u1, u2, rfl, r1, r2⟩ := reps2 rr
  refine ⟨p, [u1, u2], rfl, SqL.of sq.1.1, rfl, u1, [u2], rfl, w, env, x, hk, rfl, r, n, r1, (Wp.bind h).mono (fun e1 w1 a1 h1 σ1 n1 => ?_) fun _ _ _ z => z⟩
  refine ⟨u2, [], rfl, w1, e1, y, a1.k.trans hk, rfl, a1.rs, n1, a1.rep r2, h1.mono (fun e2 w2 a2 h2 σ2 n2 => ⟨rfl, h2 σ2 n2⟩) fun _ _ _ z => z⟩
end
end G
end

section
set_option Elab.async false
set_option linter.all false
set_option maxRecDepth 100000
set_option maxHeartbeats 4000000
namespace G
open PySem PySem.Spec PyProof.Rows L2
/-! ## a tuple times 0, times 1 -/
theorem tmul0 (l : Addr) (its : Array Value) (n : Nat) (dd : Option Addr) (sl : Array (Option Value)) (u : Tok) (he : its.isEmpty = false) :
    Meets (Builtin.«tuple.__mul__» ⟨[.ref l, .int 0 u], []⟩) (fun _ R s => s.heap.get? l = some { cls := .type "tuple", dict := dd, data := .seq its n, slots := sl } ∧ R (.ok (.ret (Value.ref s.heap.objs.size))) { s with heap := s.heap.push { cls := .type "tuple", data := .seq #[] } }) :=
  .of_wp fun prog w A R s h => by
    obtain ⟨hp, g, d, tk, os⟩ := s
    obtain ⟨hl, h⟩ := h
    have idx := AutoSeq1.idx_int
    have e1 : (its.isEmpty || (0 : Int) == 1) = false := by rw [he]; rfl
    wp_walk using wpAny_loadPart' hl
    repeat (first
      | (refine wpAny_ite_false (decide_eq_false (by rw [e1]; decide)) ?_; wp_walk using wpAny_loadPart' hl)
      | (refine wpAny_ite_true (decide_eq_true (by rfl)) ?_; wp_walk using wpAny_loadPart' hl)
      | (refine wpAny_ite_false (decide_eq_false (by decide)) ?_; wp_walk using wpAny_loadPart' hl))
    exact ⟨_, rfl, h⟩
theorem tmul1 (l : Addr) (its : Array Value) (n : Nat) (dd : Option Addr) (sl : Array (Option Value)) (u : Tok) :
    Meets (Builtin.«tuple.__mul__» ⟨[.ref l, .int 1 u], []⟩) (fun _ R s => s.heap.get? l = some { cls := .type "tuple", dict := dd, data := .seq its n, slots := sl } ∧ R (.ok (.ret (Value.ref l))) s) :=
  .of_wp fun prog w A R s h => by
    obtain ⟨hp, g, d, tk, os⟩ := s
    obtain ⟨hl, h⟩ := h
    have idx := AutoSeq1.idx_int
    have e1 : (its.isEmpty || (1 : Int) == 1) = true := by rw [show ((1 : Int) == 1) = true from rfl, Bool.or_true]
    wp_walk using wpAny_loadPart' hl
    repeat (first
      | (refine wpAny_ite_true (decide_eq_true (by rw [e1])) ?_; wp_walk using wpAny_loadPart' hl)
      | (refine wpAny_ite_false (decide_eq_false (by decide)) ?_; wp_walk using wpAny_loadPart' hl))
    exact ⟨_, rfl, h⟩
section
variable {X : Cx} {W : XW}
theorem op_t01 : OpR X (binaryOp .Mult) (fun x y H Q => ∃ l xs, x = .ref l ∧ SqT X.K H l xs ∧ xs ≠ [] ∧ ((y = .int 1 ∧ Q (.ref l) H) ∨ (y = .int 0 ∧ ∀ p, H p = none → Q (.ref p) (upd H p (.tup []))))) := by
  intro pins s σ H x y v u Q I rx ry h
  obtain ⟨l, xs, rfl, hT, hne, h⟩ := h
  cases rx
  obtain ⟨its, r, ⟨⟨cls, dd, data, sl⟩, ho, hc, n, hd⟩, hs⟩ := I.tuple hT
  simp only at hc hd
  subst hc hd
  have hi : its.toArray.isEmpty = false := by
    cases its with
    | nil => exact absurd (List.eq_nil_of_length_eq_zero (by rw [r.length]; rfl)) hne
    | cons a b => rfl
  rcases h with ⟨rfl, q⟩ | ⟨rfl, q⟩
  · obtain ⟨t, rfl⟩ := ry
    refine wpAny_binaryOp_repeat_ref (T := "tuple") (U := "int") (by decide) ⟨_, ho, rfl⟩ (fun s' => typeIs_int s' 1 t) noFill_tuple_mul F.fills_int_mul F.slot_int_rmul repeat_tuple F.slot_int_index.lookup ?_
    refine call_meets F.slot_int_rmul (typeIs_int s 1 t) F.entry_int_rmul (F.args_int_rmul_2 _ _) (int_rmul_tuple 1 t l its.toArray n dd sl) ⟨ho, rfl, ⟨_, ho, rfl⟩, ?_⟩
    refine call_meets F.slot_tuple_mul ⟨_, ho, rfl⟩ F.entry_tuple_mul (F.args_tuple_mul_2 _ _) (tmul1 l its.toArray n dd sl t) ⟨ho, ?_⟩
    exact ⟨.ref l, H, I, rfl, q⟩
  · obtain ⟨t, rfl⟩ := ry
    refine wpAny_binaryOp_repeat_ref (T := "tuple") (U := "int") (by decide) ⟨_, ho, rfl⟩ (fun s' => typeIs_int s' 0 t) noFill_tuple_mul F.fills_int_mul F.slot_int_rmul repeat_tuple F.slot_int_index.lookup ?_
    refine call_meets F.slot_int_rmul (typeIs_int s 0 t) F.entry_int_rmul (F.args_int_rmul_2 _ _) (int_rmul_tuple 0 t l its.toArray n dd sl) ⟨ho, rfl, ⟨_, ho, rfl⟩, ?_⟩
    refine call_meets F.slot_tuple_mul ⟨_, ho, rfl⟩ F.entry_tuple_mul (F.args_tuple_mul_2 _ _) (tmul0 l its.toArray n dd sl t hi) ⟨ho, ?_⟩
    refine ⟨.ref s.heap.objs.size, _, I.laid (t' := s.toks) (o := .tup []) (fun b ob q => Heap.get?_push_of_some _ q) (Nat.le_refl _) ?_, rfl, q _ (I.hok.fresh (Nat.le_refl _))⟩
    exact ⟨Nat.zero_le _, [], .nil, ⟨_, Heap.get?_push_size _ rfl, rfl, _, rfl⟩⟩
def dMulT : D → D → Store → Option D
  | .tup l, .int k, _ => if l ≠ [] ∧ 0 ≤ k ∧ k ≤ 1000 ∧ l.length ≤ 1000 then some (.tup (List.replicate k.toNat l).flatten) else none
  | _, _, _ => none
theorem reps_flat {w : Wd} {ds : List D} {xs : List V} (h : Reps w ds xs) : ∀ n, Reps w (List.replicate n ds).flatten (List.replicate n xs).flatten
  | 0 => by simp [Reps]
  | n + 1 => by
    rw [List.replicate_succ, List.flatten_cons, List.replicate_succ, List.flatten_cons]
    exact reps_app h (reps_flat h n)
theorem od_mulT : OpD X (binaryOp .Mult) dMulT := OpR.imp' (op_repT.or op_t01) fun x y H Q h => by
  obtain ⟨w, a, b, hk, rfl, rs, ra, rb, q⟩ := h
  obtain ⟨d, e⟩ := wq_some q
  have e0 := e
  unfold dMulT at e
  split at e
  · rename_i l k
    split at e
    · rename_i hc
      obtain ⟨h1, h2, h3, h4⟩ := hc
      have ra0 := ra
      simp only [Rep] at ra rb
      obtain ⟨p, xs, rfl, sq, rr, hl⟩ := ra
      subst rb
      have hx : xs ≠ [] := fun z => h1 (List.eq_nil_of_length_eq_zero (by rw [← reps_len rr, z]; rfl))
      have hxl : xs.length ≤ 1000 := by rw [reps_len rr]; exact h4
      have sq' : SqT X.K w.H p xs := by rw [← hk]; exact sq
      by_cases k2 : 2 ≤ k
      · refine .inl ⟨p, k, xs, rfl, rfl, sq', hx, k2, h3, hxl, fun p' hp => ?_⟩
        refine q.new rs hp (e0.trans e.symm) ?_
        refine rep_newT rs hp (reps_flat rr _) ?_
        rw [PyProof.Rows.lm_len_rep_flat, sizeLine_eq]
        have a1 : k.toNat * l.length ≤ 1000 * 1000 := Nat.mul_le_mul (by omega) h4
        omega
      · refine .inr ⟨p, xs, rfl, sq', hx, ?_⟩
        rcases (by omega : k = 1 ∨ k = 0) with rfl | rfl
        · refine .inl ⟨rfl, q.here rs (e0.trans (e.symm.trans ?_)) ra0⟩
          simp
        · refine .inr ⟨rfl, fun p' hp => q.new rs hp (e0.trans e.symm) ?_⟩
          refine rep_newT rs hp ?_ (Nat.zero_le _)
          simp [Reps]
    · cases e
  · cases e
end
/-! ## {} -/
def eDct0 : Ev → M D := fun _ => pure .dct0
theorem de_dct0 {X : Cx} {W : XW} {pos : Pos} : DE X W (.Dict [] [] pos) eDct0 := PE.imp' pe_dnewK fun σ H Q h => by
  obtain ⟨w, env, hk, rfl, r, n, h⟩ := h
  intro p hp
  have a1 := aft_new (K := w.K) (m := w.m) (st := w.st) (H := w.H) (rv := w.rv) (o := .dK []) r hp
  refine h _ a1 rfl (.ref p) ?_
  simp only [Rep]
  exact ⟨p, rfl, fr_new r hp⟩
/-! ## a Hook with one more look -/
def hookM (n : Nat) (fa : List He.Fa) (fn : List He.DefD) (ex : PySem.W.Frag → Bool) : PySem.W.Hook where
  α := He.AlD × Bool
  obs := fun s => (He.obsDG n fa fn s.heap.get?, ex (He.frG s.heap.get? (He.asD s.heap.get? n)))
  val := fun _ => (He.valD fn, true)
  says := fun _ h => ∃ K : PySem.W.Frag, K.In h ∧ He.SaysD fa fn K ∧ ex K = true
  of := fun _ _ e => ⟨_, He.frG_in, congrArg Prod.fst e, congrArg Prod.snd e⟩
  keeps := fun _ _ _ ⟨K, hK, c⟩ k => ⟨K, PySem.W.Frag.In.keeps hK k, c⟩
def obsM (n : Nat) (fa : List He.Fa) (fn : List He.DefD) (ex : PySem.W.Frag → Bool) (g : Addr → Option Obj) : He.AlD × Bool := (He.obsDG n fa fn g, ex (He.frG g (He.asD g n)))
theorem obsM_eq {n : Nat} {fa : List He.Fa} {fn : List He.DefD} {ex : PySem.W.Frag → Bool} {g : Addr → Option Obj} {s : Shared} (h : ∀ a, g a = s.heap.get? a) : obsM n fa fn ex g = (hookM n fa fn ex).obs s := by
  have e : g = s.heap.get? := funext h
  rw [e] <;> rfl
end G
end

section
set_option Elab.async false
set_option linter.all false
set_option maxRecDepth 100000
set_option maxHeartbeats 1000000
namespace G
open PySem PySem.Spec PyProof.Rows L2
section
variable {env : Ev} {st : Store} {fa fb fc fe : Ev → M D}
@[simp] theorem eSplit_app : eSplit fa fb env st = (fa env st).bnd fun d st => (asS d st).bnd fun z st => (fb env st).bnd fun y st => lif (dSplit (.str z) y st) st := by
  show (fa env >>= _) st = _
  simp only [bind_app]
  congr 1
@[simp] theorem asS_str (z : Str) : asS (.str z) st = .ok z st := rfl
@[simp] theorem eGet2_app : eGet2 fa fb fc env st = (fa env st).bnd fun o st => (chkD o st).bnd fun _ st => (fb env st).bnd fun k st => (fc env st).bnd fun z st => lif (dGet2 o k z st) st := by
  show (fa env >>= _) st = _
  simp only [bind_app]
  congr 1
@[simp] theorem eDct0_app : eDct0 env st = .ok .dct0 st := rfl
@[simp] theorem iEnumL_app : iEnumL fa env st = (fa env st).bnd fun d st => (itemsL d st).bnd fun l st => .ok (pairsD l) st := rfl
@[simp] theorem itemsL_lst (l : List D) : itemsL (.lst l) st = .ok l st := rfl
theorem iChars_at {z : Str} {st' : Store} (h : fa env st = .ok (.str z) st') (hz : z.length ≤ sizeLine) : iChars fa env st = .ok (chars z) st' := by
  show (fa env >>= _) st = _
  rw [bind_app, h, bnd_ok, bind_app, asS_str, bnd_ok, if_pos hz]
  rfl
@[simp] theorem gtPairL_app {t1 t2 : D → Ev → M Ev} {a b : D} : gtPairL t1 t2 (.lst [a, b]) env st = (t1 a env st).bnd fun e1 => t2 b e1 := rfl
/-- a list of those that are not so -/
theorem compGo_not {i : Nat} {tt : Ev → M Bool} (I : Store → Prop) (f : D → Bool) : ∀ (l acc : List D) (st : Store), i < env.length → (∀ d ∈ l, ∀ st, I st → ∃ st', tt (env.set i (some d)) st = .ok (!f d) st' ∧ I st') → I st →
    ∃ st', compGo (tgName i) tt (eVar i) env l acc st = .ok (acc ++ l.filter fun d => !f d) st' ∧ I st'
  | [], acc, st, _, _, hi => ⟨st, by simp [compGo], hi⟩
  | d :: l, acc, st, hl, h, hi => by
    obtain ⟨st1, e1, i1⟩ := h d (by simp) st hi
    have ev : ∀ st, eVar i (env.set i (some d)) st = .ok d st := fun st => eVar_at i (by simp [hl])
    by_cases q : f d = true
    · obtain ⟨st2, e2, i2⟩ := compGo_not I f l acc st1 hl (fun d hd => h d (by simp [hd])) i1
      refine ⟨st2, ?_, i2⟩
      unfold compGo
      simp only [tgName, bind_app, noErr_app, e1, noe_ok, bnd_ok, q]
      simp [q, e2]
    · obtain ⟨st2, e2, i2⟩ := compGo_not I f l (acc ++ [d]) st1 hl (fun d hd => h d (by simp [hd])) i1
      have q' : f d = false := by simpa using q
      refine ⟨st2, ?_, i2⟩
      unfold compGo
      simp only [tgName, bind_app, noErr_app, e1, noe_ok, bnd_ok, q']
      simp [q', ev, e2]
theorem filter_nil {l : List D} (f : D → Bool) : (l.filter fun d => !f d).isEmpty = l.all f := by
  induction l with
  | nil => rfl
  | cons d l ih =>
    by_cases q : f d = true
    · simp only [List.filter_cons, q, List.all_cons, Bool.true_and]; exact ih
    · have q' : f d = false := by simpa using q
      simp [q']
theorem dEq_nil {L k : Nat} {l : List D} (h : Sh L k (.lst l)) (hk : k ≤ 64) : dEq (.lst l) (.lst []) st = some (.bl l.isEmpty) := by
  obtain ⟨p, e, s⟩ := h.shaped hk
  have e2 : (D.lst []).data = some (.list []) := rfl
  have s2 : SeqAt.shaped (.list []) = true := rfl
  have ev : PyData.eqv p (.list []) = l.isEmpty := by
    cases l with
    | nil => cases e; rfl
    | cons d l =>
      simp only [D.data] at e
      cases q : D.datas (d :: l) with
      | none => rw [q] at e; cases e
      | some ps =>
        rw [q] at e
        cases e
        cases ps with
        | nil =>
          simp only [D.datas] at q
          split at q <;> cases q
        | cons p ps => rfl
  simp only [dEq, eqD, e, e2, s, s2, Bool.and_self, if_true, Option.map_some, ev]
theorem dEq_nilT {L k : Nat} {l : List D} (h : Sh L k (.tup l)) (hk : k ≤ 64) : dEq (.tup l) (.tup []) st = some (.bl l.isEmpty) := by
  obtain ⟨p, e, s⟩ := h.shaped hk
  have e2 : (D.tup []).data = some (.tuple []) := rfl
  have s2 : SeqAt.shaped (.tuple []) = true := rfl
  have ev : PyData.eqv p (.tuple []) = l.isEmpty := by
    cases l with
    | nil => cases e; rfl
    | cons d l =>
      simp only [D.data] at e
      cases q : D.datas (d :: l) with
      | none => rw [q] at e; cases e
      | some ps =>
        rw [q] at e
        cases e
        cases ps with
        | nil =>
          simp only [D.datas] at q
          split at q <;> cases q
        | cons p ps => rfl
  simp only [dEq, eqD, e, e2, s, s2, Bool.and_self, if_true, Option.map_some, ev]
theorem dNe_nilT {L k : Nat} {l : List D} (h : Sh L k (.tup l)) (hk : k ≤ 64) : dNe (.tup l) (.tup []) st = some (.bl (!l.isEmpty)) := by
  have e : dEq (.tup l) (.tup []) st = some (.bl l.isEmpty) := dEq_nilT h hk
  simp only [dEq] at e
  simp only [dNe]
  cases q : eqD (.tup l) (.tup []) with
  | none => rw [q] at e; cases e
  | some r => rw [q] at e; cases e; rfl
theorem sh_filter {L k : Nat} {l : List D} (f : D → Bool) (hl : l.length ≤ L) (h : ∀ x ∈ l, Sh L k x) : Sh L (k + 1) (.lst (l.filter f)) := by
  simp only [Sh]
  exact ⟨Nat.le_trans (List.length_filter_le _ _) hl, fun x hx => h x (List.mem_filter.mp hx).1⟩
end
end G
end

section
set_option Elab.async false
set_option linter.all false
set_option autoImplicit false
set_option maxRecDepth 100000
set_option maxHeartbeats 1000000
namespace G
open PySem PySem.Spec PyProof.Rows L2
section
variable {X : Cx} {W : XW} {e a b c : Expr} {s : Stmt} {pos apos : Pos} {fa fb fc : Ev → M D}
/-! ## lists in cells, changed by their methods -/
def isLst (d : D) (st : Store) : Bool := match d with
  | .cell c => match st[c]? with
    | some (.lst _) => true
    | _ => false
  | _ => false
def chkL (d : D) : M Unit := fun st => if isLst d st = true then .ok () st else .bad
theorem chkL_wp {w : Wd} {d : D} {P : Unit → Wd → Prop} {V' : Str → Wd → Prop} (rs : RS w) (h : Wp w (chkL d w.st) P V') : (∃ c l, d = .cell c ∧ w.st[c]? = some (.lst l)) ∧ P () w := by
  unfold chkL at h
  by_cases hd : isLst d w.st = true
  · rw [if_pos hd] at h
    refine ⟨?_, Wp.ok_ rs h⟩
    unfold isLst at hd
    split at hd
    · split at hd
      · rename_i c _ l e; exact ⟨c, l, rfl, e⟩
      · cases hd
    · cases hd
  · rw [if_neg hd] at h; exact h.elim
/-- the cell's list becomes another -/
def updL (d : D) (f : List D → Option (List D)) : M D := fun st => match d with
  | .cell c => match st[c]? with
    | some (.lst l) => match f l with
      | some l' => .ok .non (st.set c (.lst l'))
      | none => .bad
    | _ => .bad
  | _ => .bad
theorem updL_wp {w : Wd} {d : D} {f : List D → Option (List D)} {P : D → Wd → Prop} {V' : Str → Wd → Prop} (rs : RS w) (h : Wp w (updL d f w.st) P V') :
    ∃ c l l' xs, d = .cell c ∧ f l = some l' ∧ w.H (w.m c) = some (.lst xs) ∧ Reps w l xs ∧ l.length ≤ sizeLine ∧ ∀ xs', Reps w l' xs' → l'.length ≤ sizeLine → ∃ w', w'.H = upd w.H (w.m c) (.lst xs') ∧ Aft w w' ∧ P .non w' := by
  unfold updL at h
  split at h
  · rename_i c
    split at h
    · rename_i l el
      split at h
      · rename_i l' ef
        obtain ⟨xs, e1, r1, l1⟩ := rs.cells c _ el
        refine ⟨c, l, l', xs, rfl, ef, e1, r1, l1, fun xs' r' hl' => ?_⟩
        have up : ∀ b q, b ≠ w.m c → w.H b = some q → upd w.H (w.m c) (.lst xs') b = some q := fun b q hb z => by rw [upd_ne hb]; exact z
        have bb : Bears w ⟨w.K, w.m, w.st.set c (.lst l'), upd w.H (w.m c) (.lst xs'), w.rv⟩ := bears_set (c := .lst l') (c0 := .lst l) rs el trivial up
        have aa : Aft w ⟨w.K, w.m, w.st.set c (.lst l'), upd w.H (w.m c) (.lst xs'), w.rv⟩ := aft_set (c0 := .lst l) rs el trivial up ⟨_, upd_same, bb.reps _ _ r', hl'⟩
        exact ⟨_, rfl, aa, h _ aa rfl⟩
      · exact h.elim
    · exact h.elim
  · exact h.elim
def eLm (g : List D → List D → Option (List D)) (fo : Ev → M D) (fs : List (Ev → M D)) : Ev → M D := fun env => do
  let o ← fo env
  chkL o
  let ds ← aSeq fs env
  updL o (fun l => g l ds)
def gAppend (l : List D) : List D → Option (List D)
  | [y] => if l.length < sizeLine then some (l ++ [y]) else none
  | _ => none
def gExtend (l : List D) : List D → Option (List D)
  | [.lst ys] => if l.length + ys.length ≤ sizeLine then some (l ++ ys) else none
  | _ => none
def gInsert (l : List D) : List D → Option (List D)
  | [.int i, y] => if l.length < sizeLine ∧ 0 ≤ i ∧ i ≤ 1000000 then some (l.take i.toNat ++ [y] ++ l.drop i.toNat) else none
  | _ => none
def gClear (l : List D) : List D → Option (List D)
  | [] => some []
  | _ => none
/-- the reading of such a call -/
theorem lm_rd {g : List D → List D → Option (List D)} {fs : List (Ev → M D)} {r : V → List V → Hp → VK → Prop} {σ : L2.St} {H : Hp} {Q : VK}
    (hr : ∀ (w : Wd) (p : Addr) (l l' ds : List D) (xs vs : List V) (Q : VK), w.K = X.K → w.H p = some (.lst xs) → Reps w l xs → Reps w ds vs → l.length ≤ sizeLine → g l ds = some l' → (∀ xs', Reps w l' xs' → l'.length ≤ sizeLine → Q .non (upd w.H p (.lst xs'))) → r (.ref p) vs w.H Q)
    (h : rdE X.K W (eLm g fa fs) σ H Q) : tBM X.K "list" r (rdE X.K W fa) (rdA X.K W (aSeq fs)) σ H Q := by
  obtain ⟨w, env, hk, rfl, rs, n, h⟩ := h
  refine ⟨w, env, hk, rfl, rs, n, (Wp.bind h).imp fun x w1 a1 h1 v rv => ?_⟩
  obtain ⟨⟨c1, l1, rfl, e1⟩, h2⟩ := chkL_wp a1.rs (Wp.bind h1)
  have rv0 := rv
  simp only [Rep] at rv
  obtain ⟨xs1, q1, _⟩ := a1.rs.cells c1 _ e1
  refine ⟨by rw [rv.1]; exact .inl ⟨rfl, xs1, SqL.of q1⟩, w1, env, a1.k.trans hk, rfl, a1.rs, n.after a1, (Wp.bind h2).imp fun ds w2 a2 h3 vs rvs => ?_⟩
  obtain ⟨c, l, l', xs, ec, ef, eH, rl, hl, fin⟩ := updL_wp a2.rs h3
  cases ec
  have rv2 := a2.rep rv0
  simp only [Rep] at rv2
  rw [rv2.1]
  refine hr w2 _ l l' ds xs vs Q (a2.k.trans (a1.k.trans hk)) eH rl rvs hl ef fun xs' r' hl' => ?_
  obtain ⟨w3, e3, a3, p3⟩ := fin xs' r' hl'
  rw [← e3]
  exact p3 _ (by simp [Rep])
theorem de_append (ho : DE X W a fa) (hb : DE X W b fb)
    (hbase : attributeBase a "append" X.env (eval a X.env) = eval a X.env := by rfl) (hfew : ((backTo pos (starEach [b] X.env)).all (fun x => !x.1) && (backToKw pos (keywordEach [] X.env)).all (fun x => x.1.isSome)
      && decide ([b].length + ([] : List Keyword).length + (if ([] : List Keyword).isEmpty then 0 else 1) < 30)) = true := by rfl)
    (hline : (apos.endLine == pos.line) = true := by rfl) (hst : starEach [b] X.env = (false, eval b X.env) :: starEach [] X.env := by rfl) (hplain : (backTo pos (starEach [] X.env)).any (·.1) = false := by rfl) :
    DE X W (.Call (.Attribute a "append" apos) [b] [] pos) (eLm gAppend fa [fb]) := PE.imp' (pe_bm PySem.F.plainAttrs_list PySem.F.slot_list_append PySem.F.type_list_append mt_append ho (da_cons hb da_nil hst) hbase hfew hline hst hplain) fun σ H Q h =>
  lm_rd (fun w p l l' ds xs vs Q hk hH rl rd hl e q => by
    unfold gAppend at e
    split at e
    · rename_i y
      split at e
      · rename_i hc
        cases e
        obtain ⟨v, rfl, r⟩ := reps1 rd
        exact ⟨p, xs, v, rfl, rfl, hH, by rw [reps_len rl]; exact hc, q _ (reps_app rl rd) (by rw [List.length_append]; exact hc)⟩
      · cases e
    · cases e) h
theorem de_extend (ho : DE X W a fa) (hb : DE X W b fb)
    (hbase : attributeBase a "extend" X.env (eval a X.env) = eval a X.env := by rfl) (hfew : ((backTo pos (starEach [b] X.env)).all (fun x => !x.1) && (backToKw pos (keywordEach [] X.env)).all (fun x => x.1.isSome)
      && decide ([b].length + ([] : List Keyword).length + (if ([] : List Keyword).isEmpty then 0 else 1) < 30)) = true := by rfl)
    (hline : (apos.endLine == pos.line) = true := by rfl) (hst : starEach [b] X.env = (false, eval b X.env) :: starEach [] X.env := by rfl) (hplain : (backTo pos (starEach [] X.env)).any (·.1) = false := by rfl) :
    DE X W (.Call (.Attribute a "extend" apos) [b] [] pos) (eLm gExtend fa [fb]) := PE.imp' (pe_bm PySem.F.plainAttrs_list PySem.F.slot_list_extend PySem.F.type_list_extend mt_extend ho (da_cons hb da_nil hst) hbase hfew hline hst hplain) fun σ H Q h =>
  lm_rd (fun w p l l' ds xs vs Q hk hH rl rd hl e q => by
    unfold gExtend at e
    split at e
    · rename_i y
      split at e
      · rename_i hc
        cases e
        obtain ⟨v, rfl, r⟩ := reps1 rd
        simp only [Rep] at r
        obtain ⟨z, zs, rfl, fz, rz, lz⟩ := r
        exact ⟨p, z, xs, zs, rfl, rfl, hH, fz.1.1, by rw [reps_len rl, reps_len rz]; exact hc, q _ (reps_app rl rz) (by rw [List.length_append]; exact hc)⟩
      · cases e
    · cases e) h
theorem de_insert (ho : DE X W a fa) (hb : DE X W b fb) (hc : DE X W c fc)
    (hbase : attributeBase a "insert" X.env (eval a X.env) = eval a X.env := by rfl) (hfew : ((backTo pos (starEach [b, c] X.env)).all (fun x => !x.1) && (backToKw pos (keywordEach [] X.env)).all (fun x => x.1.isSome)
      && decide ([b, c].length + ([] : List Keyword).length + (if ([] : List Keyword).isEmpty then 0 else 1) < 30)) = true := by rfl)
    (hline : (apos.endLine == pos.line) = true := by rfl) (hst : starEach [b, c] X.env = (false, eval b X.env) :: starEach [c] X.env := by rfl) (hst2 : starEach [c] X.env = (false, eval c X.env) :: starEach [] X.env := by rfl) (hplain : (backTo pos (starEach [c] X.env)).any (·.1) = false := by rfl) :
    DE X W (.Call (.Attribute a "insert" apos) [b, c] [] pos) (eLm gInsert fa [fb, fc]) := PE.imp' (pe_bm PySem.F.plainAttrs_list PySem.F.slot_list_insert PySem.F.type_list_insert mt_insert ho (da_cons hb (da_cons hc da_nil hst2) hst) hbase hfew hline hst hplain) fun σ H Q h =>
  lm_rd (fun w p l l' ds xs vs Q hk hH rl rd hl e q => by
    unfold gInsert at e
    split at e
    · rename_i i y
      split at e
      · rename_i hc
        cases e
        obtain ⟨v, u, rfl, r, ru⟩ := reps2 rd
        simp only [Rep] at r
        refine ⟨p, xs, i, u, rfl, by rw [r], hH, by rw [reps_len rl]; exact hc.1, hc.2.1, by omega, q _ (reps_app (reps_app (reps_take _ rl) (by simp only [Reps]; exact ⟨u, [], rfl, ru, rfl⟩)) (reps_drop _ rl)) ?_⟩
        simp only [List.length_append, List.length_take, List.length_drop, List.length_cons, List.length_nil]
        omega
      · cases e
    · cases e) h
theorem de_clear (ho : DE X W a fa) (hbase : attributeBase a "clear" X.env (eval a X.env) = eval a X.env := by rfl) (hline : (apos.endLine == pos.line) = true := by rfl) :
    DE X W (.Call (.Attribute a "clear" apos) [] [] pos) (eLm gClear fa []) := PE.imp' (pe_bm0 PySem.F.plainAttrs_list PySem.F.slot_list_clear PySem.F.type_list_clear mt_clear ho hbase hline) fun σ H Q h => by
  obtain ⟨w, env, hk, rfl, rs, n, h⟩ := h
  refine ⟨w, env, hk, rfl, rs, n, (Wp.bind h).imp fun x w1 a1 h1 v rv => ?_⟩
  obtain ⟨⟨c1, l1, rfl, e1⟩, h2⟩ := chkL_wp a1.rs (Wp.bind h1)
  simp only [Rep] at rv
  obtain ⟨xs1, q1, _⟩ := a1.rs.cells c1 _ e1
  refine ⟨by rw [rv.1]; exact .inl ⟨rfl, xs1, SqL.of q1⟩, ?_⟩
  have h3 : Wp w1 (updL (.cell c1) (fun l => gClear l []) w1.st) _ _ := h2
  obtain ⟨c, l, l', xs, ec, ef, eH, rl, hl, fin⟩ := updL_wp a1.rs h3
  cases ec
  cases ef
  obtain ⟨w3, e3, a3, p3⟩ := fin [] (by simp [Reps]) (Nat.zero_le _)
  refine ⟨_, xs, rv.1, rfl, eH, ?_⟩
  rw [← e3]
  exact p3 _ (by simp [Rep])
/-! ## a list times an int, to be changed -/
def repL (d k : D) : M D := fun st => match d, k with
  | .lst l, .int k => if 0 ≤ k ∧ k ≤ 1000 ∧ l.length ≤ 1000 then .ok (.cell st.length) (st ++ [.lst (List.replicate k.toNat l).flatten]) else .bad
  | _, _ => .bad
def eRepC (fa fb : Ev → M D) : Ev → M D := fun env => do
  let d ← fa env
  let k ← fb env
  repL d k
/-- a new list at a free place becomes a cell -/
theorem aft_newL {w : Wd} {p : Addr} {l : List D} {xs : List V} (rs : RS w) (hp : w.H p = none) (r : Reps w l xs) (hl : l.length ≤ sizeLine) : Aft w ⟨w.K, mpNew w.m w.st.length p, w.st ++ [.lst l], upd w.H p (.lst xs), w.rv⟩ ∧ Rep ⟨w.K, mpNew w.m w.st.length p, w.st ++ [.lst l], upd w.H p (.lst xs), w.rv⟩ (.cell w.st.length) (.ref p) := by
  have b := bears_cell (K := w.K) (m := w.m) (st := w.st) (rv := w.rv) (c := .lst l) (same_upd (H := w.H) (p := p) (o := .lst xs) hp) hp
  refine ⟨aft_cell rs (same_upd hp) hp ⟨xs, upd_same, b.reps _ _ r, hl⟩, ?_⟩
  simp only [Rep]
  exact ⟨by rw [mpNew_new], by simp⟩
theorem de_repC (ha : DE X W a fa) (hb : DE X W b fb) : DE X W (.BinOp a .Mult b pos) (eRepC fa fb) := PE.imp' (pe_op op_rep ha hb) fun σ H Q h => by
  obtain ⟨w, env, hk, rfl, r, n, h⟩ := h
  refine ⟨w, env, hk, rfl, r, n, (Wp.bind h).imp fun x w1 a1 h1 v rv => ?_⟩
  refine ⟨w1, env, a1.k.trans hk, rfl, a1.rs, n.after a1, (Wp.bind h1).imp fun y w2 a2 h2 u ru => ?_⟩
  unfold repL at h2
  split at h2
  · rename_i l k
    split at h2
    · rename_i hc
      have rv2 := a2.rep rv
      simp only [Rep] at rv2 ru
      obtain ⟨p, xs, rfl, fz, rr, hl⟩ := rv2
      have hlen : (List.replicate k.toNat l).flatten.length ≤ sizeLine := by
        rw [PyProof.Rows.lm_len_rep_flat, sizeLine_eq]
        have a1 : k.toNat * l.length ≤ 1000 * 1000 := Nat.mul_le_mul (by omega) hc.2.2
        omega
      refine ⟨p, k, xs, rfl, ru, fz.1.1, by omega, by omega, ?_, fun p' hp => ?_⟩
      · rw [reps_len rr, sizeLine_eq]
        have a1 : l.length * k.toNat ≤ 1000 * 1000 := Nat.mul_le_mul hc.2.2 (by omega)
        omega
      · obtain ⟨a3, r3⟩ := aft_newL a2.rs hp (reps_flat rr k.toNat) hlen
        exact h2 _ a3 rfl _ r3
    · exact h2.elim
  · exact h2.elim
/-! ## reading lists in cells -/
theorem dp_cell {w : Wd} (rs : RS w) {c : Nat} {l : List D} {ps : List PyData} (h : cellL w.st c = some l) (e : D.datas l = some ps) : Dp w.K w.H (.ref (w.m c)) (.list ps) := by
  obtain ⟨xs, sq, r, _⟩ := cell_sq rs h
  exact .lst sq (dps_of l xs ps r e)
def dInC : D → D → Store → Option D := fun a b st => match b with
  | .cell c => (cellL st c).bind fun l => (inD a (.lst l)).map .bl
  | _ => none
theorem od_inC (hu : X.A.units + 65 < cLine) : OpD X (compareOp .In) dInC := OpR.imp' (op_inD hu) fun x y H Q h => by
  obtain ⟨w, a, b, hk, rfl, rs, ra, rb, q⟩ := h
  obtain ⟨d, e⟩ := wq_some q
  have e0 := e
  unfold dInC at e
  split at e
  · rename_i c
    cases qc : cellL w.st c with
    | none => rw [qc] at e; cases e
    | some l =>
      rw [qc] at e
      simp only [Option.bind_some] at e
      unfold inD at e
      cases qa : a.data with
      | none => rw [qa] at e; cases e
      | some p =>
        cases ql : D.datas l with
        | none => rw [qa] at e; simp [D.data, ql] at e
        | some qs =>
          rw [qa] at e
          simp only [D.data, ql, Option.map_some] at e
          by_cases hc : (SeqAt.shaped p && SeqAt.shaped (.list qs)) = true
          · rw [if_pos hc] at e
            simp only [Rep] at rb
            obtain ⟨s1, s2⟩ := Bool.and_eq_true_iff.mp hc
            rw [rb.1]
            exact ⟨p, qs, by rw [← hk]; exact dp_of a x p ra qa, by rw [← hk]; exact dp_cell rs qc ql, s1, s2, q.here rs (e0.trans e.symm) (rep_bl _)⟩
          · rw [if_neg hc] at e; cases e
  · cases e
def dReprC : List D → Store → Option D
  | [.cell c], st => (cellL st c).bind fun l => match (D.lst l).data with
    | some p => if reprOk p then some (.str p.shown) else none
    | none => none
  | _, _ => none
theorem cd_reprC (hg : X.A.guards = some []) (hu : X.A.units + 64 < cLine) : CallD X (.builtin "repr") dReprC := CallR.imp' (cr_reprD hg hu) fun xs H Q h => by
  obtain ⟨w, ds, hk, rfl, rs, rd, q⟩ := h
  obtain ⟨d, e⟩ := wq_some q
  have e0 := e
  unfold dReprC at e
  split at e
  · rename_i st' c
    obtain ⟨v, rfl, r⟩ := reps1 rd
    simp only [Rep] at r
    cases qc : cellL w.st c with
    | none => rw [qc] at e; cases e
    | some l =>
      rw [qc] at e
      simp only [Option.bind_some] at e
      split at e
      · rename_i p ep
        split at e
        · rename_i hok
          cases ql : D.datas l with
          | none => simp [D.data, ql] at ep
          | some qs =>
            simp only [D.data, ql, Option.map_some, Option.some.injEq] at ep
            subst ep
            exact ⟨_, .list qs, by rw [r.1], by rw [← hk]; exact dp_cell rs qc ql, hok, q.here rs (e0.trans e.symm) (rep_str _)⟩
        · cases e
      · cases e
  · cases e
/-! ## sorted ints -/
def insI (x : Int) : List Int → List Int
  | [] => [x]
  | y :: l => if x ≤ y then x :: y :: l else y :: insI x l
def sortI : List Int → List Int
  | [] => []
  | x :: l => insI x (sortI l)
theorem insI_perm (x : Int) : ∀ l, (insI x l).Perm (x :: l)
  | [] => .refl _
  | y :: l => by
    unfold insI
    split
    · exact .refl _
    · exact ((insI_perm x l).cons y).trans (.swap x y l)
theorem insI_sorted (x : Int) : ∀ l : List Int, l.Pairwise (· ≤ ·) → (insI x l).Pairwise (· ≤ ·)
  | [], _ => by simp [insI]
  | y :: l, h => by
    unfold insI
    obtain ⟨h1, h2⟩ := List.pairwise_cons.mp h
    split
    · rename_i hxy
      exact List.pairwise_cons.mpr ⟨fun z hz => by
        rcases List.mem_cons.mp hz with rfl | hz
        · exact hxy
        · exact Int.le_trans hxy (h1 z hz), h⟩
    · rename_i hxy
      refine List.pairwise_cons.mpr ⟨fun z hz => ?_, insI_sorted x l h2⟩
      rcases List.mem_cons.mp ((insI_perm x l).mem_iff.mp hz) with rfl | hz
      · omega
      · exact h1 z hz
theorem sortI_perm : ∀ l, (sortI l).Perm l
  | [] => .refl _
  | x :: l => (insI_perm x _).trans ((sortI_perm l).cons x)
theorem sortI_sorted : ∀ l, (sortI l).Pairwise (· ≤ ·)
  | [] => by simp [sortI]
  | x :: l => insI_sorted x _ (sortI_sorted l)
theorem sorted_uniqI : ∀ {l m : List Int}, l.Pairwise (· ≤ ·) → m.Pairwise (· ≤ ·) → l.Perm m → l = m
  | [], m, _, _, p => (List.Perm.eq_nil p.symm).symm
  | x :: l, [], _, _, p => absurd p.length_eq (by simp)
  | x :: l, y :: m, hl, hm, p => by
    obtain ⟨a1, a2⟩ := List.pairwise_cons.mp hl
    obtain ⟨b1, b2⟩ := List.pairwise_cons.mp hm
    have h1 : y ≤ x := by
      rcases List.mem_cons.mp (p.mem_iff.mp (List.mem_cons_self (a := x) (l := l))) with e | e
      · omega
      · exact b1 x e
    have h2 : x ≤ y := by
      rcases List.mem_cons.mp (p.mem_iff.mpr (List.mem_cons_self (a := y) (l := m))) with e | e
      · omega
      · exact a1 y e
    have e : x = y := by omega
    subst e
    rw [sorted_uniqI a2 b2 (List.Perm.cons_inv p)]
def dSortI : List D → Store → Option D
  | [.lst l], _ => (ints? l).map fun ns => .lst ((sortI ns).map .int)
  | _, _ => none
theorem reps_intsD {w : Wd} : ∀ ns : List Int, Reps w (ns.map D.int) (ns.map V.int)
  | [] => by simp [Reps]
  | z :: zs => by
    simp only [List.map_cons, Reps]
    exact ⟨_, _, rfl, by simp [Rep], reps_intsD zs⟩
theorem ints_len : ∀ {l : List D} {ns : List Int}, ints? l = some ns → ns.length = l.length
  | [], ns, h => by cases h; rfl
  | .int i :: l, ns, h => by
    cases q : ints? l with
    | none => simp [ints?, q] at h
    | some ms => simp [ints?, q] at h; subst h; simp [ints_len q]
  | .non :: _, _, h => by cases h
  | .bl _ :: _, _, h => by cases h
  | .str _ :: _, _, h => by cases h
  | .tup _ :: _, _, h => by cases h
  | .lst _ :: _, _, h => by cases h
  | .cell _ :: _, _, h => by cases h
  | .dct0 :: _, _, h => by cases h
  | .exc _ :: _, _, h => by cases h
  | .con _ :: _, _, h => by cases h
theorem cd_sortI : CallD X (.builtin "sorted") dSortI := CallR.imp' cr_sortedI fun xs H Q h => by
  obtain ⟨w, ds, hk, rfl, rs, rd, q⟩ := h
  obtain ⟨d, e⟩ := wq_some q
  have e0 := e
  unfold dSortI at e
  split at e
  · rename_i l
    obtain ⟨v, rfl, r⟩ := reps1 rd
    simp only [Rep] at r
    obtain ⟨p, ys, rfl, fz, rr, hl⟩ := r
    cases qi : ints? l with
    | none => rw [qi] at e; cases e
    | some ns =>
      rw [qi] at e
      have ey := ints_reps qi rr
      subst ey
      refine ⟨p, ns, rfl, SqL.of fz.1.1, fun ns' p' pm so hp => ?_⟩
      have e2 : ns' = sortI ns := sorted_uniqI so (sortI_sorted ns) (pm.trans (sortI_perm ns).symm)
      subst e2
      refine q.new rs hp (e0.trans e.symm) (rep_new rs hp (reps_intsD _) ?_)
      rw [List.length_map, (sortI_perm ns).length_eq, ints_len qi]
      exact hl
  · cases e
end
end G
end

section
set_option Elab.async false
set_option linter.all false
set_option autoImplicit false
set_option maxRecDepth 100000
set_option maxHeartbeats 1000000
namespace G
open PySem PySem.Spec PyProof.Rows L2
section
variable {X : Cx} {W : XW} {e a b c : Expr} {s : Stmt} {ss : List Stmt} {pos : Pos} {fa fb fc : Ev → M D} {g g' : Ev → M Fl}
/-! ## a comprehension whose list is changed later -/
def eCompC (vs : List Nat) (fi : Ev → M (List D)) (tg : D → Ev → Option Ev) (tt : Ev → M Bool) (fe : Ev → M D) : Ev → M D := fun env => do
  let l ← fi env
  let ds ← compGo tg tt fe (evWipe env vs) l []
  newCell (.lst ds)
theorem comp_rdC {vs : List Nat} {fi : Ev → M (List D)} {tg : D → Ev → Option Ev} {is : List Nat} {tt : Ev → M Bool} {fe : Ev → M D} {t : TG} (ht : TgOk X.K t tg is) (hv : ∀ i ∈ is, i ∈ vs) {σ : L2.St} {H : Hp} {Q : VK} (h : rdE X.K W (eCompC vs fi tg tt fe) σ H Q) :
    tLc (rdI X.K W fi) t (rdT X.K (fun _ _ _ => False) tt) (rdE X.K (fun _ _ _ => False) fe) vs σ H Q := by
  obtain ⟨w, env, hk, rfl, r, n, h⟩ := h
  refine ⟨w, env, hk, rfl, r, n, (Wp.bind h).imp fun l w1 a1 h1 J hJ Dn hD => ?_⟩
  have h2 := Wp.bind h1
  have hk1 : w1.K = X.K := a1.k.trans hk
  -- the whole loop ends well
  obtain ⟨dsf, stf, ef⟩ : ∃ dsf stf, compGo tg tt fe (evWipe env vs) l [] w1.st = .ok dsf stf := by
    cases er : compGo tg tt fe (evWipe env vs) l [] w1.st with
    | ok dsf stf => exact ⟨dsf, stf, rfl⟩
    | bad => rw [er] at h2; exact h2.elim
    | err c stf =>
      exfalso
      have : ∀ (l acc : List D) (st : Store), compGo tg tt fe (evWipe env vs) l acc st ≠ .err c stf := by
        intro l
        induction l with
        | nil => intro acc st q; cases q
        | cons d r ih =>
          intro acc st q
          unfold compGo at q
          cases et : tg d (evWipe env vs) with
          | none => rw [et] at q; cases q
          | some e1 =>
            rw [et] at q
            have q : M.andThen (noErr (tt e1)) (fun b => if b = true then M.andThen (noErr (fe e1)) (fun y => compGo tg tt fe (evWipe env vs) r (acc ++ [y])) else compGo tg tt fe (evWipe env vs) r acc) st = .err c stf := q
            unfold M.andThen at q
            cases e2 : noErr (tt e1) st with
            | bad => rw [e2] at q; cases q
            | err c' s' => unfold noErr at e2; split at e2 <;> cases e2
            | ok b s1 =>
              rw [e2] at q
              simp only at q
              cases b with
              | false => exact ih _ _ q
              | true =>
                simp only [if_true] at q
                cases e3 : noErr (fe e1) s1 with
                | bad => rw [e3] at q; cases q
                | err c' s' => unfold noErr at e3; split at e3 <;> cases e3
                | ok y s2 => rw [e3] at q; exact ih _ _ q
      exact this _ _ _ er
  have hfin : ∀ w3, Aft w1 w3 → w3.st = stf ++ [.lst dsf] → ∀ v, Rep w3 (.cell stf.length) v → Q v w3.H := by
    have h1' : Wp w1 (M.andThen (compGo tg tt fe (evWipe env vs) l []) (fun ds => newCell (.lst ds)) w1.st) (fun d w' => ∀ v, Rep w' d v → Q v w'.H) (fun c w' => W c σ w'.H) := h1
    unfold M.andThen at h1'
    rw [ef] at h1'
    exact h1'
  refine ⟨fun i m H => m + i = l.length ∧ ∃ (w' : Wd) (ds : List D) (acc : List V), w'.K = X.K ∧ w'.H = H ∧ RS w' ∧ w'.rv = Dn :: w1.rv ∧ Lat w1 w' ∧ Bears w1 w' ∧ H Dn = some (.lst acc) ∧ Reps w' ds acc ∧ ds.length ≤ i ∧ compGo tg tt fe (evWipe env vs) (l.drop i) ds w'.st = .ok dsf stf,
    ⟨l.length, by simp, ⟨w1.K, w1.m, w1.st, upd w1.H Dn (.lst []), Dn :: w1.rv⟩, [], [], hk1, rfl, ?_, rfl, ?_, ?_, upd_same, by simp [Reps], Nat.zero_le _, by rw [List.drop_zero]; exact ef⟩, ?_⟩
  · -- the world with the new list
    have a0 : Aft w1 ⟨w1.K, w1.m, w1.st, upd w1.H Dn (.lst []), w1.rv⟩ := aft_new a1.rs hD
    refine ⟨fun i c hc => ?_, a0.rs.inj, fun x hx z => ?_, fun x hx z => ?_⟩
    · exact cell_bears (bears_res hD) (fun o q _ => same_upd hD _ _ q) (fun _ q => roL_same (same_upd hD) q) rfl (a1.rs.cells i c hc)
    · rcases List.mem_cons.mp hx with rfl | hx
      · have z : upd w1.H x (.lst []) x = none := z; rw [upd_same] at z; cases z
      · exact a0.rs.rvs x hx z
    · rcases List.mem_cons.mp hx with rfl | hx
      · exact (fz_new (w := w1) (o := .lst []) a1.rs hD).2 z
      · exact a0.rs.rvo x hx z
  · exact aft_new a1.rs hD
  · exact bears_res hD
  · rintro i m H1 ⟨hm, w', ds, acc, hk', rfl, rs', rv', lat, b', hDa, rd, hdl, eq⟩
    have hnD : ∀ x, x ∈ w1.rv → x ≠ Dn := fun x hx z => a1.rs.rvs x hx (by rw [z]; exact hD)
    have own' : ¬ Own w'.m w'.st Dn := rs'.rvo Dn (by rw [rv']; exact List.mem_cons_self ..)
    by_cases he : i = l.length
    · refine .inl ⟨by rw [he]; exact hJ.stop w' (hk'.trans hk1.symm) rs' b', ?_⟩
      rw [he, List.drop_length] at eq
      cases eq
      have ownN : ∀ x, Own (mpNew w'.m w'.st.length Dn) (w'.st ++ [.lst dsf]) x → Own w'.m w'.st x ∨ x = Dn := fun x z => own_new z
      have bN : Bears w' ⟨w'.K, mpNew w'.m w'.st.length Dn, w'.st ++ [.lst dsf], w'.H, w1.rv⟩ := ⟨fun i hi => mpNew_old hi, by simp, fun _ _ q => q, fun x o q => ⟨⟨q.1.1, fun z => by
        rcases ownN x z with z | z
        · exact q.1.2 z
        · exact q.2 (by rw [z, rv']; exact List.mem_cons_self ..)⟩, fun z => q.2 (by rw [rv']; exact List.mem_cons_of_mem _ z)⟩, rfl⟩
      have cells : ∀ i c, (w'.st ++ [Cell.lst dsf])[i]? = some c → CellOk ⟨w'.K, mpNew w'.m w'.st.length Dn, w'.st ++ [.lst dsf], w'.H, w1.rv⟩ (mpNew w'.m w'.st.length Dn i) c := fun i c hc => by
        rcases at_new hc with ⟨hi, hc⟩ | ⟨hi, hc⟩
        · rw [mpNew_old hi]
          exact cell_bears bN (fun o q _ => q) (fun _ q => q) rfl (rs'.cells i c hc)
        · subst hc hi
          rw [mpNew_new]
          exact ⟨acc, hDa, bN.reps _ _ rd, Nat.le_trans hdl (by rw [he]; exact hJ.len)⟩
      have aN : Aft w1 ⟨w'.K, mpNew w'.m w'.st.length Dn, w'.st ++ [.lst dsf], w'.H, w1.rv⟩ := by
        refine ⟨lat.k, rfl, ⟨cells, fun i j c1 c2 q1 q2 l1 l2 q => ?_, fun x hx => lat.rs.rvs x hx, fun x hx z => ?_⟩, fun i hi => (mpNew_old (Nat.lt_of_lt_of_le hi lat.len)).trans (lat.ext i hi), Nat.le_trans lat.len (by simp), lat.tup, fun x o q => ?_⟩
        · have q : mpNew w'.m w'.st.length Dn i = mpNew w'.m w'.st.length Dn j := q
          rcases at_new q1 with ⟨hi, q1⟩ | ⟨hi, q1⟩
          · rw [mpNew_old hi] at q
            rcases at_new q2 with ⟨hj, q2⟩ | ⟨hj, q2⟩
            · rw [mpNew_old hj] at q
              exact rs'.inj i j c1 c2 q1 q2 l1 l2 q
            · rw [hj, mpNew_new] at q
              exact absurd ⟨i, c1, q1, l1, q⟩ own'
          · rw [hi, mpNew_new] at q
            rcases at_new q2 with ⟨hj, q2⟩ | ⟨hj, q2⟩
            · rw [mpNew_old hj] at q
              exact absurd ⟨j, c2, q2, l2, q.symm⟩ own'
            · rw [hi, hj]
        · rcases ownN x z with z | z
          · exact lat.rs.rvo x hx z
          · exact hnD x hx z
        · have q' := lat.fz x o q
          refine ⟨q'.1, fun z => ?_⟩
          rcases ownN x z with z | z
          · exact q'.2 z
          · subst z; exact absurd (q.1.symm.trans hD) (by simp)
      refine hfin _ aN rfl (.ref Dn) ?_
      simp only [Rep]
      exact ⟨by rw [mpNew_new], by simp⟩
    · have hlt : i < l.length := by omega
      rw [List.drop_eq_getElem_cons hlt] at eq
      obtain ⟨go, yl⟩ := hJ.step w' (hk'.trans hk1.symm) rs' b' i l[i] (by simp [hlt])
      refine .inr ⟨go, fun H' => (m - 1) + (i + 1) = l.length ∧ ∃ (w' : Wd) (ds : List D) (acc : List V), w'.K = X.K ∧ w'.H = H' ∧ RS w' ∧ w'.rv = Dn :: w1.rv ∧ Lat w1 w' ∧ Bears w1 w' ∧ H' Dn = some (.lst acc) ∧ Reps w' ds acc ∧ ds.length ≤ i + 1 ∧ compGo tg tt fe (evWipe env vs) (l.drop (i + 1)) ds w'.st = .ok dsf stf,
        fun H' hN => ⟨m - 1, by omega, hN⟩, fun x H' hx => ?_⟩
      obtain ⟨w2, a2, e2, rfl, em2, rx⟩ := yl x H' hx
      unfold compGo at eq
      cases et : tg l[i] (evWipe env vs) with
      | none => rw [et] at eq; cases eq
      | some e1 =>
        rw [et] at eq
        obtain ⟨bb, s3, eb, eq3⟩ := bind_inv eq
        have eb := noErr_ok eb
        -- after any step of the turn the list so far stands
        have keep : ∀ w3, Aft w' w3 → w3.K = X.K ∧ RS w3 ∧ w3.rv = Dn :: w1.rv ∧ Lat w1 w3 ∧ Bears w1 w3 ∧ w3.H Dn = some (.lst acc) ∧ Reps w3 ds acc := fun w3 a3 => by
          refine ⟨a3.k.trans hk', a3.rs, a3.rv.trans rv', ?_, b'.trans a3.bears, (a3.fz Dn _ ⟨hDa, own'⟩).1, a3.reps rd⟩
          refine lat.trans ⟨a3.k, rfl, ⟨fun i c hc => cell_rv (fun x hx => by rw [a3.rv, rv']; exact List.mem_cons_of_mem _ hx) (a3.rs.cells i c hc), a3.rs.inj, fun x hx => a3.rs.rvs x (by rw [a3.rv, rv']; exact List.mem_cons_of_mem _ hx), fun x hx => a3.rs.rvo x (by rw [a3.rv, rv']; exact List.mem_cons_of_mem _ hx)⟩, a3.ext, a3.len, a3.tup, a3.fz⟩
        refine ht w2 (evWipe env vs) (wipe σ vs) l[i] x e1 _ (a2.k.trans hk') ?_ rx et fun σ2 n2 hw2 => ?_
        · have nb : REnv w' (evWipe env vs) (wipe σ vs) := ⟨((n.after a1).wipe vs).len, fun j d ej => let ⟨v, e1, rv⟩ := ((n.after a1).wipe vs).at_ j d ej; ⟨v, e1, b'.rep _ _ rv⟩⟩
          exact nb.after a2
        · refine ⟨by rw [hw2 vs hv, wipe_wipe], ?_⟩
          refine ⟨w2, e1, a2.k.trans hk', rfl, a2.rs, n2, wp_nov (by rw [e2]; exact eb) fun w3 a3 e3 => ?_⟩
          cases bb with
          | false =>
            refine iteF ⟨by omega, w3, ds, acc, ?_⟩
            obtain ⟨k1, k2, k3, k4, k5, k6, k7⟩ := keep w3 (a2.trans a3)
            exact ⟨k1, rfl, k2, k3, k4, k5, k6, k7, by omega, by rw [e3]; exact eq3⟩
          | true =>
            obtain ⟨y, s4, ey, eq4⟩ := bind_inv eq3
            have ey := noErr_ok ey
            refine iteT ⟨w3, e1, a3.k.trans (a2.k.trans hk'), rfl, a3.rs, n2.after a3, wp_nov (by rw [e3]; exact ey) fun w4 a4 e4 v rv => ?_⟩
            obtain ⟨k1, k2, k3, k4, k5, k6, k7⟩ := keep w4 ((a2.trans a3).trans a4)
            have own4 : ¬ Own w4.m w4.st Dn := k2.rvo Dn (by rw [k3]; exact List.mem_cons_self ..)
            refine ⟨acc, k6, by rw [reps_len k7]; exact Nat.lt_of_le_of_lt hdl (Nat.lt_of_lt_of_le hlt hJ.len), by omega, ⟨w4.K, w4.m, w4.st, upd w4.H Dn (.lst (acc ++ [v])), w4.rv⟩, ds ++ [y], acc ++ [v], k1, rfl, ?_⟩
            -- the write at the reserved address
            have up : ∀ b u, b ≠ Dn → w4.H b = some u → upd w4.H Dn (.lst (acc ++ [v])) b = some u := fun b u hb q => by rw [upd_ne hb]; exact q
            have tupk : ∀ a xs, SqT w4.K w4.H a xs → SqT w4.K (upd w4.H Dn (.lst (acc ++ [v]))) a xs := fun a xs q => by
              rcases q with (q | ⟨o, q⟩) | q
              · exact .inl (.inl (up _ _ (ne_of q k6 (by intro z; cases z)) q))
              · exact .inl (.inr ⟨o, up _ _ (ne_of q k6 (by intro z; cases z)) q⟩)
              · exact .inr q
            have bW : Bears w4 ⟨w4.K, w4.m, w4.st, upd w4.H Dn (.lst (acc ++ [v])), w4.rv⟩ := ⟨fun _ _ => rfl, Nat.le_refl _, tupk, fun x o q => ⟨⟨up _ _ (fun z => q.2 (by rw [z, k3]; exact List.mem_cons_self ..)) q.1.1, q.1.2⟩, q.2⟩, rfl⟩
            have cellk : ∀ i c, w4.st[i]? = some c → CellOk ⟨w4.K, w4.m, w4.st, upd w4.H Dn (.lst (acc ++ [v])), w4.rv⟩ (w4.m i) c := fun i c hc => by
              have q := k2.cells i c hc
              by_cases lv : c.live
              · have hne : w4.m i ≠ Dn := fun z => own4 ⟨i, c, hc, lv, z⟩
                exact cell_bears bW (fun o q _ => up _ _ hne q) (fun xs q => by
                  rcases q with ⟨u, q⟩ | q
                  · exact .inl ⟨u, up _ _ hne q⟩
                  · exact .inr q) rfl q
              · cases c with
                | ro l' =>
                  obtain ⟨xs, q1, q2, q3⟩ := q
                  refine ⟨xs, ?_, bW.reps _ _ q2, q3⟩
                  rcases q1 with ⟨u, q1⟩ | q1
                  · exact .inl ⟨u, up _ _ (ne_of q1 k6 (by intro z; cases z)) q1⟩
                  · exact .inr q1
                | dead => trivial
                | _ => exact absurd trivial lv
            have rsW : RS ⟨w4.K, w4.m, w4.st, upd w4.H Dn (.lst (acc ++ [v])), w4.rv⟩ := ⟨cellk, k2.inj, fun x hx z => by
                by_cases hxD : x = Dn
                · subst hxD; have z : upd w4.H x (.lst (acc ++ [v])) x = none := z; rw [upd_same] at z; cases z
                · have z : upd w4.H Dn (.lst (acc ++ [v])) x = none := z; rw [upd_ne hxD] at z; exact k2.rvs x hx z, k2.rvo⟩
            refine ⟨rsW, k3, ?_, k5.trans bW, upd_same, ?_, by rw [List.length_append]; simp; omega, by rw [e4]; exact eq4⟩
            · -- up to the reserved address all is later
              refine ⟨k4.k, rfl, ⟨fun i c hc => cell_rv (w := ⟨w4.K, w4.m, w4.st, upd w4.H Dn (.lst (acc ++ [v])), w4.rv⟩) (fun x hx => by show x ∈ w4.rv; rw [k3]; exact List.mem_cons_of_mem _ hx) (cellk i c hc), k2.inj, fun x hx z => ?_, fun x hx => k2.rvo x (by rw [k3]; exact List.mem_cons_of_mem _ hx)⟩, k4.ext, k4.len, fun a xs q => tupk a xs (k4.tup a xs q), fun x o q => ?_⟩
              · have z : upd w4.H Dn (.lst (acc ++ [v])) x = none := z
                rw [upd_ne (hnD x hx)] at z
                exact k2.rvs x (by rw [k3]; exact List.mem_cons_of_mem _ hx) z
              · have q' := k4.fz x o q
                exact ⟨up _ _ (fun z => by rw [z] at q; exact absurd (q.1.symm.trans hD) (by simp)) q'.1, q'.2⟩
            · exact reps_app (bW.reps _ _ k7) (by simp only [Reps]; exact ⟨v, [], rfl, bW.rep _ _ rv, rfl⟩)
theorem ds_setCompC (i : Nat) {y : Str} {py spos : Pos} {elt tgt iter : Expr} {scope : Scope} {own : List (Str × Nat)} {t : TG} {tg : D → Ev → Option Ev} {is : List Nat} {fi : Ev → M (List D)} {fe : Ev → M D} (hc : X.calm = true) (hN : X.N.Nodup) (hy : X.N[i]? = some y) (hyl : X.env.scope.names.lookup y = some .local)
    (hsw : swapsWith (.ListComp elt [⟨tgt, iter, [], 0⟩] scope pos) (some (.Name y py)) spos.line X.env = pure true) (hi : DI X W tgt iter fi) (ok : BlkOk X.N X.env.scope scope own)
    (hg : Blk X scope fun X' => PG X' tgt t) (ht : TgOk X.K t tg is) (hv : ∀ i ∈ is, i ∈ own.map (·.2)) (he : Blk X scope fun X' => DE X' W0 elt fe) (hs : ∀ x, foldedSetIterable iter X.env x = pure x := by intro _; rfl) :
    DS X W (.Assign [.Name y py] (.ListComp elt [⟨tgt, iter, [], 0⟩] scope pos) spos) (sAsg i (eCompC (own.map (·.2)) fi tg (fun _ => pure true) fe)) := by
  refine PS.imp' (ps_setLc (tt := rdT X.K W0 fun _ => pure true) (te := rdE X.K W0 fe) hc hN hy hyl hsw hi ok hg (fun s H C cl fp => ?_) he hs) fun D' σ H h => ?_
  · exact ⟨fun pins s σ H Q I h => pts_nil.run pins s σ H Q I (by
      obtain ⟨w, env, hk, rfl, r, n, h⟩ := h
      exact Wp.ok_ (a := true) r h)⟩
  · exact comp_rdC ht hv (asg_rd h)
/-! ## targets ((a, b), c) -/
def tgPP (i j k : Nat) : D → Ev → Option Ev := fun d env => match d with
  | .tup [.tup [a, b], c] => some (((env.set i (some a)).set j (some b)).set k (some c))
  | _ => none
theorem tgok_PP (K : PySem.W.Frag) (i j k : Nat) : TgOk K (gTup K 2 (gCons (gTup K 2 (gCons (gName i) (gCons (gName j) gNil))) (gCons (gName k) gNil))) (tgPP i j k) [i, j, k] := fun w env σ d v env' Q hk n r e q => by
  unfold tgPP at e
  split at e
  · rename_i a b c
    cases e
    simp only [Rep] at r
    obtain ⟨x, xs, rfl, s, r, _⟩ := r
    obtain ⟨u1, u2, rfl, r1, r2⟩ := reps2 r
    simp only [Rep] at r1
    obtain ⟨y, ys, rfl, s1, rr1, _⟩ := r1
    obtain ⟨t1, t2, rfl, q1, q2⟩ := reps2 rr1
    refine ⟨x, [.ref y, u2], rfl, by rw [← hk]; exact s, rfl, .ref y, [u2], rfl, y, [t1, t2], rfl, by rw [← hk]; exact s1, rfl, t1, [t2], rfl, t2, [], rfl, rfl, u2, [], rfl, rfl, ?_⟩
    refine q _ (((n.set i q1).set j q2).set k r2) fun vs hv => ?_
    rw [wipe_set (hv k (by simp)), wipe_set (hv j (by simp)), wipe_set (hv i (by simp))]
  · cases e
end
end G
end

section
set_option Elab.async false
set_option linter.all false
set_option maxRecDepth 100000
set_option maxHeartbeats 2000000
namespace PySem
open Sem (wp)
open AutoSeq1 (wpAny_loadPart')
/-! ## enumerate(a tuple) -/
theorem meets_enumerate_newT (l : Addr) (items : Array Value) (n : Nat) (dct : Option Addr) (sl : Array (Option Value)) :
    Meets (Builtin.«enumerate.__new__» ⟨[.type "enumerate", .ref l], []⟩) (fun _ R s => s.heap.get? l = some { cls := .type "tuple", dict := dct, data := .seq items n, slots := sl } ∧
      R (.ok (.ret (.ref (s.heap.push { cls := .type "tuple_iterator", data := .fields #[.ref l, .int 0 0] }).objs.size)))
        { s with heap := (s.heap.push { cls := .type "tuple_iterator", data := .fields #[.ref l, .int 0 0] }).push { cls := .type "enumerate", data := .fields #[.none, .bool false, .ref s.heap.objs.size, rawInt 0, .none, .none] } }) :=
  .of_wp fun prog w A R s h => by
    obtain ⟨hp, g, d, tk, os⟩ := s; obtain ⟨hl, h⟩ := h
    have hsub := sub_enumerate
    have hL : Heap.IsTuple (Shared.heap ⟨hp, g, d, tk, os⟩) l items := ⟨_, hl, rfl, n, rfl⟩
    wp_walk using wpAny_loadPart' hl
    refine wpAny_stack_any fun st => wpAny_pure ?_
    split
    · rename_i c _ _ _ _ _
      cases (c == Value.type "enumerate")
      · wp_walk using wpAny_loadPart' hl, wpAny_pyIter_tuple hL
        exact ⟨_, rfl, h⟩
      · wp_walk using wpAny_loadPart' hl, wpAny_pyIter_tuple hL
        exact ⟨_, rfl, h⟩
    · wp_walk using wpAny_loadPart' hl, wpAny_pyIter_tuple hL
      exact ⟨_, rfl, h⟩
section
variable {prog : Program} {w : World} {A : Around} {E : Value → Shared → Prop} {s : Shared}
theorem call_enumerate_tuple {l : Addr} {items : Array Value} {Q : Value → Shared → Prop} (hL : s.heap.IsTuple l items)
    (h : ∀ h', IsEnum h' (s.heap.objs.size + 1) s.heap.objs.size 0 .none → h'.IsTupleIter s.heap.objs.size l 0 → h'.objs.size = s.heap.objs.size + 2 →
      (∀ b o, s.heap.get? b = some o → h'.get? b = some o) → Q (.ref (s.heap.objs.size + 1)) { s with heap := h' }) :
    wpAny (model prog w) A (call (.type "enumerate") [.ref l]) Q E s := by
  obtain ⟨⟨c, dct, dt, sl⟩, hl, hc, n, hd⟩ := hL
  replace hc : c = .type "tuple" := hc
  replace hd : dt = .seq items n := hd
  subst hc hd
  refine callType_new F.called_enumerate (by decide) (F.typeCall_enumerate_1 _) (F.newCall_enumerate_1 _) (fun obj => F.args_object_init_2 obj _) F.entry_enumerate_new
    (meets_enumerate_newT l items n dct sl) ⟨hl, ?_⟩
  have hz : (s.heap.push { cls := .type "tuple_iterator", data := .fields #[.ref l, .int 0 0] }).objs.size = s.heap.objs.size + 1 := Heap.size_push ..
  show _ ∧ _
  rw [hz]
  have he : IsEnum ((s.heap.push { cls := .type "tuple_iterator", data := .fields #[.ref l, .int 0 0] }).push
      { cls := .type "enumerate", data := .fields #[.none, .bool false, .ref s.heap.objs.size, rawInt 0, .none, .none] }) (s.heap.objs.size + 1) s.heap.objs.size 0 .none := by
    have := Heap.get?_push_size (s.heap.push { cls := .type "tuple_iterator", data := .fields #[.ref l, .int 0 0] })
      (o := { cls := .type "enumerate", data := .fields #[.none, .bool false, .ref s.heap.objs.size, rawInt 0, .none, .none] }) rfl
    rw [hz] at this; exact this
  refine ⟨⟨_, he, rfl⟩, h _ he ⟨_, Heap.get?_push_of_some _ (Heap.get?_push_size _ rfl), rfl, rfl⟩ (by rw [Heap.size_push, hz]) fun b o x => Heap.get?_push_of_some _ (Heap.get?_push_of_some _ x)⟩
end
end PySem
namespace G
open PySem PySem.Spec PyProof.Rows L2
def IteT (K : PySem.W.Frag) (a : Addr) : It :=
  ⟨fun i H => ∃ (xs : List V) (x : V), SqT K H a xs ∧ xs[i]? = some x, fun i H v H' => ∃ T x, v = .ref T ∧ H T = none ∧ H' = upd H T (.tup [.int (i : Nat), x]) ∧ ∀ xs, SqT K H a xs → xs[i]? = some x, fun i H => ∃ xs : List V, SqT K H a xs ∧ xs.length ≤ i⟩
theorem turn_enumT {P : Program} {w : World} {K : PySem.W.Frag} {elts : List Expr} {kk : Nat} {tpos : Pos} (a e it : Addr) :
    Turn P w K (.Tuple elts kk tpos) (IteT K a) [e, it] e (fun i h => (∃ old, IsEnum h e it ((i : Nat) : Int) old) ∧ h.IsTupleIter it a i ∧ e ≠ it) where
  mem := by simp
  obj := fun i h st b hb => by
    obtain ⟨⟨old, he⟩, ⟨o, ho, hc, hd⟩, _⟩ := st
    have e' : b = e ∨ b = it := by simpa using hb
    rcases e' with z | z
    · rw [z]; exact ⟨_, he, fun v q => nomatch q⟩
    · rw [z]; exact ⟨o, ho, fun v q => by rw [hd] at q; cases q⟩
  keep := fun i h h' st k => let ⟨⟨old, he⟩, hi, hne⟩ := st; ⟨⟨old, k e (by simp) _ he⟩, hi.at fun o q => k it (by simp) o q, hne⟩
  item := by
    intro X hP hw hK hc i pins s σ H E I hf st hg
    subst hP hw hK
    obtain ⟨⟨old, he⟩, hit, hne⟩ := st
    obtain ⟨xs, x, hq, hx⟩ := hg
    obtain ⟨its, rv, p, hz⟩ := I.tuple hq
    obtain ⟨u, hu, ru⟩ := rv.get hx
    have pT : s.heap.IsTuple a its.toArray := p
    have hel : e < s.heap.objs.size := Heap.lt_size he
    have hil : it < s.heap.objs.size := by obtain ⟨_, q, _⟩ := hit; exact Heap.lt_size q
    have hai : a ≠ it := fun z => by
      obtain ⟨o1, h1, c1, _⟩ := hit
      obtain ⟨o2, h2, c2, _⟩ := pT
      rw [z, h1] at h2
      cases h2
      rw [c1] at c2
      exact absurd (Value.type.inj c2) (by decide)
    have hae : e ≠ a := fun z => by
      obtain ⟨o2, h2, c2, _⟩ := pT
      have he' : s.heap.get? e = _ := he
      rw [← z, he'] at h2
      cases h2
      exact absurd (Value.type.inj c2) (by decide)
    have D := Draws.tuple (prog := X.prog) (w := X.w) (A := X.A.in1) (I.ok.hd hc) it a hai its.toArray
    refine wpAny_pyNext_enum_itemD D he ⟨hit, pT⟩ (by have := (List.getElem?_eq_some_iff.mp hu).1; simpa using this) hne (by simp [hne, hae]) fun x' h' tk hP' ho hit' hT hsz hk => ?_
    have ex : x' = u := by
      have h1 : its.toArray[i]? = some x' := hP'
      have h2 : its.toArray[i]? = some u := by simpa using hu
      rw [h1] at h2
      cases h2; rfl
    subst ex
    refine ⟨_, rfl, wpAny_letOwnedTupleGo_enum (s := { s with heap := h', toks := tk + 1 }) ho fun h'' he' sb => ?_⟩
    have hT2 : h''.get? s.heap.objs.size = some { cls := .type "tuple", data := .seq #[.int i tk, x'] } := (sb.2 _ (Nat.ne_of_gt hel)).trans hT
    have new : ObjOk X.prog X.w (upd H s.heap.objs.size (.tup [.int (i : Nat), x])) h'' s.heap.objs.size (.tup [.int (i : Nat), x]) :=
      ⟨by show 2 ≤ sizeLine; decide, [.int i tk, x'], .cons ⟨_, rfl⟩ (.cons ru .nil), ⟨_, hT2, rfl, _, rfl⟩⟩
    have I1 : Inv X pins σ (upd H s.heap.objs.size (.tup [.int (i : Nat), x])) { s with heap := h'', toks := tk + 1 } :=
      I.turnedNew (ch := [e, it]) (fun b ob hb q => (sb.2 b (fun z => hb (by simp [z]))).trans (hk b ob (fun z => hb (by simp [z])) (fun z => hb (by simp [z])) q)) hf (Nat.le_refl _) new
    refine ⟨.ref s.heap.objs.size, _, I1, rfl, ⟨_, x, rfl, I.hok.fresh (Nat.le_refl _), rfl, fun ys hy => by rw [I.tuple_inj hy hq]; exact hx⟩, ⟨⟨x', ?_⟩, hit'.1.at fun o q => (sb.2 it (Ne.symm hne)).trans q, hne⟩, fun b hb => ?_⟩
    · have e1 : ((i + 1 : Nat) : Int) = (i : Int) + 1 := by omega
      rw [e1]; exact he'
    · have hb' : b < s.heap.objs.size := by
        have e' : b = e ∨ b = it := by simpa using hb
        rcases e' with z | z
        · rw [z]; exact hel
        · rw [z]; exact hil
      rw [upd_ne (Nat.ne_of_lt hb')]
      exact (hf b hb).1
  done := by
    intro X hP hw hK hc i pins s σ H E I hf st hg
    subst hP hw hK
    obtain ⟨⟨old, he⟩, hit, hne⟩ := st
    obtain ⟨xs, hq, hx⟩ := hg
    obtain ⟨its, rv, p, hz⟩ := I.tuple hq
    have pT : s.heap.IsTuple a its.toArray := p
    obtain ⟨f0, f1, f2, f3, f4, f5⟩ := hf it (by simp)
    have hl := rv.length
    have hai : a ≠ it := fun z => by
      obtain ⟨o1, h1, c1, _⟩ := hit
      obtain ⟨o2, h2, c2, _⟩ := pT
      rw [z, h1] at h2
      cases h2
      rw [c1] at c2
      exact absurd (Value.type.inj c2) (by decide)
    have D : Draws X.prog X.w X.A.in1 it [it, a] i (fun k v => True) (fun k h => k = i ∧ h.IsTupleIter it a i ∧ h.IsTuple a its.toArray) := by
      refine ⟨fun _ _ st => let ⟨o, ho, _⟩ := st.2.1; ⟨o, ho⟩, fun _ _ _ st hk => ⟨st.1, st.2.1.at fun o e => hk it (by simp) o e, st.2.2.at fun o e => hk a (by simp) o e⟩, fun k s Q E hi st hQ => ?_, fun s Q E st hE => ?_⟩
      · exact absurd st.1 (by omega)
      · exact wpAny_nextOf_tuple_end (I.ok.hd hc) st.2.1 st.2.2 (by simp; omega) hE
    exact wpAny_pyNext_enum_endD D he ⟨rfl, hit, pT⟩ fun h' eb => ⟨rfl, I.turned (t' := s.toks) (fun b o hb q => eb b o hb q) f0 f1 f3 f4 f5⟩
  self := fun A i s Q E st h => let ⟨⟨_, he⟩, _⟩ := st; wpAny_pyIter_enum he h
def iEnumTL (K : PySem.W.Frag) (ta : TA) : TI := fun σ H R => ta σ H fun vs H1 => ∃ a xs, vs = [.ref a] ∧ SqT K H1 a xs ∧ R (IteT K a) H1
theorem pi_enumT {X : Cx} {e : Expr} {ta : TA} {p pos tpos : Pos} {elts : List Expr} {kk : Nat} (hg : Gl X "enumerate") (hm : X.mg "enumerate" = none) (ha : PA X [e] ta) (hs : starEach [e] X.env = [(false, eval e X.env)] := by rfl) :
    PI X (.Tuple elts kk tpos) (.Call (.Name "enumerate" p) [e] [] pos) (iEnumTL X.K ta) := by
  refine ⟨fun pins s σ H R I h => ?_⟩
  refine Call_ (ld_blt I hg hm boot_enumerate (PyProof.Rows.callWith_type1 (thn (ha.run pos pins s σ H _ I h) fun us s1 ⟨vs, H1, I1, r1, q1⟩ => ?_) hs rfl))
  obtain ⟨a, xs, ex, hq, q⟩ := q1
  subst ex
  cases r1 with
  | cons r rr =>
    cases rr
    cases r
    obtain ⟨its, rv, p', hz⟩ := I1.tuple hq
    refine call_enumerate_tuple (show s1.heap.IsTuple a its.toArray from p') fun h' he hit hsz hk => wpAny_pyIter_enum he ?_
    have I2 : Inv X pins σ H1 { s1 with heap := h' } := I1.kept (t' := s1.toks) hk
    refine ⟨s1.heap.objs.size + 1, [s1.heap.objs.size + 1, s1.heap.objs.size], _, _, H1, rfl, I2, turn_enumT a (s1.heap.objs.size + 1) s1.heap.objs.size, ⟨⟨.none, he⟩, hit, Nat.succ_ne_self _⟩, fun b hb => ?_, q⟩
    have e' : b = s1.heap.objs.size + 1 ∨ b = s1.heap.objs.size := by simpa using hb
    have hle : s1.heap.objs.size ≤ b := by
      rcases e' with z | z
      · rw [z]; exact Nat.le_add_right _ _
      · rw [z]; exact Nat.le_refl _
    exact I1.fpOk hle (I1.hok.fresh hle)
def iEnumT (f : Ev → M D) : Ev → M (List D) := fun env => do
  let d ← f env
  let l ← itemsT d
  pure (pairsD l)
theorem walks_enumT {w : Wd} {a : Addr} {l : List D} (r : Rep w (.tup l) (.ref a)) : Walks w (IteT w.K a) (pairsD l) where
  step := fun w' hk rs b i d e => by
    have r' := b.rep _ _ r
    simp only [Rep] at r'
    obtain ⟨a', xs, ea, s, rr, _⟩ := r'
    cases ea
    unfold pairsD at e
    rw [List.getElem?_map, List.getElem?_zipIdx] at e
    cases q : l[i]? with
    | none => rw [q] at e; cases e
    | some d0 =>
      rw [q] at e
      simp only [Option.map_some, Nat.zero_add, Option.some.injEq] at e
      subst e
      obtain ⟨x0, ex, rx⟩ := reps_at rr q
      have sl : SqT w.K w'.H a xs := by rw [← hk]; exact s
      refine ⟨⟨xs, x0, sl, ex⟩, fun y H' hy => ?_⟩
      obtain ⟨T, x1, rfl, hT, rfl, hx⟩ := hy
      have e1 := hx xs sl
      rw [ex] at e1
      cases e1
      refine ⟨⟨w'.K, w'.m, w'.st, upd w'.H T (.tup [.int (i : Nat), x0]), w'.rv⟩, aft_new (K := w'.K) (m := w'.m) (st := w'.st) (H := w'.H) (rv := w'.rv) rs hT, rfl, rfl, rfl, ?_⟩
      refine rep_newT rs hT ?_ (Nat.le_of_ble_eq_true rfl)
      simp only [Reps]
      exact ⟨_, _, rfl, by simp [Rep], _, _, rfl, rx, rfl⟩
  stop := fun w' hk rs b => by
    have r' := b.rep _ _ r
    simp only [Rep] at r'
    obtain ⟨a', xs, ea, s, rr, _⟩ := r'
    cases ea
    refine ⟨xs, by rw [← hk]; exact s, ?_⟩
    unfold pairsD
    simp [reps_len rr]
  len := by
    simp only [Rep] at r
    obtain ⟨_, _, _, _, _, h⟩ := r
    unfold pairsD
    simpa using h
section
variable {X : Cx} {W : XW} {a : Expr} {pos p : Pos} {fa : Ev → M D}
theorem itemsT_wp {w : Wd} {d : D} {P : List D → Wd → Prop} {V' : Str → Wd → Prop} (rs : RS w) (h : Wp w (itemsT d w.st) P V') : ∃ l, d = .tup l ∧ P l w := by
  cases d with
  | tup l => exact ⟨l, rfl, Wp.ok_ rs h⟩
  | _ => exact h.elim
theorem di_enumT {elts : List Expr} {kk : Nat} {tpos : Pos} (hg : Gl X "enumerate") (hm : X.mg "enumerate" = none) (h : DE X W a fa) (hst : starEach [a] X.env = (false, eval a X.env) :: starEach [] X.env := by rfl) : DI X W (.Tuple elts kk tpos) (.Call (.Name "enumerate" p) [a] [] pos) (iEnumT fa) := by
  refine PI.imp' (pi_enumT hg hm (pa_cons (es := []) h pa_nil hst) (hs := hst)) fun σ H R h => ?_
  obtain ⟨w, env, hk, rfl, r, n, h⟩ := h
  refine ⟨w, env, hk, rfl, r, n, (Wp.bind h).imp fun d w1 a1 h1 v rv => ?_⟩
  obtain ⟨l, rfl, h2⟩ := itemsT_wp a1.rs (Wp.bind h1)
  have rv0 := rv
  simp only [Rep] at rv
  obtain ⟨q, xs, rfl, s, rr, hl⟩ := rv
  refine ⟨q, xs, rfl, by rw [← hk, ← a1.k]; exact s, ?_⟩
  have wk := walks_enumT rv0
  rw [a1.k.trans hk] at wk
  exact Wp.ok_ (a := pairsD l) a1.rs h2 _ wk
end
end G
end

section
set_option Elab.async false
set_option linter.all false
set_option autoImplicit false
set_option maxRecDepth 100000
set_option maxHeartbeats 1000000
namespace G
open PySem PySem.Spec PyProof.Rows L2
/-! ## dict(pairs)[k] -/
def pairK : D → Option (Key × D)
  | .tup [.str k, v] => some (.inr k, v)
  | _ => none
def pairsK : List D → Option (List (Key × D))
  | [] => some []
  | d :: r => match pairK d, pairsK r with
    | some kv, some l => some (kv :: l)
    | _, _ => none
def asPairs : D → M (List (Key × D)) := fun d => match d with
  | .lst l => match pairsK l with
    | some kvs => if (kvs.map (·.1)).Nodup then pure kvs else M.stuck
    | none => M.stuck
  | _ => M.stuck
def eDictGet (fa fb : Ev → M D) : Ev → M D := fun env => do
  let d ← fa env
  let kvs ← asPairs d
  let k ← fb env
  lift fun _ => (keyOf k).bind fun key => valD kvs key
theorem asPairs_wp {w : Wd} {d : D} {P : List (Key × D) → Wd → Prop} {V' : Str → Wd → Prop} (rs : RS w) (h : Wp w (asPairs d w.st) P V') : ∃ l kvs, d = .lst l ∧ pairsK l = some kvs ∧ (kvs.map (·.1)).Nodup ∧ P kvs w := by
  cases d with
  | lst l =>
    cases e : pairsK l with
    | none => simp only [asPairs, e] at h; exact h.elim
    | some kvs =>
      simp only [asPairs, e] at h
      by_cases hn : (kvs.map (·.1)).Nodup
      · rw [if_pos hn] at h
        exact ⟨l, kvs, rfl, e, hn, Wp.ok_ rs h⟩
      · rw [if_neg hn] at h
        exact h.elim
  | _ => exact h.elim
theorem pairs_rep {w : Wd} : ∀ {l : List D} {kvs : List (Key × D)} {xs : List V}, Reps w l xs → pairsK l = some kvs → ∃ (ps : List Addr) (us : List (Key × V)), xs = ps.map V.ref ∧ Paired (fun p kv => SqT w.K w.H p [kV kv.1, kv.2]) ps us ∧ RepK w kvs us
  | [], kvs, xs, h, e => by
    cases e
    simp only [Reps] at h
    subst h
    exact ⟨[], [], rfl, .nil, rfl⟩
  | d :: l, kvs, xs, h, e => by
    simp only [Reps] at h
    obtain ⟨x, ys, rfl, r1, r2⟩ := h
    simp only [pairsK] at e
    cases q1 : pairK d with
    | none => rw [q1] at e; cases e
    | some kv =>
      cases q2 : pairsK l with
      | none => rw [q1, q2] at e; cases e
      | some kvs' =>
        rw [q1, q2] at e
        cases e
        obtain ⟨ps, us, rfl, pp, rk⟩ := pairs_rep r2 q2
        unfold pairK at q1
        split at q1
        · rename_i k v
          cases q1
          simp only [Rep] at r1
          obtain ⟨a, zs, rfl, sq, rz, _⟩ := r1
          obtain ⟨u1, u2, rfl, ru1, ru2⟩ := reps2 rz
          simp only [Rep] at ru1
          subst ru1
          exact ⟨a :: ps, (.inr k, u2) :: us, rfl, .cons sq pp, ⟨(.inr k, u2), us, rfl, rfl, ru2, rk⟩⟩
        · cases q1
theorem repK_keys {w : Wd} : ∀ {l : List (Key × D)} {us : List (Key × V)}, RepK w l us → us.map (·.1) = l.map (·.1)
  | [], us, h => by simp only [RepK] at h; subst h; rfl
  | x :: l, us, h => by
    obtain ⟨y, ys, rfl, e, _, rs⟩ := h
    simp only [List.map_cons, e, repK_keys rs]
section
variable {X : Cx} {W : XW} {a b : Expr} {pos p cpos : Pos} {fa fb : Ev → M D}
theorem de_dictGet (hu : X.A.units + 1 < cLine) (hcalm : X.calm = true) (hg : Gl X "dict") (hm : X.mg "dict" = none) (ha : DE X W a fa) (hb : DE X W b fb) (hs : NoSl b := by intro _ _; rfl)
    (he : starEach [a] X.env = (false, eval a X.env) :: starEach [] X.env := by rfl) (hpl : (backTo cpos (starEach [] X.env)).any (·.1) = false := by rfl) :
    DE X W (.Subscript (.Call (.Name "dict" p) [a] [] cpos) b pos) (eDictGet fa fb) :=
  PE.imp' (pe_dget hu (pe_callTy (call_dictP hcalm) hg hm (by decide +kernel) (pa_cons ha pa_nil he) (by decide) (by decide) he hpl) hb hs) fun σ H Q h => by
    obtain ⟨w, env, hk, rfl, r, n, h⟩ := h
    refine ⟨w, env, hk, rfl, r, n, (Wp.bind h).imp fun d w1 a1 h1 v rv => ?_⟩
    obtain ⟨l, kvs, rfl, ek, nd, h2⟩ := asPairs_wp a1.rs (Wp.bind h1)
    simp only [Rep] at rv
    obtain ⟨q, xs, rfl, fz, rr, hl⟩ := rv
    obtain ⟨ps, us, rfl, pp, rk⟩ := pairs_rep rr ek
    have hk1 : w1.K = X.K := a1.k.trans hk
    refine ⟨q, ps, us, rfl, SqL.of fz.1.1, by rw [← hk1]; exact pp, fun p' hp => ?_⟩
    have em : mergeK [] us = us := by
      have := merge_nodup (kvs := us) (acc := []) (by simpa [repK_keys rk] using nd)
      simpa using this
    rw [em]
    have a2 : Aft w1 ⟨w1.K, w1.m, w1.st, upd w1.H p' (.dK us), w1.rv⟩ := aft_new a1.rs hp
    have f2 : Fz ⟨w1.K, w1.m, w1.st, upd w1.H p' (.dK us), w1.rv⟩ p' (.dK us) := fz_new (w := w1) (o := .dK us) a1.rs hp
    refine ⟨⟨w1.K, w1.m, w1.st, upd w1.H p' (.dK us), w1.rv⟩, env, hk1, rfl, a2.rs, (n.after a1).after a2, ((Wp.bind h2).after a2).imp fun y w3 a3 h3 u ru => ?_⟩
    have q3 := Wq.of h3
    obtain ⟨d', e⟩ := wq_some q3
    cases kk : keyOf y with
    | none => rw [kk] at e; cases e
    | some key =>
      rw [kk] at e
      have rk3 : RepK w3 kvs us := a3.bears.repK _ _ (a2.bears.repK _ _ rk)
      obtain ⟨z, ez, rz⟩ := valD_rep rk3 e
      refine ⟨p', z, rfl, by rw [keyOf_rep kk ru, ← ez]; exact DGet.k (a3.fz p' _ f2).1, ?_⟩
      exact q3.here a3.rs (by rw [kk]; exact e) rz
end
end G
end

section
set_option Elab.async false
set_option linter.all false
set_option maxRecDepth 100000
set_option maxHeartbeats 2000000
namespace G
open PySem PySem.Spec PyProof.Rows L2
/-! ## an order of keys: a place, a name -/
abbrev SK := List Int × Str
def ofS (z : Str) : List Int := z.cps.toList.map Int.ofNat
theorem ofS_inj {a b : Str} (h : ofS a = ofS b) : a = b := by
  obtain ⟨⟨a⟩⟩ := a
  obtain ⟨⟨b⟩⟩ := b
  unfold ofS at h
  have : a = b := by
    have inj : Function.Injective Int.ofNat := fun x y e => Int.ofNat.inj e
    exact (List.map_inj_right (fun x y e => inj e)).mp h
  rw [this]
def lexK (a b : SK) : Bool := if a.1 = b.1 then HT.lexLt (ofS a.2) (ofS b.2) else HT.lexLt a.1 b.1
theorem lx_irr : ∀ l, HT.lexLt l l = false
  | [] => rfl
  | x :: l => by simp [HT.lexLt, lx_irr l]
theorem lx_asy : ∀ l m, HT.lexLt l m = true → HT.lexLt m l = false
  | [], [], h => by cases h
  | [], _ :: _, _ => rfl
  | _ :: _, [], h => by cases h
  | x :: l, y :: m, h => by
    simp only [HT.lexLt] at h ⊢
    by_cases e : x = y
    · subst e; simp only [if_true] at h ⊢; exact lx_asy l m h
    · rw [if_neg e] at h; rw [if_neg (Ne.symm e)]
      have := of_decide_eq_true h
      exact decide_eq_false (by omega)
theorem lx_tri : ∀ l m, HT.lexLt l m = false → HT.lexLt m l = false → l = m
  | [], [], _, _ => rfl
  | [], _ :: _, h, _ => by cases h
  | _ :: _, [], _, h => by cases h
  | x :: l, y :: m, h, k => by
    simp only [HT.lexLt] at h k
    by_cases e : x = y
    · subst e; simp only [if_true] at h k; rw [lx_tri l m h k]
    · rw [if_neg e] at h; rw [if_neg (Ne.symm e)] at k
      have h1 := of_decide_eq_false h
      have h2 := of_decide_eq_false k
      omega
theorem lx_tr : ∀ l m n, HT.lexLt l m = true → HT.lexLt m n = true → HT.lexLt l n = true
  | [], [], _, h, _ => by cases h
  | [], _ :: _, [], _, h => by cases h
  | [], _ :: _, _ :: _, _, _ => rfl
  | _ :: _, [], _, h, _ => by cases h
  | _ :: _, _ :: _, [], _, h => by cases h
  | x :: l, y :: m, z :: n, h, k => by
    simp only [HT.lexLt] at h k ⊢
    by_cases e : x = y
    · subst e
      simp only [if_true] at h
      by_cases f : x = z
      · subst f; simp only [if_true] at k ⊢; exact lx_tr l m n h k
      · rw [if_neg f] at k ⊢; exact k
    · rw [if_neg e] at h
      have h1 := of_decide_eq_true h
      by_cases f : y = z
      · subst f; rw [if_neg e]; exact h
      · rw [if_neg f] at k
        have k1 := of_decide_eq_true k
        rw [if_neg (by omega)]
        exact decide_eq_true (by omega)
theorem lk_tri {a b : SK} (h : lexK a b = false) (k : lexK b a = false) : a = b := by
  unfold lexK at h k
  by_cases e : a.1 = b.1
  · rw [if_pos e] at h; rw [if_pos e.symm] at k
    exact Prod.ext e (ofS_inj (lx_tri _ _ h k))
  · rw [if_neg e] at h; rw [if_neg (Ne.symm e)] at k
    exact absurd (lx_tri _ _ h k) e
theorem lk_asy {a b : SK} (h : lexK a b = true) : lexK b a = false := by
  unfold lexK at h ⊢
  by_cases e : a.1 = b.1
  · rw [if_pos e] at h; rw [if_pos e.symm]; exact lx_asy _ _ h
  · rw [if_neg e] at h; rw [if_neg (Ne.symm e)]; exact lx_asy _ _ h
theorem lk_irr (a : SK) : lexK a a = false := by unfold lexK; rw [if_pos rfl]; exact lx_irr _
theorem lk_tr {a b c : SK} (h : lexK a b = true) (k : lexK b c = true) : lexK a c = true := by
  unfold lexK at h k ⊢
  by_cases e : a.1 = b.1
  · rw [if_pos e] at h
    by_cases f : b.1 = c.1
    · rw [if_pos f] at k; rw [if_pos (e.trans f)]; exact lx_tr _ _ _ h k
    · rw [if_neg f] at k; rw [e, if_neg f]; exact k
  · rw [if_neg e] at h
    by_cases f : b.1 = c.1
    · rw [if_pos f] at k; rw [← f, if_neg e]; exact h
    · rw [if_neg f] at k
      have z := lx_tr _ _ _ h k
      rw [if_neg (fun q => by rw [q, lx_irr] at z; cases z)]
      exact z
theorem lk_swo {α : Type} (k : α → SK) : SrtO.Swo fun v u => lexK (k v) (k u) := by
  refine ⟨fun x y h => lk_asy h, fun x y z h1 h2 => ?_⟩
  show lexK (k z) (k x) = false
  cases q : lexK (k z) (k x) with
  | false => rfl
  | true =>
    cases p : lexK (k x) (k y) with
    | true =>
      have := lk_tr q p
      rw [this] at h2; cases h2
    | false =>
      have e := lk_tri p h1
      rw [← e] at h2
      rw [q] at h2; cases h2
theorem ltS_eq (a b : Str) : decide (a.cps.toList < b.cps.toList) = HT.lexLt (ofS a) (ofS b) := by
  unfold ofS
  generalize a.cps.toList = l
  generalize b.cps.toList = m
  induction l generalizing m with
  | nil => cases m <;> simp [HT.lexLt]
  | cons x l ih =>
    cases m with
    | nil => simp [HT.lexLt]
    | cons y m =>
      simp only [List.map_cons, HT.lexLt, Int.ofNat_eq_natCast]
      by_cases e : x = y
      · subst e
        simp only [if_true, ← ih m]
        exact decide_eq_decide.mpr (by rw [List.cons_lt_cons_iff]; simp)
      · rw [if_neg (by omega)]
        refine decide_eq_decide.mpr ?_
        rw [List.cons_lt_cons_iff]
        constructor
        · rintro (h | ⟨h, _⟩)
          · omega
          · exact absurd h e
        · exact fun h => .inl (by omega)
/-! ## a sort -/
section
variable {α β : Type}
def insB (lt : α → α → Bool) (x : α) : List α → List α
  | [] => [x]
  | y :: l => if lt y x then y :: insB lt x l else x :: y :: l
def isort (lt : α → α → Bool) : List α → List α
  | [] => []
  | x :: l => insB lt x (isort lt l)
theorem insB_perm (lt : α → α → Bool) (x : α) : ∀ l, (insB lt x l).Perm (x :: l)
  | [] => .refl _
  | y :: l => by
    unfold insB
    split
    · exact ((insB_perm lt x l).cons y).trans (.swap x y l)
    · exact .refl _
theorem isort_perm (lt : α → α → Bool) : ∀ l, (isort lt l).Perm l
  | [] => .refl _
  | x :: l => (insB_perm lt x _).trans ((isort_perm lt l).cons x)
theorem insB_srtd {lt : α → α → Bool} (O : SrtO.Swo lt) (x : α) : ∀ l, SrtO.Srtd lt l → SrtO.Srtd lt (insB lt x l)
  | [], _ => List.pairwise_singleton _ _
  | y :: l, h => by
    obtain ⟨h1, h2⟩ := List.pairwise_cons.mp h
    unfold insB
    split
    · rename_i hyx
      refine List.pairwise_cons.mpr ⟨fun z hz => ?_, insB_srtd O x l h2⟩
      rcases List.mem_cons.mp ((insB_perm lt x l).mem_iff.mp hz) with rfl | hz
      · exact O.1 _ _ hyx
      · exact h1 z hz
    · rename_i hyx
      have hyx : lt y x = false := by simpa using hyx
      refine List.pairwise_cons.mpr ⟨fun z hz => ?_, h⟩
      rcases List.mem_cons.mp hz with rfl | hz
      · exact hyx
      · exact O.2 _ _ _ hyx (h1 z hz)
theorem isort_srtd {lt : α → α → Bool} (O : SrtO.Swo lt) : ∀ l, SrtO.Srtd lt (isort lt l)
  | [] => List.Pairwise.nil
  | x :: l => insB_srtd O x _ (isort_srtd O l)
theorem insB_map (lt : β → β → Bool) (f : α → β) (x : α) : ∀ l, insB lt (f x) (l.map f) = (insB (fun a b => lt (f a) (f b)) x l).map f
  | [] => rfl
  | y :: l => by
    simp only [List.map_cons, insB, insB_map lt f x l]
    split <;> simp
theorem isort_map (lt : β → β → Bool) (f : α → β) : ∀ l, isort lt (l.map f) = (isort (fun a b => lt (f a) (f b)) l).map f
  | [] => rfl
  | x :: l => by simp only [List.map_cons, isort, isort_map lt f l, insB_map]
theorem srtd_uniq {lt : α → α → Bool} : ∀ {l m : List α}, SrtO.Srtd lt l → SrtO.Srtd lt m → l.Perm m → (∀ x ∈ l, ∀ y ∈ l, lt x y = false → lt y x = false → x = y) → l = m
  | [], m, _, _, p, _ => (List.Perm.eq_nil p.symm).symm
  | x :: l, [], _, _, p, _ => absurd p.length_eq (by simp)
  | x :: l, y :: m, hl, hm, p, inj => by
    obtain ⟨a1, a2⟩ := List.pairwise_cons.mp hl
    obtain ⟨b1, b2⟩ := List.pairwise_cons.mp hm
    have hy : y ∈ x :: l := p.mem_iff.mpr (List.mem_cons_self ..)
    have e : x = y := by
      rcases List.mem_cons.mp (p.mem_iff.mp (List.mem_cons_self (a := x) (l := l))) with e | e
      · exact e
      · rcases List.mem_cons.mp hy with e2 | e2
        · exact e2.symm
        · exact inj x (List.mem_cons_self ..) y hy (b1 x e) (a1 y e2)
    subst e
    rw [srtd_uniq a2 b2 (List.Perm.cons_inv p) fun u hu v hv => inj u (List.mem_cons_of_mem _ hu) v (List.mem_cons_of_mem _ hv)]
theorem nodup_inj {κ : Type} {f : α → κ} : ∀ {l : List α}, (l.map f).Nodup → ∀ x ∈ l, ∀ y ∈ l, f x = f y → x = y
  | [], _, x, hx, _, _, _ => absurd hx (by simp)
  | a :: l, h, x, hx, y, hy, e => by
    obtain ⟨h1, h2⟩ := List.nodup_cons.mp h
    rcases List.mem_cons.mp hx with ex | hx' <;> rcases List.mem_cons.mp hy with ey | hy'
    · rw [ex, ey]
    · rw [ex] at e
      have h3 : f a ∈ l.map f := List.mem_map.mpr ⟨y, hy', e.symm⟩
      exact absurd h3 h1
    · rw [ey] at e
      have h3 : f a ∈ l.map f := List.mem_map.mpr ⟨x, hx', e⟩
      exact absurd h3 h1
    · exact nodup_inj h2 x hx' y hy' e
end
/-! ## keys as data, as values -/
def stepP (k : SK) : PyData := .tuple [.tuple (k.1.map .int), .str k.2]
theorem eqv_ints : ∀ a b : List Int, PyData.eqvAll (a.map .int) (b.map .int) = decide (a = b)
  | [], [] => rfl
  | [], _ :: _ => rfl
  | _ :: _, [] => rfl
  | x :: a, y :: b => by
    have e1 : PyData.eqvAll (PyData.int x :: a.map .int) (PyData.int y :: b.map .int) = (PyData.eqv (.int x) (.int y) && PyData.eqvAll (a.map .int) (b.map .int)) := by
      first | rfl | simp [PyData.eqvAll]
    have e2 : PyData.eqv (.int x) (.int y) = (x == y) := by first | rfl | simp [PyData.eqv]
    simp only [List.map_cons, e1, e2, eqv_ints a b]
    by_cases h : x = y <;> by_cases g : a = b <;> simp [h, g]
theorem eqv_step (k k' : SK) : PyData.eqv (stepP k) (stepP k') = decide (k = k') := by
  obtain ⟨a, x⟩ := k
  obtain ⟨b, y⟩ := k'
  have e : PyData.eqv (stepP (a, x)) (stepP (b, y)) = (PyData.eqvAll (a.map .int) (b.map .int) && ((x == y) && true)) := by
    first | rfl | simp [PyData.eqv, PyData.eqvAll, stepP]
  rw [e, eqv_ints]
  by_cases h : a = b <;> by_cases g : x = y <;> simp [h, g]
end G
end

section
set_option Elab.async false
set_option linter.all false
set_option maxRecDepth 100000
set_option maxHeartbeats 2000000
namespace G
open PySem PySem.Spec PyProof.Rows L2 PySem.W SrtO
/-! ## how such keys compare in the heap -/
theorem readsAll2 {h : Heap} {vs : List Value} {d e : PyData} {as : List Addr} (r : ReadsAll h vs [d, e] as) : ∃ u v bs cs, vs = [u, v] ∧ Reads h u d bs ∧ Reads h v e cs := by
  cases r with
  | cons r1 r2 =>
    cases r2 with
    | cons r3 r4 =>
      cases r4
      exact ⟨_, _, _, _, rfl, r1, r3⟩
theorem readsInts {h : Heap} : ∀ {ns : List Int} {vs : List Value} {as : List Addr}, ReadsAll h vs (ns.map .int) as → IntsAre vs ns
  | [], vs, as, r => by cases r; exact .nil
  | n :: ns, vs, as, r => by
    cases r with
    | cons r1 r2 =>
      cases r1
      exact .cons _ _ (readsInts r2)
theorem readsTup {h : Heap} {v : Value} {ds : List PyData} {as : List Addr} (r : Reads h v (.tuple ds) as) : ∃ a o vs n bs, v = .ref a ∧ h.get? a = some o ∧ o.cls = .type "tuple" ∧ o.data = .seq vs n ∧ ReadsAll h vs.toList ds bs := by
  cases r with
  | tuple h1 h2 h3 h4 => exact ⟨_, _, _, _, _, rfl, h1, h2, h3, h4⟩
/-- a key's tuple in the heap -/
structure KeyAt (h : Heap) (v : Value) (k : SK) : Prop where
  ex : ∃ a o xs n b ob ys m t, v = .ref a ∧ h.get? a = some o ∧ o.cls = .type "tuple" ∧ o.data = .seq xs n ∧ xs.toList = [.ref b, .str k.2 t] ∧ h.get? b = some ob ∧ ob.cls = .type "tuple" ∧ ob.data = .seq ys m ∧ IntsAre ys.toList k.1
theorem keyAt {h : Heap} {v : Value} {k : SK} {as : List Addr} (r : Reads h v (stepP k) as) : KeyAt h v k := by
  obtain ⟨a, o, xs, n, bs, rfl, h1, h2, h3, h4⟩ := readsTup r
  obtain ⟨u, v, cs, ds, e, r1, r2⟩ := readsAll2 h4
  obtain ⟨b, ob, ys, m, es, rfl, g1, g2, g3, g4⟩ := readsTup r1
  cases r2
  exact ⟨a, o, xs, n, b, ob, ys, m, _, rfl, h1, h2, h3, e, g1, g2, g3, readsInts g4⟩
section
variable {prog : Program} {w : World} {A : Around} {s : Shared}
theorem canLay_ints : ∀ ns : List Int, PyData.canLayAll0 (ns.map .int) = true
  | [] => rfl
  | n :: ns => by simp only [List.map_cons, PyData.canLayAll0, PyData.canLay0, canLay_ints ns]; rfl
theorem depth_ints : ∀ ns : List Int, PyData.depthAll (ns.map .int) = 0
  | [] => rfl
  | n :: ns => by simp only [List.map_cons, PyData.depthAll, PyData.depth, depth_ints ns]; rfl
theorem places_eq {b b' : Addr} {ob ob' : Obj} {ys ys' : Array Value} {m m' : Nat} {ns ns' : List Int} (g1 : s.heap.get? b = some ob) (g2 : ob.cls = .type "tuple") (g3 : ob.data = .seq ys m) (g4 : IntsAre ys.toList ns)
    (g1' : s.heap.get? b' = some ob') (g2' : ob'.cls = .type "tuple") (g3' : ob'.data = .seq ys' m') (g4' : IntsAre ys'.toList ns') (hu : A.units + 4 < cLine) : SeqAt.EqAt A s (.ref b) (.ref b') (decide (ns = ns')) := by
  have rd : ∀ {h : Heap} {vs : List Value} {ns : List Int}, IntsAre vs ns → ReadsAll h vs (ns.map .int) [] := fun {h vs ns} z => by
    induction z with
    | nil => exact .nil
    | cons n t z ih => exact ReadsAll.cons (as := []) (bs := []) (Reads.int n t) ih
  have r1 : Reads s.heap (.ref b) (.tuple (ns.map .int)) [] := .tuple g1 g2 g3 (rd g4)
  have r2 : Reads s.heap (.ref b') (.tuple (ns'.map .int)) [] := .tuple g1' g2' g3' (rd g4')
  have e : PyData.eqv (.tuple (ns.map .int)) (.tuple (ns'.map .int)) = decide (ns = ns') := by
    have : PyData.eqv (.tuple (ns.map .int)) (.tuple (ns'.map .int)) = PyData.eqvAll (ns.map .int) (ns'.map .int) := by first | rfl | simp [PyData.eqv]
    rw [this, eqv_ints]
  rw [← e]
  refine SeqAt.eqAt_reads _ _ A s _ _ _ _ r1 r2 (by simp [PyData.canLay0, canLay_ints]) (by simp [PyData.canLay0, canLay_ints]) ?_
  simp only [PyData.depth, depth_ints]
  omega
theorem places_lt {b b' : Addr} {ob ob' : Obj} {ys ys' : Array Value} {m m' : Nat} {ns ns' : List Int} (g1 : s.heap.get? b = some ob) (g2 : ob.cls = .type "tuple") (g3 : ob.data = .seq ys m) (g4 : IntsAre ys.toList ns)
    (g1' : s.heap.get? b' = some ob') (g2' : ob'.cls = .type "tuple") (g3' : ob'.data = .seq ys' m') (g4' : IntsAre ys'.toList ns') (hu : A.units < cLine) : Ob.RcOp .Lt A s (.ref b) (.ref b') (HT.lexLt ns ns') := fun prog w E Q h =>
  HT.lt_tupInts (prog := prog) (w := w) (E := E) (Q := Q) ⟨ob, g1, g2, m, g3⟩ ⟨ob', g1', g2', m', g3'⟩ g4 g4' hu h
theorem names_lt {x y : Str} {t u : Tok} : Ob.RcOp .Lt A s (.str x t) (.str y u) (HT.lexLt (ofS x) (ofS y)) := fun prog w E Q h => by
  rw [← ltS_eq] at h
  exact lt_str (prog := prog) (w := w) (E := E) (Q := Q) h
/-- two keys' tuples, as the sort's own comparison has them -/
theorem key_lt {v v' : Value} {k k' : SK} (hv : KeyAt s.heap v k) (hv' : KeyAt s.heap v' k') (hu : A.units + 8 < cLine) : wpAny (model prog w) A (keyLt' (tuples' false) v v') (fun r s' => s' = s ∧ r = lexK k k') (fun _ _ => False) s := by
  obtain ⟨a, o, xs, n, b, ob, ys, m, t, rfl, h1, h2, h3, h4, h5, h6, h7, h8⟩ := hv
  obtain ⟨a', o', xs', n', b', ob', ys', m', t', rfl, h1', h2', h3', h4', h5', h6', h7', h8'⟩ := hv'
  refine kat_lt h1 h3 h1' h3' ?_
  rw [h4, h4']
  have hz : decide (xs.size < xs'.size) = false := by
    have e1 : xs.size = 2 := by rw [← Array.length_toList, h4]; rfl
    have e2 : xs'.size = 2 := by rw [← Array.length_toList, h4']; rfl
    rw [e1, e2]; rfl
  rw [hz]
  show KatLex prog w A false false _ [(.ref b, .ref b'), (.str k.2 t, .str k'.2 t')] 0 s
  unfold lexK
  refine kat_cons (places_eq h5 h6 h7 h8 h5' h6' h7' h8' (by omega) prog w _ _ ?_)
  refine kat_go (fun e1 => ?_) (fun e1 => ?_)
  · have ex : k.1 = k'.1 := of_decide_eq_true e1
    refine kat_yes (kat_cons (SeqAt.EqAt.str_str k.2 t k'.2 t' prog w _ _ ?_))
    refine kat_go (fun e2 => ?_) (fun e2 => ?_)
    · have ey : k.2 = k'.2 := by simpa using e2
      refine kat_yes (kat_nil ⟨rfl, ?_⟩)
      rw [if_pos ex, ey, lx_irr]
    · refine kat_no (kat_one _ _ ?_)
      refine names_lt (A := A) prog w _ _ ?_
      exact ⟨rfl, by rw [if_pos ex]⟩
  · have ex : ¬ k.1 = k'.1 := of_decide_eq_false e1
    refine kat_no (kat_one _ _ ?_)
    refine places_lt h5 h6 h7 h8 h5' h6' h7' h8' (by omega) prog w _ _ ?_
    exact ⟨rfl, by rw [if_neg ex]⟩
/-- .. as < has them, when they differ -/
theorem key_rc {v v' : Value} {k k' : SK} (hv : KeyAt s.heap v k) (hv' : KeyAt s.heap v' k') (hne : k ≠ k') (hu : A.units + 8 < cLine) : Ob.RcOp .Lt A s v v' (lexK k k') := by
  obtain ⟨a, o, xs, n, b, ob, ys, m, t, rfl, h1, h2, h3, h4, h5, h6, h7, h8⟩ := hv
  obtain ⟨a', o', xs', n', b', ob', ys', m', t', rfl, h1', h2', h3', h4', h5', h6', h7', h8'⟩ := hv'
  have e1 : xs.size = 2 := by rw [← Array.length_toList, h4]; rfl
  have e2 : xs'.size = 2 := by rw [← Array.length_toList, h4']; rfl
  have x0 : ∀ h : 0 < xs.size, xs[0] = .ref b := fun h => by
    have : xs.toList[0]? = some (.ref b) := by rw [h4]; rfl
    simpa [h] using this
  have x1 : ∀ h : 1 < xs.size, xs[1] = .str k.2 t := fun h => by
    have : xs.toList[1]? = some (.str k.2 t) := by rw [h4]; rfl
    simpa [h] using this
  have y0 : ∀ h : 0 < xs'.size, xs'[0] = .ref b' := fun h => by
    have : xs'.toList[0]? = some (.ref b') := by rw [h4']; rfl
    simpa [h] using this
  have y1 : ∀ h : 1 < xs'.size, xs'[1] = .str k'.2 t' := fun h => by
    have : xs'.toList[1]? = some (.str k'.2 t') := by rw [h4']; rfl
    simpa [h] using this
  have hu1 : A.in1.units + 4 < cLine := by
    have : A.in1.units ≤ A.units + 1 := by first | exact Nat.le_refl _ | simp [Around.in1]
    omega
  have R := Ob.RcOp.tuples_lt (A := A) (s := s) (e := fun j => if j = 0 then decide (k.1 = k'.1) else (k.2 == k'.2)) (r := fun j => if j = 0 then HT.lexLt k.1 k'.1 else HT.lexLt (ofS k.2) (ofS k'.2)) (l := a) (b := a') (items := xs) (items2 := xs') ⟨o, h1, h2, n, h3⟩ ⟨o', h1', h2', n', h3'⟩ (by omega) (fun j p1 p2 => by
      rcases (by omega : j = 0 ∨ j = 1) with rfl | rfl
      · rw [x0, y0]
        exact places_eq h5 h6 h7 h8 h5' h6' h7' h8' hu1
      · rw [x1, y1]
        exact SeqAt.EqAt.str_str k.2 t k'.2 t') (fun j p1 p2 _ => by
      rcases (by omega : j = 0 ∨ j = 1) with rfl | rfl
      · rw [x0, y0]
        exact places_lt h5 h6 h7 h8 h5' h6' h7' h8' (by omega)
      · rw [x1, y1]
        exact names_lt)
  have e : Ob.lexAt (fun j => if j = 0 then decide (k.1 = k'.1) else (k.2 == k'.2)) (fun j => if j = 0 then HT.lexLt k.1 k'.1 else HT.lexLt (ofS k.2) (ofS k'.2)) (decide (xs.size < xs'.size)) 0 (min xs.size xs'.size) = lexK k k' := by
    rw [e1, e2]
    show (if decide (k.1 = k'.1) = true then (if (k.2 == k'.2) = true then decide (2 < 2) else HT.lexLt (ofS k.2) (ofS k'.2)) else HT.lexLt k.1 k'.1) = lexK k k'
    unfold lexK
    by_cases p : k.1 = k'.1
    · have q : ¬ k.2 = k'.2 := fun z => hne (Prod.ext p z)
      simp [p, q]
    · simp [p]
  rw [e] at R
  exact R
/-- a pair of a key and a datum -/
structure PairAt (h : Heap) (v : Value) (k : SK) : Prop where
  ex : ∃ a o xs n u r, v = .ref a ∧ h.get? a = some o ∧ o.cls = .type "tuple" ∧ o.data = .seq xs n ∧ xs.toList = [u, r] ∧ KeyAt h u k ∧ ∃ as, Reads h u (stepP k) as
theorem pair_lt {v v' : Value} {k k' : SK} (hv : PairAt s.heap v k) (hv' : PairAt s.heap v' k') (hs : k = k' → v = v') (ok : PyData.strOk k.2 = true) (ok' : PyData.strOk k'.2 = true) (hu : A.units + 8 < cLine) : wpAny (model prog w) A (keyLt' (tuples' false) v v') (fun r s' => s' = s ∧ r = lexK k k') (fun _ _ => False) s := by
  obtain ⟨a, o, xs, n, u, r, rfl, h1, h2, h3, h4, ku, as, ru⟩ := hv
  obtain ⟨a', o', xs', n', u', r', rfl, h1', h2', h3', h4', ku', as', ru'⟩ := hv'
  refine kat_lt h1 h3 h1' h3' ?_
  rw [h4, h4']
  have hz : decide (xs.size < xs'.size) = false := by
    have e1 : xs.size = 2 := by rw [← Array.length_toList, h4]; rfl
    have e2 : xs'.size = 2 := by rw [← Array.length_toList, h4']; rfl
    rw [e1, e2]; rfl
  rw [hz]
  show KatLex prog w A false false _ [(u, u'), (r, r')] 0 s
  have cl : ∀ {k : SK}, PyData.strOk k.2 = true → (stepP k).canLay0 = true := fun {k} h => by simp [stepP, PyData.canLay0, PyData.canLayAll0, canLay_ints, h]
  have dp : ∀ k : SK, (stepP k).depth ≤ 2 := fun k => by simp [stepP, PyData.depth, PyData.depthAll, depth_ints]
  have q := SeqAt.eqAt_reads _ _ A s _ _ _ _ ru ru' (cl ok) (cl ok') (by have := dp k; have := dp k'; omega)
  rw [eqv_step] at q
  refine kat_cons (q prog w _ _ ?_)
  refine kat_go (fun e1 => ?_) (fun e1 => ?_)
  · have ex : k = k' := of_decide_eq_true e1
    have ea := hs ex
    cases ea
    rw [h1] at h1'
    cases h1'
    rw [h3] at h3'
    cases h3'
    rw [h4] at h4'
    cases h4'
    refine kat_yes (kat_cons (SeqAt.EqAt.same r prog w _ _ ?_))
    exact kat_yes (kat_nil ⟨rfl, by rw [ex, lk_irr]⟩)
  · have ex : ¬ k = k' := of_decide_eq_false e1
    refine kat_no (kat_one _ _ ?_)
    exact key_rc ku ku' ex hu prog w _ _ ⟨rfl, rfl⟩
end
end G
end

section
set_option Elab.async false
set_option linter.all false
set_option maxRecDepth 100000
set_option maxHeartbeats 2000000
namespace G
open PySem PySem.Spec PyProof.Rows L2 PySem.W SrtO
theorem ints_inj : ∀ {a b : List Int}, a.map PyData.int = b.map PyData.int → a = b
  | [], [], _ => rfl
  | [], _ :: _, h => by cases h
  | _ :: _, [], h => by cases h
  | x :: a, y :: b, h => by
    simp only [List.map_cons, List.cons.injEq, PyData.int.injEq] at h
    rw [h.1, ints_inj h.2]
theorem stepP_inj {k k' : SK} (h : stepP k = stepP k') : k = k' := by
  obtain ⟨a, x⟩ := k
  obtain ⟨b, y⟩ := k'
  unfold stepP at h
  simp only [PyData.tuple.injEq, List.cons.injEq, PyData.str.injEq, and_true] at h
  rw [ints_inj h.1, h.2]
/-- an item: a key (false), a key with a datum (true) -/
def El (b : Bool) (h : Heap) (v : Value) (k : SK) : Prop := match b with
  | false => ∃ as, Reads h v (stepP k) as
  | true => ∃ d as, Reads h v (.tuple [stepP k, d]) as
theorem El.keeps {b : Bool} {h h' : Heap} {v : Value} {k : SK} (e : El b h v k) (hk : ∀ b o, h.get? b = some o → h'.get? b = some o) : El b h' v k := by
  cases b with
  | false => obtain ⟨as, r⟩ := e; exact ⟨as, PyProof.Rows.Reads.keeps hk r⟩
  | true => obtain ⟨d, as, r⟩ := e; exact ⟨d, as, PyProof.Rows.Reads.keeps hk r⟩
theorem El.uniq {b : Bool} {h : Heap} {v : Value} {k k' : SK} (e : El b h v k) (e' : El b h v k') : k = k' := by
  cases b with
  | false =>
    obtain ⟨as, r⟩ := e
    obtain ⟨as', r'⟩ := e'
    exact stepP_inj (PySem.Reads.unique r _ _ r').1
  | true =>
    obtain ⟨d, as, r⟩ := e
    obtain ⟨d', as', r'⟩ := e'
    have := (PySem.Reads.unique r _ _ r').1
    simp only [PyData.tuple.injEq, List.cons.injEq] at this
    exact stepP_inj this.1
theorem El.pair {h : Heap} {v : Value} {k : SK} (e : El true h v k) : PairAt h v k := by
  obtain ⟨d, as, r⟩ := e
  obtain ⟨a, o, xs, n, bs, rfl, h1, h2, h3, h4⟩ := readsTup r
  obtain ⟨u, r0, cs, ds, e, r1, r2⟩ := readsAll2 h4
  exact ⟨a, o, xs, n, u, r0, rfl, h1, h2, h3, e, keyAt r1, _, r1⟩
theorem El.first {b : Bool} {h : Heap} {v : Value} {k : SK} (e : El b h v k) : ∃ a o xs n f, v = .ref a ∧ h.get? a = some o ∧ o.cls = .type "tuple" ∧ o.data = .seq xs n ∧ xs[0]? = some f ∧ ∃ c oc, f = .ref c ∧ h.get? c = some oc ∧ oc.cls = .type "tuple" := by
  cases b with
  | false =>
    obtain ⟨as, r⟩ := e
    obtain ⟨a, o, xs, n, b, ob, ys, m, t, rfl, h1, h2, h3, h4, h5, h6, h7, h8⟩ := (keyAt r).ex
    exact ⟨a, o, xs, n, .ref b, rfl, h1, h2, h3, by rw [← Array.getElem?_toList, h4]; rfl, b, ob, rfl, h5, h6⟩
  | true =>
    obtain ⟨a, o, xs, n, u, r, rfl, h1, h2, h3, h4, ku, _⟩ := e.pair.ex
    obtain ⟨c, oc, xs', n', b, ob, ys, m, t, rfl, g1, g2, _⟩ := ku.ex
    exact ⟨a, o, xs, n, .ref c, rfl, h1, h2, h3, by rw [← Array.getElem?_toList, h4]; rfl, c, oc, rfl, g1, g2⟩
theorem el_firsts {b : Bool} {h : Heap} {kv : Value → SK} : ∀ vs : List Value, (∀ v ∈ vs, El b h v (kv v)) → ∃ fs, KatTups h vs fs ∧ fs.length = vs.length ∧ ∀ f ∈ fs, ∃ c oc, f = .ref c ∧ h.get? c = some oc ∧ oc.cls = .type "tuple"
  | [], _ => ⟨[], KatTups.nil, rfl, by simp⟩
  | v :: vs, hv => by
    obtain ⟨a, o, xs, n, f, rfl, h1, h2, h3, h4, h5⟩ := (hv v (by simp)).first
    obtain ⟨fs, t, l, hf⟩ := el_firsts vs fun u hu => hv u (by simp [hu])
    exact ⟨f :: fs, KatTups.cons h1 h2 h3 h4 t, by simp [l], fun g hg => by
      rcases List.mem_cons.mp hg with rfl | hg
      · exact h5
      · exact hf g hg⟩
section
variable {X : Cx} {W : XW}
def ElV (b : Bool) (K : PySem.W.Frag) (H : Hp) (x : V) (k : SK) : Prop := match b with
  | false => Dp K H x (stepP k)
  | true => ∃ d, Dp K H x (.tuple [stepP k, d])
abbrev srtZ {α : Type} (l : List (α × SK)) : List α := (isort (fun x y => lexK x.2 y.2) l).map (·.1)
def rSortK (b : Bool) (K : PySem.W.Frag) : List V → Hp → VK → Prop := fun vs H Q => ∃ (a : Addr) (xs : List V) (ks : List SK), vs = [.ref a] ∧ SqL K H a xs ∧ Paired (ElV b K H) xs ks ∧ ks.Nodup ∧ (∀ k ∈ ks, PyData.strOk k.2 = true) ∧
  ∀ p, H p = none → Q (.ref p) (upd H p (.lst (srtZ (xs.zip ks))))
theorem tri_of {b : Bool} {pins : List (Addr × Obj)} {σ : L2.St} {H : Hp} {s : Shared} (I : Inv X pins σ H s) : ∀ {xs : List V} {its : List Value} {ks : List SK}, Vals xs its → Paired (ElV b X.K H) xs ks → ∃ T : List (V × Value × SK), T.map (·.1) = xs ∧ T.map (·.2.1) = its ∧ T.map (·.2.2) = ks ∧ ∀ t ∈ T, RelV t.1 t.2.1 ∧ El b s.heap t.2.1 t.2.2
  | [], its, ks, rv, p => by
    cases rv
    cases p
    exact ⟨[], rfl, rfl, rfl, by simp⟩
  | x :: xs, its, ks, rv, p => by
    cases rv with
    | @cons _ u _ us r1 r2 =>
      cases p with
      | @cons _ k _ ks' p1 p2 =>
        obtain ⟨T, e1, e2, e3, h⟩ := tri_of I r2 p2
        refine ⟨(x, u, k) :: T, by simp [e1], by simp [e2], by simp [e3], fun t ht => ?_⟩
        rcases List.mem_cons.mp ht with rfl | ht
        · refine ⟨r1, ?_⟩
          cases b with
          | false => obtain ⟨as, r⟩ := Dp.reads I _ _ _ p1 r1; exact ⟨as, r⟩
          | true => obtain ⟨d, p1⟩ := p1; obtain ⟨as, r⟩ := Dp.reads I _ _ _ p1 r1; exact ⟨d, as, r⟩
        · exact h t ht
theorem vals_map : ∀ {T : List (V × Value × SK)}, (∀ t ∈ T, RelV t.1 t.2.1) → Vals (T.map (·.1)) (T.map (·.2.1))
  | [], _ => .nil
  | t :: T, h => .cons (h t (by simp)) (vals_map fun u hu => h u (by simp [hu]))
theorem cr_sortK (b : Bool) (hu : X.A.units + 12 < cLine) : CallR X (.builtin "sorted") (rSortK b X.K) := by
  intro pins s σ H vs us Q I r h
  obtain ⟨a, xs, ks, rfl, hs, hp, nd, ok, q⟩ := h
  obtain ⟨its, rv, hl, hz⟩ := I.list hs
  rw [Vals.ref1 r]
  obtain ⟨T, e1, e2, e3, hT⟩ := tri_of I rv hp
  classical
  let kv : Value → SK := fun v => if h : ∃ k, El b s.heap v k then Classical.choose h else ([], "")
  have hkv : ∀ t ∈ T, kv t.2.1 = t.2.2 := fun t ht => by
    have ex : ∃ k, El b s.heap t.2.1 k := ⟨_, (hT t ht).2⟩
    show (if h : ∃ k, El b s.heap t.2.1 k then Classical.choose h else ([], "")) = t.2.2
    rw [dif_pos ex]
    exact (Classical.choose_spec ex).uniq (hT t ht).2
  have hel : ∀ v ∈ its, El b s.heap v (kv v) ∧ PyData.strOk (kv v).2 = true := fun v hv => by
    rw [← e2] at hv
    obtain ⟨t, ht, rfl⟩ := List.mem_map.mp hv
    rw [hkv t ht]
    exact ⟨(hT t ht).2, ok _ (by rw [← e3]; exact List.mem_map.mpr ⟨t, ht, rfl⟩)⟩
  have inj : ∀ v ∈ its, ∀ u ∈ its, kv v = kv u → v = u := fun v hv u hu' e => by
    rw [← e2] at hv hu'
    obtain ⟨t, ht, rfl⟩ := List.mem_map.mp hv
    obtain ⟨t', ht', rfl⟩ := List.mem_map.mp hu'
    rw [hkv t ht, hkv t' ht'] at e
    rw [nodup_inj (f := fun t : V × Value × SK => t.2.2) (by rw [e3]; exact nd) t ht t' ht' e]
  refine SrtO.sorted_ord (lk_swo kv) hl.isList (by rw [← rv.length]; exact hz) (fun h2 h₁ a' ha kk => ?_) fun out h1 h2 => ?_
  · intro h' keep
    have kp : ∀ b o, s.heap.get? b = some o → h'.get? b = some o := fun b o e => keep b o (kk b o e).1 (kk b o e).2
    have hel' : ∀ v ∈ its, El b h' v (kv v) := fun v hv => (hel v hv).1.keeps kp
    obtain ⟨fs, t1, t2, t3⟩ := el_firsts its hel'
    have hu2 : X.A.in1.in1.units + 8 < cLine := by
      have a1 : X.A.in1.units ≤ X.A.units + 1 := by first | exact Nat.le_refl _ | simp [Around.in1]
      have a2 : X.A.in1.in1.units ≤ X.A.in1.units + 1 := by first | exact Nat.le_refl _ | simp [Around.in1]
      omega
    refine ⟨tuples' false, fun Q E hq => ?_, ?_⟩
    · refine kat_kind (T := .type "tuple") t1 (by omega) (fun f hf => ?_) (by rfl) ?_
      · obtain ⟨c, oc, rfl, hc, ht⟩ := t3 f hf
        exact fun A Q E s k q => wpAny_typeOf_ref (k _ _ hc) (by rw [ht]; exact q)
      · have e : (Value.type "tuple" != Value.type "tuple") = false := by first | decide +kernel | rfl
        rw [e]
        exact hq
    · intro p p' hp' hp''
      show wpAny (model X.prog X.w) X.A.in1.in1 (keyLt' (tuples' false) p.1 p'.1) (fun r s' => s' = _ ∧ r = lexK (kv p.1) (kv p'.1)) (fun _ _ => False) _
      cases b with
      | false =>
        obtain ⟨as, r1⟩ := hel' p.1 hp'
        obtain ⟨as', r2⟩ := hel' p'.1 hp''
        exact key_lt (s := { s with heap := h' }) (keyAt r1) (keyAt r2) hu2
      | true =>
        exact pair_lt (s := { s with heap := h' }) (hel' p.1 hp').pair (hel' p'.1 hp'').pair (inj p.1 hp' p'.1 hp'') (hel p.1 hp').2 (hel p'.1 hp'').2 hu2
  · have eo : out = (isort (fun x y : V × Value × SK => lexK x.2.2 y.2.2) T).map (·.2.1) := by
      have pt := isort_perm (fun x y : V × Value × SK => lexK x.2.2 y.2.2) T
      have pm : ((isort (fun x y : V × Value × SK => lexK x.2.2 y.2.2) T).map (·.2.1)).Perm its := by
        have := pt.map (fun t : V × Value × SK => t.2.1)
        rw [e2] at this
        exact this
      refine srtd_uniq h1 ?_ (h2.perm.trans pm.symm) fun v hv u hu' q1 q2 => inj v (h2.perm.mem_iff.mp hv) u (h2.perm.mem_iff.mp hu') (lk_tri q1 q2)
      refine List.pairwise_map.mpr ?_
      have so := isort_srtd (lk_swo fun t : V × Value × SK => t.2.2) T
      refine List.Pairwise.imp_of_mem (fun {x y} hx hy z => ?_) so
      show lexK (kv y.2.1) (kv x.2.1) = false
      rw [hkv x (pt.mem_iff.mp hx), hkv y (pt.mem_iff.mp hy)]
      exact z
    have ey : srtZ (xs.zip ks) = (isort (fun x y : V × Value × SK => lexK x.2.2 y.2.2) T).map (·.1) := by
      have ez : xs.zip ks = T.map fun t => (t.1, t.2.2) := by
        rw [← e1, ← e3, List.zip_map']
      show (isort (fun x y : V × SK => lexK x.2 y.2) (xs.zip ks)).map (·.1) = _
      rw [ez, isort_map (fun x y : V × SK => lexK x.2 y.2) (fun t : V × Value × SK => (t.1, t.2.2)), List.map_map]
      rfl
    have rvs : Vals (srtZ (xs.zip ks)) out := by
      rw [ey, eo]
      exact vals_map fun t ht => (hT t ((isort_perm _ T).mem_iff.mp ht)).1
    obtain ⟨ep, he'⟩ := PyProof.Rows.sortedAll_at s.heap its out.toArray
    have hlen : (srtZ (xs.zip ks)).length ≤ sizeLine := by
      rw [rvs.length, h2.len, ← rv.length]; exact hz
    exact ⟨.ref _, upd H (s.heap.objs.size + 1) (.lst (srtZ (xs.zip ks))), I.laid (t' := s.toks) (fun _ _ => PyProof.Rows.sortedAll_old) (Nat.le_succ _) ⟨hlen, out, ep, rvs, he'⟩, rfl, q _ (I.hok.fresh (Nat.le_succ _))⟩
end
end G
end

section
set_option Elab.async false
set_option linter.all false
set_option maxRecDepth 100000
set_option maxHeartbeats 2000000
namespace G
open PySem PySem.Spec PyProof.Rows L2
/-! ## sorted(..) of steps -/
def keyS : D → Option SK
  | .tup [.tup p, .str nm] => (ints? p).map fun ns => (ns, nm)
  | _ => none
def keyD (b : Bool) (d : D) : Option SK := match b, d with
  | false, d => keyS d
  | true, .tup [k, r] => match r.data with
    | some _ => keyS k
    | none => none
  | _, _ => none
def keysD (b : Bool) : List D → Option (List SK)
  | [] => some []
  | d :: l => match keyD b d, keysD b l with
    | some k, some ks => some (k :: ks)
    | _, _ => none
def srtD (b : Bool) (l : List D) : Option (List D) := (keysD b l).bind fun ks => if ks.Nodup ∧ (ks.all fun k => PyData.strOk k.2) = true then some (srtZ (l.zip ks)) else none
def dSort (b : Bool) : List D → Store → Option D
  | [.lst l], _ => (srtD b l).map .lst
  | [.cell c], st => (cellL st c).bind fun l => (srtD b l).map .lst
  | _, _ => none
theorem datas_ints : ∀ {p : List D} {ns : List Int}, ints? p = some ns → D.datas p = some (ns.map .int)
  | [], ns, h => by cases h; rfl
  | .int i :: l, ns, h => by
    cases q : ints? l with
    | none => simp [ints?, q] at h
    | some ms => simp [ints?, q] at h; subst h; simp [D.datas, D.data, datas_ints q]
  | .non :: _, _, h => by cases h
  | .bl _ :: _, _, h => by cases h
  | .str _ :: _, _, h => by cases h
  | .tup _ :: _, _, h => by cases h
  | .lst _ :: _, _, h => by cases h
  | .cell _ :: _, _, h => by cases h
  | .dct0 :: _, _, h => by cases h
  | .exc _ :: _, _, h => by cases h
  | .con _ :: _, _, h => by cases h
theorem keyS_data {d : D} {k : SK} (h : keyS d = some k) : d.data = some (stepP k) := by
  unfold keyS at h
  split at h
  · rename_i p nm
    cases q : ints? p with
    | none => rw [q] at h; cases h
    | some ns =>
      rw [q] at h
      cases h
      simp [D.data, D.datas, datas_ints q, stepP]
  · cases h
theorem keyD_el {b : Bool} {w : Wd} {d : D} {x : V} {k : SK} (r : Rep w d x) (h : keyD b d = some k) : ElV b w.K w.H x k := by
  cases b with
  | false => exact dp_of d x _ r (keyS_data h)
  | true =>
    unfold keyD at h
    split at h
    · rename_i q; cases q
    · rename_i k' r' _
      split at h
      · rename_i p ep
        exact ⟨p, dp_of _ x _ r (by simp [D.data, D.datas, keyS_data h, ep])⟩
      · cases h
    · cases h
theorem keysD_el {b : Bool} {w : Wd} : ∀ {l : List D} {xs : List V} {ks : List SK}, Reps w l xs → keysD b l = some ks → Paired (ElV b w.K w.H) xs ks ∧ ∃ T : List (D × V × SK), T.map (·.1) = l ∧ T.map (·.2.1) = xs ∧ T.map (·.2.2) = ks ∧ ∀ t ∈ T, Rep w t.1 t.2.1
  | [], xs, ks, r, h => by
    cases h
    simp only [Reps] at r
    subst r
    exact ⟨.nil, [], rfl, rfl, rfl, by simp⟩
  | d :: l, xs, ks, r, h => by
    simp only [Reps] at r
    obtain ⟨x, ys, rfl, r1, r2⟩ := r
    simp only [keysD] at h
    cases q1 : keyD b d with
    | none => rw [q1] at h; cases h
    | some k =>
      cases q2 : keysD b l with
      | none => rw [q1, q2] at h; cases h
      | some ks' =>
        rw [q1, q2] at h
        cases h
        obtain ⟨p, T, e1, e2, e3, hT⟩ := keysD_el r2 q2
        refine ⟨.cons (keyD_el r1 q1) p, (d, x, k) :: T, by simp [e1], by simp [e2], by simp [e3], fun t ht => ?_⟩
        rcases List.mem_cons.mp ht with rfl | ht
        · exact r1
        · exact hT t ht
theorem reps_map {w : Wd} : ∀ {T : List (D × V × SK)}, (∀ t ∈ T, Rep w t.1 t.2.1) → Reps w (T.map (·.1)) (T.map (·.2.1))
  | [], _ => by simp [Reps]
  | t :: T, h => by
    simp only [List.map_cons, Reps]
    exact ⟨_, _, rfl, h t (by simp), reps_map fun u hu => h u (by simp [hu])⟩
theorem srtD_rd {b : Bool} {w : Wd} {l l' : List D} {xs : List V} (r : Reps w l xs) (h : srtD b l = some l') : ∃ ks, Paired (ElV b w.K w.H) xs ks ∧ ks.Nodup ∧ (∀ k ∈ ks, PyData.strOk k.2 = true) ∧ Reps w l' (srtZ (xs.zip ks)) ∧ l'.length = l.length := by
  unfold srtD at h
  cases q : keysD b l with
  | none => rw [q] at h; cases h
  | some ks =>
    rw [q] at h
    simp only [Option.bind_some] at h
    split at h
    · rename_i hc
      cases h
      obtain ⟨p, T, e1, e2, e3, hT⟩ := keysD_el r q
      refine ⟨ks, p, hc.1, fun k hk => List.all_eq_true.mp hc.2 k hk, ?_, ?_⟩
      · have a1 : srtZ (l.zip ks) = (isort (fun x y : D × V × SK => lexK x.2.2 y.2.2) T).map (·.1) := by
          have ez : l.zip ks = T.map fun t => (t.1, t.2.2) := by rw [← e1, ← e3, List.zip_map']
          show (isort (fun x y : D × SK => lexK x.2 y.2) (l.zip ks)).map (·.1) = _
          rw [ez, isort_map (fun x y : D × SK => lexK x.2 y.2) (fun t : D × V × SK => (t.1, t.2.2)), List.map_map]
          rfl
        have a2 : srtZ (xs.zip ks) = (isort (fun x y : D × V × SK => lexK x.2.2 y.2.2) T).map (·.2.1) := by
          have ez : xs.zip ks = T.map fun t => (t.2.1, t.2.2) := by rw [← e2, ← e3, List.zip_map']
          show (isort (fun x y : V × SK => lexK x.2 y.2) (xs.zip ks)).map (·.1) = _
          rw [ez, isort_map (fun x y : V × SK => lexK x.2 y.2) (fun t : D × V × SK => (t.2.1, t.2.2)), List.map_map]
          rfl
        rw [a1, a2]
        exact reps_map fun t ht => hT t ((isort_perm _ T).mem_iff.mp ht)
      · show ((isort (fun x y : D × SK => lexK x.2 y.2) (l.zip ks)).map (·.1)).length = _
        rw [List.length_map, (isort_perm _ _).length_eq, ← e1, ← e3]
        simp
    · cases h
section
variable {X : Cx} {W : XW} {e a : Expr} {pos p : Pos} {fa : Ev → M D}
theorem cd_sort (b : Bool) (hu : X.A.units + 12 < cLine) : CallD X (.builtin "sorted") (dSort b) := CallR.imp' (cr_sortK b hu) fun xs H Q h => by
  obtain ⟨w, ds, hk, rfl, rs, rd, q⟩ := h
  obtain ⟨d, e⟩ := wq_some q
  have e0 := e
  unfold dSort at e
  split at e
  · rename_i l
    obtain ⟨v, rfl, r⟩ := reps1 rd
    simp only [Rep] at r
    obtain ⟨p, ys, rfl, fz, rr, hl⟩ := r
    cases qs : srtD b l with
    | none => rw [qs] at e; cases e
    | some l' =>
      rw [qs] at e
      obtain ⟨ks, h1, h2, h3, h4, h5⟩ := srtD_rd rr qs
      exact ⟨p, ys, ks, rfl, SqL.of fz.1.1, by rw [← hk]; exact h1, h2, h3, fun p' hp => q.new rs hp (e0.trans e.symm) (rep_new rs hp h4 (by rw [h5]; exact hl))⟩
  · rename_i st' c
    obtain ⟨v, rfl, r⟩ := reps1 rd
    simp only [Rep] at r
    cases qc : cellL w.st c with
    | none => rw [qc] at e; cases e
    | some l =>
      rw [qc] at e
      simp only [Option.bind_some] at e
      obtain ⟨ys, sq, rr, hl⟩ := cell_sq rs qc
      cases qs : srtD b l with
      | none => rw [qs] at e; cases e
      | some l' =>
        rw [qs] at e
        obtain ⟨ks, h1, h2, h3, h4, h5⟩ := srtD_rd rr qs
        exact ⟨_, ys, ks, by rw [r.1], by rw [← hk]; exact sq, by rw [← hk]; exact h1, h2, h3, fun p' hp => q.new rs hp (e0.trans e.symm) (rep_new rs hp h4 (by rw [h5]; exact hl))⟩
  · cases e
/-- sorted(e), to be changed later -/
def sortC (b : Bool) (ds : List D) : M D := fun st => match dSort b ds st with
  | some (.lst l) => .ok (.cell st.length) (st ++ [.lst l])
  | _ => .bad
def eSortC (b : Bool) (fs : List (Ev → M D)) : Ev → M D := fun env => do
  let ds ← aSeq fs env
  sortC b ds
theorem de_sortC (b : Bool) (hu : X.A.units + 12 < cLine) (hg : Gl X "sorted") (hm : X.mg "sorted" = none) (ha : DA X W [a] [fa]) (he : starEach [a] X.env = (false, eval a X.env) :: starEach [] X.env := by rfl) (hpl : (backTo pos (starEach [] X.env)).any (·.1) = false := by rfl) :
    DE X W (.Call (.Name "sorted" p) [a] [] pos) (eSortC b [fa]) := PE.imp' (pe_callB (cr_sortK b hu) hg hm (by decide +kernel) ha (by decide) (by decide) he hpl) fun σ H Q h => by
  obtain ⟨w, env, hk, rfl, r, n, h⟩ := h
  refine ⟨w, env, hk, rfl, r, n, (Wp.bind h).imp fun ds w1 a1 h1 vs rvs => ?_⟩
  unfold sortC at h1
  have hk1 := a1.k.trans hk
  split at h1
  · rename_i l' e
    unfold dSort at e
    split at e
    · rename_i l
      obtain ⟨v, rfl, r⟩ := reps1 rvs
      simp only [Rep] at r
      obtain ⟨p, ys, rfl, fz, rr, hl⟩ := r
      cases qs : srtD b l with
      | none => rw [qs] at e; cases e
      | some l'' =>
        rw [qs] at e
        simp only [Option.map_some, Option.some.injEq, D.lst.injEq] at e
        subst e
        obtain ⟨ks, g1, g2, g3, g4, g5⟩ := srtD_rd rr qs
        refine ⟨p, ys, ks, rfl, SqL.of fz.1.1, by rw [← hk1]; exact g1, g2, g3, fun p' hp => ?_⟩
        obtain ⟨a3, r3⟩ := aft_newL a1.rs hp g4 (by rw [g5]; exact hl)
        exact h1 _ a3 rfl _ r3
    · rename_i st' c
      obtain ⟨v, rfl, r⟩ := reps1 rvs
      simp only [Rep] at r
      cases qc : cellL w1.st c with
      | none => rw [qc] at e; cases e
      | some l =>
        rw [qc] at e
        simp only [Option.bind_some] at e
        obtain ⟨ys, sq, rr, hl⟩ := cell_sq a1.rs qc
        cases qs : srtD b l with
        | none => rw [qs] at e; cases e
        | some l'' =>
          rw [qs] at e
          simp only [Option.map_some, Option.some.injEq, D.lst.injEq] at e
          subst e
          obtain ⟨ks, g1, g2, g3, g4, g5⟩ := srtD_rd rr qs
          refine ⟨_, ys, ks, by rw [r.1], by rw [← hk1]; exact sq, by rw [← hk1]; exact g1, g2, g3, fun p' hp => ?_⟩
          obtain ⟨a3, r3⟩ := aft_newL a1.rs hp g4 (by rw [g5]; exact hl)
          exact h1 _ a3 rfl _ r3
    · cases e
  · exact h1.elim
end
end G
end

section
set_option Elab.async false
set_option linter.all false
set_option maxRecDepth 100000
set_option maxHeartbeats 2000000
namespace G
open PySem PySem.Spec PyProof.Rows L2
/-! ## constants of the module, nested -/
mutual
def conV (K : PySem.W.Frag) : D → Value → Bool
  | .str z, .str y _ => decide (y = z)
  | .int i, .int j _ => decide (j = i)
  | .con x, v => decide (v = .ref (He.ga K x))
  | .tup l, .ref a => match K.lookup a with
    | some ⟨.type c, _, .seq its _, _⟩ => decide (c = "tuple") && (decide (its.size ≤ sizeLine) && conVs K l its.toList)
    | _ => false
  | _, _ => false
def conVs (K : PySem.W.Frag) : List D → List Value → Bool
  | [], [] => true
  | d :: l, v :: vs => conV K d v && conVs K l vs
  | _, _ => false
end
mutual
theorem conV_rep {K : PySem.W.Frag} : ∀ (d : D) (v : Value), conV K d v = true → ∃ x, RelV x v ∧ ∀ w : Wd, w.K = K → Rep w d x
  | .str z, v, h => by
    cases v <;> simp only [conV] at h <;> try cases h
    rename_i y t
    have := of_decide_eq_true h
    subst this
    exact ⟨.str y, ⟨t, rfl⟩, fun w _ => by simp [Rep]⟩
  | .int z, v, h => by
    cases v <;> simp only [conV] at h <;> try cases h
    rename_i y t
    have := of_decide_eq_true h
    subst this
    exact ⟨.int y, ⟨t, rfl⟩, fun w _ => by simp [Rep]⟩
  | .tup l, v, h => by
    cases v <;> simp only [conV] at h <;> try cases h
    rename_i a
    split at h
    · rename_i c od its n sl q
      simp only [Bool.and_eq_true, decide_eq_true_eq] at h
      obtain ⟨xs, rv, hr, hl⟩ := conVs_rep l its.toList h.2.2
      refine ⟨.ref a, rfl, fun w hk => ?_⟩
      simp only [Rep]
      refine ⟨a, xs, rfl, .inr ⟨_, its, n, by rw [hk]; exact q, congrArg Value.type h.1, rfl, h.2.1, rv⟩, hr w hk, ?_⟩
      rw [hl, Array.length_toList]
      exact h.2.1
    · cases h
  | .non, v, h => by simp [conV] at h
  | .bl _, v, h => by simp [conV] at h
  | .lst _, v, h => by simp [conV] at h
  | .cell _, v, h => by simp [conV] at h
  | .dct0, v, h => by simp [conV] at h
  | .exc _, v, h => by simp [conV] at h
  | .con x, v, h => by
    simp only [conV] at h
    have := of_decide_eq_true h
    subst this
    exact ⟨.ref (He.ga K x), rfl, fun w hk => by simp only [Rep]; rw [hk]⟩
theorem conVs_rep {K : PySem.W.Frag} : ∀ (l : List D) (vs : List Value), conVs K l vs = true → ∃ xs, Vals xs vs ∧ (∀ w : Wd, w.K = K → Reps w l xs) ∧ l.length = vs.length
  | [], [], _ => ⟨[], .nil, fun w _ => by simp [Reps], rfl⟩
  | [], _ :: _, h => by simp [conVs] at h
  | _ :: _, [], h => by simp [conVs] at h
  | d :: l, v :: vs, h => by
    simp only [conVs, Bool.and_eq_true] at h
    obtain ⟨x, r1, h1⟩ := conV_rep d v h.1
    obtain ⟨xs, r2, h2, h3⟩ := conVs_rep l vs h.2
    exact ⟨x :: xs, .cons r1 r2, fun w hk => by simp only [Reps]; exact ⟨x, xs, rfl, h1 w hk, h2 w hk⟩, by simp [h3]⟩
end
structure ConR (K : PySem.W.Frag) (mg : Str → Option Value) (x : Str) (d : D) : Prop where
  at_ : ∃ v u, mg x = some u ∧ RelV v u ∧ ∀ w : Wd, w.K = K → Rep w d v
theorem conR_of {K : PySem.W.Frag} {mg : Str → Option Value} {x : Str} {d : D} (h : mg x = some (.ref (He.ga K x))) (c : conV K d (.ref (He.ga K x)) = true) : ConR K mg x d := by
  obtain ⟨v, r, hr⟩ := conV_rep _ _ c
  exact ⟨v, _, h, r, hr⟩
section
variable {X : Cx} {W : XW} {pos : Pos} {x : Str}
theorem de_conR {d : D} (hg : Gl X x) (hc : ConR X.K X.mg x d) (hd : (x == ("__debug__" : Str)) = false := by decide) : DE X W (.Name x pos) (eC d) := by
  obtain ⟨v, u, h1, h2, h3⟩ := hc.at_
  exact de_glob hg h1 h2 h3 hd
end
theorem room12 {A : Around} {n : Nat} (r : Room n A) : A.units + 12 < cLine := by have := r.un; omega
end G
end

section
set_option Elab.async false
set_option linter.all false
set_option maxRecDepth 100000
set_option maxHeartbeats 2000000
namespace G
open PySem PySem.Spec PyProof.Rows L2 HotX
/-! ## iteration while an exception is handled -/
section
variable {prog : Program} {w : World} {A : Around} {E : Value → Shared → Prop} {s : Shared}
theorem next_list_end_hot {it l x1 : Addr} {i : Nat} {items} {Q : Option Value → Shared → Prop} (hot : HotAt A x1 s.heap) (hne : x1 ≠ it)
    (hit : s.heap.IsListIter it l i) (hl : s.heap.IsList l items) (hx : items[i]? = none)
    (hQ : ∀ h', Heap.ExtBut it s.heap h' → Q none { s with heap := h' }) : wpAny (model prog w) A (pyNext (.ref it)) Q E s := by
  obtain ⟨o, ho, hc, hd⟩ := id hit
  obtain ⟨ol, hol, _, nl, hdl⟩ := hl
  obtain ⟨hh, o1, vs1, h1, d1, c1⟩ := hot
  unfold pyNext
  refine wpAny_bind (wpAny_attempt (wpAny_callSpecial?_slot (name := Str.ofString "__next__") hit.typeIs slot_listiter_next
    (wpAny_call_entry slot_listiter_next hit.typeIs entry_listiter_next ?_ (args_listiter_next _))))
  show wpAny _ _ (field (.ref it) 0 >>= _) _ _ s
  refine wpAny_bind (wpAny_field ho hd (x := .ref l) rfl ?_)
  show wpAny _ _ (if (Value.ref l == Value.none) = true then _ else _) _ _ s
  rw [if_neg (show ¬ ((Value.ref l == Value.none) = true) from Bool.false_ne_true)]
  show wpAny _ _ (field (.ref it) 1 >>= _) _ _ s
  refine wpAny_bind (wpAny_field ho hd (x := .int i 0) rfl ?_)
  show wpAny _ _ (seqItems? (.ref l) >>= _) _ _ s
  refine wpAny_bind (wpAny_seqItems hol hdl ?_)
  simp only [Int.toNat_natCast, hx]
  refine wpAny_bind (wpAny_rule (wpAny_bind (wpAny_setField ho hd (by simp) ?_)))
  have sb := Heap.SameBut.update (h := s.heap) it (Obj.mapFields (·.setIfInBounds 0 Value.none))
  have h1' := (sb.2 x1 hne).trans h1
  show wpAny _ _ (newExc (.type "StopIteration") [] >>= _) _ _ _
  refine wpAny_bind ?_
  simp only [newExc, newTuple]
  refine wpAny_bind (wpAny_newObj_type ?_ (by size_fits))
  refine wpAny_bind (m := firstArgMember _ _) (wpAny_of_eq (a := Value.none) (by first | rfl | (simp only [firstArgMember]; rfl)) ?_)
  refine wpAny_newObj_type ?_ (by size_fits)
  refine raiseNew_hot ⟨hh, o1, vs1, Heap.get?_push_of_some _ (Heap.get?_push_of_some _ h1'), d1, c1⟩ (Nat.ne_of_lt (Heap.lt_size (Heap.get?_push_of_some _ h1'))) (Heap.get?_push_size _ rfl) rfl (by first | (simp; done) | (simp; omega) | (simp only [Array.size_append]; simp; omega)) ?_
  refine wpAny_bind (wpAny_isInstance (T := "StopIteration") (b := true) ⟨_, Heap.get?_update_self _ (Heap.get?_push_size _ rfl) rfl, rfl⟩ isSubtype_stop ?_)
  refine wpAny_pure (hQ _ fun b o hb e => ?_)
  have e' := (sb.2 b hb).trans e
  rw [Heap.get?_update_other _ _ (Nat.ne_of_gt (Heap.lt_size (Heap.get?_push_of_some _ e')))]
  exact Heap.get?_push_of_some _ (Heap.get?_push_of_some _ e')
theorem next_tuple_end_hot {it l x1 : Addr} {i : Nat} {items} {Q : Option Value → Shared → Prop} (hot : HotAt A x1 s.heap) (hne : x1 ≠ it)
    (hit : IsTupIter s.heap it l i) (hl : IsTup s.heap l items) (hx : items[i]? = none)
    (hQ : ∀ h', Heap.ExtBut it s.heap h' → Q none { s with heap := h' }) : wpAny (model prog w) A (pyNext (.ref it)) Q E s := by
  obtain ⟨o, ho, hc, hd⟩ := id hit
  obtain ⟨ol, hol, _, nl, hdl⟩ := hl
  obtain ⟨hh, o1, vs1, h1, d1, c1⟩ := hot
  unfold pyNext
  refine wpAny_bind (wpAny_attempt (wpAny_callSpecial?_slot (name := Str.ofString "__next__") hit.typeIs slot_tupleiter_next
    (wpAny_call_entry slot_tupleiter_next hit.typeIs entry_tupleiter_next ?_ (args_tupleiter_next _))))
  show wpAny _ _ (field (.ref it) 0 >>= _) _ _ s
  refine wpAny_bind (wpAny_field ho hd (x := .ref l) rfl ?_)
  show wpAny _ _ (if (Value.ref l == Value.none) = true then _ else _) _ _ s
  rw [if_neg (show ¬ ((Value.ref l == Value.none) = true) from Bool.false_ne_true)]
  show wpAny _ _ (field (.ref it) 1 >>= _) _ _ s
  refine wpAny_bind (wpAny_field ho hd (x := .int i 0) rfl ?_)
  show wpAny _ _ (seqItems? (.ref l) >>= _) _ _ s
  refine wpAny_bind (wpAny_seqItems hol hdl ?_)
  simp only [Int.toNat_natCast, hx]
  refine wpAny_bind (wpAny_rule (wpAny_bind (wpAny_setField ho hd (by simp) ?_)))
  have sb := Heap.SameBut.update (h := s.heap) it (Obj.mapFields (·.setIfInBounds 0 Value.none))
  have h1' := (sb.2 x1 hne).trans h1
  show wpAny _ _ (newExc (.type "StopIteration") [] >>= _) _ _ _
  refine wpAny_bind ?_
  simp only [newExc, newTuple]
  refine wpAny_bind (wpAny_newObj_type ?_ (by size_fits))
  refine wpAny_bind (m := firstArgMember _ _) (wpAny_of_eq (a := Value.none) (by first | rfl | (simp only [firstArgMember]; rfl)) ?_)
  refine wpAny_newObj_type ?_ (by size_fits)
  refine raiseNew_hot ⟨hh, o1, vs1, Heap.get?_push_of_some _ (Heap.get?_push_of_some _ h1'), d1, c1⟩ (Nat.ne_of_lt (Heap.lt_size (Heap.get?_push_of_some _ h1'))) (Heap.get?_push_size _ rfl) rfl (by first | (simp; done) | (simp; omega) | (simp only [Array.size_append]; simp; omega)) ?_
  refine wpAny_bind (wpAny_isInstance (T := "StopIteration") (b := true) ⟨_, Heap.get?_update_self _ (Heap.get?_push_size _ rfl) rfl, rfl⟩ isSubtype_stop ?_)
  refine wpAny_pure (hQ _ fun b o hb e => ?_)
  have e' := (sb.2 b hb).trans e
  rw [Heap.get?_update_other _ _ (Nat.ne_of_gt (Heap.lt_size (Heap.get?_push_of_some _ e')))]
  exact Heap.get?_push_of_some _ (Heap.get?_push_of_some _ e')
theorem unpackItems_hot {t x1 : Addr} {items : Array Value} {Q : List Value → Shared → Prop} (hot : HotAt A x1 s.heap) (ht : IsTup s.heap t items)
    (hQ : ∀ h', Heap.ExtBut s.heap.objs.size s.heap h' → Q items.toList { s with heap := h' }) : wpAny (model prog w) A (unpackItems (.ref t) items.size none) Q E s := by
  have hlt : t ≠ s.heap.objs.size := by obtain ⟨o, ho, _⟩ := ht; exact Nat.ne_of_lt (Heap.lt_size ho)
  obtain ⟨hh, o1, vs1, h1, d1, c1⟩ := hot
  have hx1 : x1 ≠ s.heap.objs.size := Nat.ne_of_lt (Heap.lt_size h1)
  unfold unpackItems
  refine wpAny_bind ?_
  unfold notIterableAtAll
  refine wpAny_bind (wpAny_specialOf ht.typeIs slot_tuple_iter.lookup ?_)
  refine wpAny_pure ?_
  simp only [Bool.false_eq_true, if_false]
  refine wpAny_bind (wpAny_holding (iter_tuple ht ?_))
  refine wpAny_bind (wpAny_holding (draw_tuple hlt items.size 0 _ _ ⟨_, Heap.get?_push_size _ rfl, rfl, rfl⟩ (ht.push _) (by omega) fun h₁ hit₁ hs₁ => ?_))
  have hall : List.take items.size (List.drop 0 items.toList) = items.toList := by
    rw [List.drop_zero]; exact List.take_of_length_le (by simp)
  rw [hall, if_neg (by simp)]
  have ht₁ : IsTup h₁ t items := (ht.push _).extBut hs₁.extBut hlt
  have hot₁ : HotAt A x1 h₁ := ⟨hh, o1, vs1, (hs₁.2 x1 hx1).trans (Heap.get?_push_of_some _ h1), d1, c1⟩
  refine wpAny_bind (wpAny_holding (next_tuple_end_hot hot₁ hx1 hit₁ ht₁ (by simp) fun h₂ he₂ => ?_))
  simp only [Option.isSome_none, Bool.false_eq_true, if_false]
  exact wpAny_pure (hQ h₂ fun b o hb e => he₂ b o hb (hs₁.extBut b o hb (Heap.get?_push_of_some _ e)))
theorem assign_Tuple_hot {env : Env} {elts : List Expr} {k} {pos : Pos} {t x1 : Addr} {items : Array Value} {Q : Unit → Shared → Prop} (hot : HotAt A x1 s.heap) (ht : IsTup s.heap t items)
    (hn : (assignEach elts env).length = items.size) (hstar : (assignEach elts env).findIdx? (·.1) = none)
    (h : ∀ h', Heap.ExtBut s.heap.objs.size s.heap h' → wpAny (model prog w) A (assignInOrder ((assignEach elts env).map (·.2)) items.toList) Q E { s with heap := h' }) :
    wpAny (model prog w) A (assign (.Tuple elts k pos) env (.ref t)) Q E s := by
  rw [assign_Tuple]
  refine wpAny_bind (wpAny_standAt ?_)
  unfold unpack
  rw [hn, hstar]
  exact wpAny_bind (wpAny_holding (unpackItems_hot hot ht h))
end
/-! ## a context in which an exception is handled that is tracked -/
def HotT (X : Cx) : Prop := ∃ (a : Addr) (oe : Obj) (u : HO) (vs : Array Value), X.A.handled = some (.ref a) ∧ X.H_0 a = some (.frz oe u) ∧ oe.data = .fields vs ∧ vs[2]? = some .none
section
variable {X : Cx} {pins : List (Addr × Obj)} {σ : L2.St} {H : Hp} {s : Shared} {pos : Pos}
theorem HotT.at_ (c : HotT X) (I : Inv X pins σ H s) : ∃ x1, HotAt X.A x1 s.heap ∧ ∃ o u, H x1 = some (.frz o u) := by
  obtain ⟨a, oe, u, vs, hh, h0, hd, h2⟩ := c
  have h := I.base.frzs a oe u h0
  exact ⟨a, ⟨hh, oe, vs, (I.hok a _ h).1, hd, h2⟩, oe, u, h⟩
theorem HotT.blk (c : HotT X) (I : Inv X pins σ H s) (s' : Shared) (scope : Scope) (cenv : Env) (fp : List Addr) {H' : Hp} (hs : Same H H') : HotT (X.blk s' H' scope cenv fp) := by
  obtain ⟨a, oe, u, vs, hh, h0, hd, h2⟩ := c
  exact ⟨a, oe, u, vs, hh, hs _ _ (I.base.frzs a oe u h0), hd, h2⟩
theorem pg_tupT {es : List Expr} {k : Nat} {t : TGs} {n : Nat} (hc : HotT X) (h : PGs X es t)
    (hn : (assignEach es X.env).length = n := by rfl) (hst : (assignEach es X.env).findIdx? (·.1) = none := by rfl) : PG X (.Tuple es k pos) (gTup X.K n t) := by
  refine ⟨fun pins s σ H v u Q I r hw => ?_⟩
  obtain ⟨a, xs, e1, hq, hl, hw⟩ := hw
  subst e1
  cases r
  obtain ⟨its, rv, ht, hz⟩ := I.tuple hq
  obtain ⟨x1, hot, _⟩ := hc.at_ I
  refine assign_Tuple_hot hot ht (by simp [hn, ← hl, rv.length]) hst fun h' hx => ?_
  have I1 : Inv X pins σ H { s with heap := h' } := I.kept (t' := s.toks) fun b o e => hx b o (Nat.ne_of_lt (Heap.lt_size e)) e
  exact h.run pins _ σ H xs _ Q I1 (by simpa using rv) hw
end
end G
end

section
set_option Elab.async false
set_option linter.all false
set_option maxRecDepth 100000
set_option maxHeartbeats 2000000
namespace G
open PySem PySem.Spec PyProof.Rows L2 HotX
/-! ## a list comprehension over a list, an exception being handled -/
section
variable {X : Cx} {tg : Expr}
/-- a turn: an item -/
theorem itemT {a it : Addr} {i : Nat} {pins : List (Addr × Obj)} {s : Shared} {σ : L2.St} {H : Hp} {E : Value → Shared → Prop} (I : Inv X pins σ H s) (hf : FpOk X pins H it) (st : s.heap.IsListIter it a i) (hg : (Itl X.K a).go i H) :
    wpAny (model X.prog X.w) X.A (pyNext (.ref it)) (fun r s1 => ∃ u, r = some u ∧
      wpAny (model X.prog X.w) X.A (letOwnedTupleGo tg (.ref it) u) (fun _ s2 => ∃ x, Inv X pins σ H s2 ∧ RelV x u ∧ (Itl X.K a).yld i H x H ∧ s2.heap.IsListIter it a (i + 1)) E s1) E s := by
  obtain ⟨xs, x, hq, hx⟩ := hg
  obtain ⟨its, rv, p, hz⟩ := I.list hq
  obtain ⟨u, hu, ru⟩ := rv.get hx
  obtain ⟨f0, f1, f2, f3, f4, f5⟩ := hf
  refine wpAny_pyNext_list_item st p.isList (x := u) (by simpa using hu) fun h' st' sb => ?_
  have I1 : Inv X pins σ H { s with heap := h' } := I.turned (t' := s.toks) (fun b o hb e => (sb.2 b hb).trans e) f0 f1 f3 f4 f5
  obtain ⟨o, e, c, d⟩ := id st'
  exact ⟨u, rfl, go_of (s := { s with heap := h' }) e c d (by decide) ⟨x, I1, ru, ⟨rfl, fun ys hy => by rw [I.list_inj hy hq]; exact hx⟩, st'⟩⟩
/-- the end -/
theorem doneT {a it : Addr} {i : Nat} {pins : List (Addr × Obj)} {s : Shared} {σ : L2.St} {H : Hp} {E : Value → Shared → Prop} (hc : HotT X) (I : Inv X pins σ H s) (hf : FpOk X pins H it) (st : s.heap.IsListIter it a i) (hg : (Itl X.K a).stop i H) :
    wpAny (model X.prog X.w) X.A (pyNext (.ref it)) (fun r s1 => r = none ∧ Inv X pins σ H s1) E s := by
  obtain ⟨xs, hq, hx⟩ := hg
  obtain ⟨its, rv, p, hz⟩ := I.list hq
  obtain ⟨f0, f1, f2, f3, f4, f5⟩ := hf
  obtain ⟨x1, hot, o1, u1, h1⟩ := hc.at_ I
  have hl := rv.length
  have hne : x1 ≠ it := fun z => by rw [z, f0] at h1; cases h1
  exact next_list_end_hot hot hne st p.isList (by simp; omega) fun h' eb => ⟨rfl, I.turned (t' := s.toks) (fun b o hb e => eb b o hb e) f0 f1 f3 f4 f5⟩
variable {elt iter : Expr} {ifs : List Expr} {scope : Scope} {own : List (Str × Nat)} {pos pos' : Pos} {tl : TE} {g : TG} {tt : TT} {te : TE}
/-- what the block's parts promise -/
structure BlkT (X : Cx) (tg elt : Expr) (ifs : List Expr) (scope : Scope) (g : TG) (tt : TT) (te : TE) : Prop where
  tgt : ∀ (s : Shared) (H : Hp) (C : Addr) (cl : List (Str × Addr)) (fp : List Addr), HotT (X.blk s H scope (compEnvC scope cl C X.env) fp) → PG (X.blk s H scope (compEnvC scope cl C X.env) fp) tg g
  tst : ∀ (s : Shared) (H : Hp) (C : Addr) (cl : List (Str × Addr)) (fp : List Addr), HotT (X.blk s H scope (compEnvC scope cl C X.env) fp) → PTs (X.blk s H scope (compEnvC scope cl C X.env) fp) ifs tt
  elt : ∀ (s : Shared) (H : Hp) (C : Addr) (cl : List (Str × Addr)) (fp : List Addr), HotT (X.blk s H scope (compEnvC scope cl C X.env) fp) → PE (X.blk s H scope (compEnvC scope cl C X.env) fp) elt te
theorem lcT {pins : List (Addr × Obj)} {s : Shared} {σ : L2.St} {H : Hp} {Q : VK} {use : Option (Value → Sem Unit)} {Qf : Value → Shared → Prop}
    (hc : HotT X) (hN : X.N.Nodup) (I : Inv X pins σ H s) (hi : PE X iter tl) (ok : BlkOk X.N X.env.scope scope own) (B : BlkT X tg elt ifs scope g tt te) (hs : ∀ x, foldedSetIterable iter X.env x = pure x)
    (h : tLc (iList X.K tl) g tt te (own.map (·.2)) σ H Q)
    (hRR : ∀ D C s' m H', Inv X pins σ H' s' → Q (.ref D) H' → s'.heap.Ns C m → FpOk X pins H' C → compPost (model X.prog X.w) X.A X.xe use Qf (.ref D) C (.ok .next) s') :
    wpAny (model X.prog X.w) X.A (comprehension (.ListComp elt [⟨tg, iter, ifs, 0⟩] scope pos) scope X.env pos' (newList []) false (eval iter X.env) use) Qf X.xe s := by
  have hfree : ∀ y ∈ scope.names, y.2 = .free → ∃ c, X.env.cells.lookup y.1 = some c := fun y hy e =>
    (ok.free y hy e).elim (fun k => I.ok.has _ (.inl k)) fun k => I.ok.has _ (.inr k)
  refine wpAny_comprehension_free (use := use) rfl hs (closure_ok hfree) ok.kind (fun y hy e => by rw [ok.uniq y hy, e])
    (thn (hi.run pins s σ H _ I h) fun xv s1 hx => ?_)
  obtain ⟨x, H1, I1, r1, a, ea, ⟨xs, hq⟩, q⟩ := hx
  subst ea
  cases r1
  obtain ⟨its, rv, p, hz⟩ := I1.list hq
  refine wpAny_pyIter_list p.isList ?_
  -- the iterator, the new list
  generalize hit : s1.heap.objs.size = it
  generalize hs2 : ({ s1 with heap := s1.heap.push _ } : Shared) = s2
  have I2 : Inv X pins σ H1 s2 := by rw [← hs2]; exact I1.kept (t' := s1.toks) fun b o e => Heap.get?_push_of_some _ e
  have st2 : s2.heap.IsListIter it a 0 := by rw [← hs2, ← hit]; exact ⟨_, Heap.get?_push_size _ rfl, rfl, rfl⟩
  have f2 : FpOk X pins H1 it := by rw [← hit]; exact I1.fpOk (Nat.le_refl _) (I1.hok.fresh (Nat.le_refl _))
  refine wpAny_newObj_type (newEnv_comp ?_) (by show 0 ≤ sizeLine; decide)
  generalize hD : s2.heap.objs.size = Dn
  have hDn : H1 Dn = none := I2.hok.fresh (Nat.le_of_eq hD)
  obtain ⟨W, ⟨m0, w0⟩, turn⟩ := q Dn hDn
  generalize hs3 : ({ s2 with heap := s2.heap.push { cls := .type "list", data := .seq ([] : List Value).toArray } } : Shared) = s3
  have h3 : s3.heap = s2.heap.push { cls := .type "list", data := .seq ([] : List Value).toArray } := by rw [← hs3]
  have I3 : Inv X pins σ (upd H1 Dn (.lst [])) s3 := by
    rw [← hs3]
    refine I2.laid (t' := s2.toks) (fun b o e => Heap.get?_push_of_some _ e) (Nat.le_of_eq hD) ⟨Nat.zero_le _, [], 0, .nil, ?_⟩
    rw [← hD]
    exact Heap.get?_push_size _ rfl
  have lt2 : it < s2.heap.objs.size := by obtain ⟨o, e, _⟩ := st2; exact Heap.lt_size e
  have neD : it ≠ Dn := by rw [← hD]; exact Nat.ne_of_lt lt2
  have f3 : FpOk X pins (upd H1 Dn (.lst [])) it := ⟨by rw [upd_ne neD]; exact f2.1, f2.2⟩
  have f3' : ∀ b ∈ [it], FpOk X pins (upd H1 Dn (.lst [])) b ∧ b < s3.heap.objs.size := fun b hb => by
    have e : b = it := by simpa using hb
    subst e
    exact ⟨f3, by rw [h3, Heap.size_push]; exact Nat.lt_succ_of_lt lt2⟩
  have st3 : s3.heap.IsListIter it a 0 := st2.at fun o e => by rw [h3]; exact Heap.get?_push_of_some _ e
  have I4 := block_start I3 ok hN f3'
  have sm : Same H1 (upd H1 Dn (.lst [])) := same_upd hDn
  have hcB := hc.blk I2 s3 scope (compEnvC scope (cellsFrom (s3.heap.objs.size + 1) scope.names (cloFrom X.env.cells scope.names [])) s3.heap.objs.size X.env) [it] sm
  have pg := B.tgt s3 (upd H1 Dn (.lst [])) s3.heap.objs.size (cellsFrom (s3.heap.objs.size + 1) scope.names (cloFrom X.env.cells scope.names [])) [it] hcB
  have pt := B.tst s3 (upd H1 Dn (.lst [])) s3.heap.objs.size (cellsFrom (s3.heap.objs.size + 1) scope.names (cloFrom X.env.cells scope.names [])) [it] hcB
  have pe := B.elt s3 (upd H1 Dn (.lst [])) s3.heap.objs.size (cellsFrom (s3.heap.objs.size + 1) scope.names (cloFrom X.env.cells scope.names [])) [it] hcB
  show codeAny _ _ (.compStart (.ListComp elt [⟨tg, iter, ifs, 0⟩] scope pos) 0 (.ref it) (.ref Dn) (compEnvC scope (cellsFrom (s3.heap.objs.size + 1) scope.names (cloFrom X.env.cells scope.names [])) s3.heap.objs.size X.env)) (compPost (model X.prog X.w) X.A X.xe use Qf (.ref Dn) s3.heap.objs.size) { s3 with heap := pushCells (s3.heap.push { cls := .type "dict", data := .dict #[] }) scope.names }
  generalize hce : compEnvC scope (cellsFrom (s3.heap.objs.size + 1) scope.names (cloFrom X.env.cells scope.names [])) s3.heap.objs.size X.env = ce at I4 pg pt pe hcB ⊢
  have cL : ce.locals = s3.heap.objs.size := by subst hce; rfl
  have n3 : (upd H1 Dn (.lst [])) it = none := f3.1
  generalize hH3 : upd H1 Dn (.lst []) = H3 at I3 I4 pg pt pe hcB w0 n3 f3 f3'
  generalize hs4 : ({ s3 with heap := pushCells (s3.heap.push { cls := .type "dict", data := .dict #[] }) scope.names } : Shared) = s4 at I4 ⊢
  have st4 : s4.heap.IsListIter it a 0 := st3.at fun o e => by rw [← hs4]; exact pushCells_keeps _ _ _ _ (Heap.get?_push_of_some _ e)
  generalize hY : X.blk s3 H3 scope ce [it] = Y at I4 pg pt pe hcB
  have stat : ∀ {σ' : L2.St} {H' : Hp} {s' : Shared}, Inv Y [] σ' H' s' → H' it = none → FpOk Y [] H' it := fun {σ' H' s'} I' hn => by
    subst hY
    exact ⟨hn, (I'.ok.exf it (by simp)).1, I'.ok.exfs it (by simp), .inl (by simp), fun x c e => (I'.ok.exf it (by simp)).2 x c e, fun p hp => absurd (show p ∈ ([] : List (Addr × Obj)) ++ [] from hp) (by simp)⟩
  have stat' : ∀ {σ' : L2.St} {H' : Hp} {s' : Shared}, Inv Y [] σ' H' s' → H' it = none → ∀ b ∈ [it], FpOk Y [] H' b := fun {σ' H' s'} I' hn b hb => by
    have e : b = it := by simpa using hb
    subst e
    exact stat I' hn
  have yP : Y.prog = X.prog := by rw [← hY]
  have yw : Y.w = X.w := by rw [← hY]
  have yA : Y.A = X.A := by rw [← hY]
  have yK : Y.K = X.K := by rw [← hY]
  have loop : codeAny (model X.prog X.w) X.A (.compLoop (.ListComp elt [⟨tg, iter, ifs, 0⟩] scope pos) 0 (.ref it) (.ref Dn) ce) (compPost (model X.prog X.w) X.A X.xe use Qf (.ref Dn) s3.heap.objs.size) s4 := by
    refine compLoop_any (fun n s' => ∃ i H', Inv Y [] (wipe σ (own.map (·.2))) H' s' ∧ s'.heap.IsListIter it a i ∧ H' it = none ∧ W i n H') ?_ m0 ⟨0, H3, I4, st4, n3, w0⟩
    rintro n s5 ⟨i, H5, I5, st5, n5, w5⟩
    rcases turn i n H5 w5 with ⟨stop, qq⟩ | ⟨go, Nx, hNx, step⟩
    · have td := doneT (X := Y) (a := a) (E := fun _ _ => False) hcB I5 (stat I5 n5) st5 (by rw [yK]; exact stop)
      rw [yP, yw, yA] at td
      refine thnF td fun r s6 ⟨hr, I6⟩ => ?_
      subst hr
      subst hY
      have I7 : Inv X pins σ H5 s6 := I3.call' (ch := [it]) I6.os I6.base I6.hok I6.bare fun b hb => by
        have e : b = it := by simpa using hb
        subst e
        exact ⟨f3.2.2.2.1, f3.2.1, f3.2.2.2.2.1, f3.2.2.2.2.2⟩
      have nC : H5 s3.heap.objs.size = none := by
        have z : H5 ce.locals = none := I6.free
        rw [cL] at z
        exact z
      obtain ⟨m, hn, _⟩ := I6.loc
      have hn : s6.heap.Ns ce.locals m := hn
      rw [cL] at hn
      exact hRR Dn s3.heap.objs.size s6 m H5 I7 qq hn (I3.fpOk (Nat.le_refl _) nC)
    · have ti := itemT (X := Y) (tg := tg) (a := a) (E := fun _ _ => False) I5 (stat I5 n5) st5 (by rw [yK]; exact go)
      rw [yP, yw, yA, yK] at ti
      refine thnF ti fun r s6 ⟨u, hr, h6⟩ => ?_
      subst hr
      refine thnF h6 fun _ s7 ⟨x, I7, r7, y7, st7⟩ => ?_
      obtain ⟨oi, ei, ci, di⟩ := id st7
      have oi' : ∀ b ∈ [it], ∃ o, s7.heap.get? b = some o ∧ ∀ v, o.data ≠ .cell v := fun b hb => by
        have e : b = it := by simpa using hb
        subst e
        exact ⟨oi, ei, fun v z => by rw [di] at z; cases z⟩
      have I7' := I7.pinned (stat' I7 n5) oi'
      have fin : ∀ {σ8 : L2.St} {s' : Shared} {H' : Hp}, wipe σ8 (own.map (·.2)) = wipe σ (own.map (·.2)) → Inv Y ([] ++ pinsAt [it] s7.heap) σ8 H' s' → Nx H' → ∃ m, m < n ∧ ∃ i H', Inv Y [] (wipe σ (own.map (·.2))) H' s' ∧ s'.heap.IsListIter it a i ∧ H' it = none ∧ W i m H' := fun {σ8 s' H'} hw8 I' nx => by
        obtain ⟨m', hm, w'⟩ := hNx H' nx
        have z := I'.pin (it, oi) (List.mem_append_right _ (List.mem_append_right _ (mem_pinsAt (by simp) ei)))
        have hl : (wipe σ (own.map (·.2))).length = σ8.length := by rw [← hw8, wipe_length]
        refine ⟨m', hm, i + 1, H', (I'.unpinned (pins := [])).weak hl (fun j v e => ?_), ⟨oi, z.1, ci, di⟩, z.2.1, w'⟩
        rw [← hw8] at e
        exact (wipe_some e).1
      subst hY
      refine thnF (pg.run _ s7 _ H5 x u _ I7' r7 (step x H5 y7)) fun _ s8 ⟨σ8, H8, I8, hw8, q8⟩ => ?_
      refine thnF (pt.run _ s8 σ8 H8 _ I8 q8) fun b s9 ⟨H9, I9, q9⟩ => ?_
      cases b with
      | false =>
        simp only [Bool.false_eq_true, if_false] at q9 ⊢
        exact fin hw8 I9 q9
      | true =>
        simp only [if_true] at q9 ⊢
        refine thnF (pe.run _ s9 σ8 H9 _ I9 q9) fun z s10 ⟨yv, H10, I10, r10, acc, hD10, hz10, nx⟩ => ?_
        exact app_ok (X := X.blk s3 H3 scope ce [it]) I10 hD10 hz10 r10 fun s11 I11 => fin hw8 I11 nx
  exact codeAny_compStart_list loop (wpAny_pyIter_listiter st4 loop)
end
end G
end

section
set_option Elab.async false
set_option linter.all false
set_option maxRecDepth 100000
set_option maxHeartbeats 2000000
namespace G
open PySem PySem.Spec PyProof.Rows L2 HotX
/-! ## comprehensions over a list, calm and hot -/
def iSeqL (f : Ev → M D) : Ev → M (List D) := fun env => do
  let d ← f env
  itemsL d
section
variable {X : Cx} {W : XW} {e : Expr} {fa : Ev → M D} {pos : Pos}
theorem seqL_rd {σ : L2.St} {H : Hp} {R : It → Hp → Prop} (h : rdI X.K W (iSeqL fa) σ H R) : iList X.K (rdE X.K W fa) σ H R := by
  obtain ⟨w, env, hk, rfl, r, n, h⟩ := h
  refine ⟨w, env, hk, rfl, r, n, (Wp.bind h).imp fun d w1 a1 h1 v rv => ?_⟩
  obtain ⟨l, rfl, h2⟩ := itemsL_wp a1.rs h1
  have rv0 := rv
  simp only [Rep] at rv
  obtain ⟨a, xs, rfl, s, _⟩ := rv
  exact ⟨a, rfl, ⟨xs, SqL.of s.1.1⟩, by rw [← hk, ← a1.k]; exact h2 _ (walks_list rv0)⟩
theorem di_seqL {tg : Expr} (h : DE X W e fa) : DI X W tg e (iSeqL fa) := PI.imp' (pi_list h) fun σ H R h => seqL_rd h
def BlkH (X : Cx) (scope : Scope) (P : Cx → Prop) : Prop := ∀ (s : Shared) (H : Hp) (C : Addr) (cl : List (Str × Addr)) (fp : List Addr), HotT (X.blk s H scope (compEnvC scope cl C X.env) fp) → P (X.blk s H scope (compEnvC scope cl C X.env) fp)
theorem ds_setCompIfT (i : Nat) {y : Str} {py spos : Pos} {elt tgt iter cond : Expr} {scope : Scope} {own : List (Str × Nat)} {t : TG} {tg : D → Ev → Option Ev} {is : List Nat} {tt : Ev → M Bool} {fe : Ev → M D} (hc : HotT X) (hN : X.N.Nodup) (hy : X.N[i]? = some y) (hyl : X.env.scope.names.lookup y = some .local)
    (hsw : swapsWith (.ListComp elt [⟨tgt, iter, [cond], 0⟩] scope pos) (some (.Name y py)) spos.line X.env = pure true) (hi : DE X W iter fa) (ok : BlkOk X.N X.env.scope scope own)
    (hg : BlkH X scope fun X' => PG X' tgt t) (ht : TgOk X.K t tg is) (hv : ∀ i ∈ is, i ∈ own.map (·.2)) (hif : BlkH X scope fun X' => DT X' W0 cond tt) (he : BlkH X scope fun X' => DE X' W0 elt fe) (hs : ∀ x, foldedSetIterable iter X.env x = pure x := by intro _; rfl) :
    DS X W (.Assign [.Name y py] (.ListComp elt [⟨tgt, iter, [cond], 0⟩] scope pos) spos) (sAsg i (eComp (own.map (·.2)) (iSeqL fa) tg tt fe)) := by
  have B : BlkT X tgt elt [cond] scope t (rdT X.K W0 tt) (rdE X.K W0 fe) := ⟨hg, fun s H C cl fp z => pts_one (hif s H C cl fp z), he⟩
  refine ⟨fun pins s σ H D' I h => ?_⟩
  have h1 : tLc (rdI X.K W (iSeqL fa)) t (rdT X.K W0 tt) (rdE X.K W0 fe) (own.map (·.2)) σ H (fun x H1 => gName i x σ H1 D'.nx) := comp_rd ht hv (asg_rd h)
  have h2 : tLc (iList X.K (rdE X.K W fa)) t (rdT X.K W0 tt) (rdE X.K W0 fe) (own.map (·.2)) σ H (fun x H1 => gName i x σ H1 D'.nx) := seqL_rd h1
  rw [exec_Assign_Name_used _ _ _ _ hsw]
  refine wpAny_bind (wpAny_standAt (wpAny_bind ?_))
  show wpAny _ X.A (do let _ ← comprehension (.ListComp elt [⟨tgt, iter, [cond], 0⟩] scope pos) scope X.env (firstIterPos [⟨tgt, iter, [cond], 0⟩] pos) (newList []) false (eval iter X.env) (some (assign (.Name y py) X.env))) _ _ s
  refine wpAny_bind (thn (lcT (Qf := fun _ s' => SP X pins D' .next s') hc hN I hi ok B hs h2 fun L C s' m H' I' q hn f => ?_) fun _ s' hq => wpAny_pure (wpAny_pure hq))
  show wpAny _ _ (assign (.Name y py) X.env (.ref L)) _ _ _
  refine wpAny_assign_Name (store_ok2 (v := V.ref L) I' hN hy (.inl hyl) rfl (fun s2 I2 ⟨a, sb, ha⟩ => ?_) (.inr hyl))
  obtain ⟨f0, f1, f2, f3, f4, f5⟩ := f
  have haC : C ≠ a := by
    rcases ha with z | z
    · rw [z]; exact f1
    · exact fun e => f4 y a z e.symm
  refine ⟨m, hn.sameBut sb haC, fun h3 sb3 => ?_⟩
  exact ⟨_, H', I2.turned (t' := s2.toks) (fun b o hb e => (sb3.2 b hb).trans e) f0 f1 f3 f4 f5, q⟩
end
/-! ## exceptions as values: their classes -/
structure XCls (K : PySem.W.Frag) (mg : Str → Option Value) (x : Str) : Prop where
  mg_ : mg x = some (.ref (He.ga K x))
  kp : PySem.W.keepIn K (.ref (He.ga K x)) = true
  ex : PySem.W.excIn K (He.ga K x) HandSPX.veTail "ValueError.__new__" = true
  sub : PySem.W.subIn K (.ref (He.ga K x)) (.type "BaseException") = some true
  ty : PySem.W.typeIn K (.ref (He.ga K x)) = some (.type "type")
  c : ExcC K (He.ga K x)
def clsB (K : PySem.W.Frag) (x : Str) : Bool :=
  PySem.W.keepIn K (.ref (He.ga K x)) && (PySem.W.excIn K (He.ga K x) HandSPX.veTail "ValueError.__new__" && ((PySem.W.subIn K (.ref (He.ga K x)) (.type "BaseException") == some true) && ((PySem.W.typeIn K (.ref (He.ga K x)) == some (.type "type")) &&
  ((PySem.W.findIn K (.ref (He.ga K x)) "__getattribute__" == some (some (.builtin "BaseException.__getattribute__"))) && ((PySem.W.findIn K (.ref (He.ga K x)) "__getattr__" == some none) && (PySem.W.hasDictIn K (He.ga K x) && ((PySem.W.findIn K (.ref (He.ga K x)) "__class__" == some (some (.builtin "object.__class__"))) &&
  ((PySem.W.specialIn K (.builtin "object.__class__") "__get__" == some (some (.builtin "getset_descriptor.__get__"))) && ((PySem.W.takesIn K (.builtin "object.__class__") == some true) && (PySem.W.mroIn K (He.ga K x) (.type "object") == some true))))))))))
theorem clsB_ok {K : PySem.W.Frag} {mg : Str → Option Value} {x : Str} (h : mg x = some (.ref (He.ga K x))) (c : clsB K x = true) : XCls K mg x := by
  unfold clsB at c
  simp only [Bool.and_eq_true, beq_iff_eq] at c
  obtain ⟨c1, c2, c3, c4, c5, c6, c7, c8, c9, c10, c11⟩ := c
  exact ⟨h, c1, c2, c3, c4, ⟨c5, c6, c3, c7, c8, c9, c10, c11⟩⟩
end G
end

section
set_option Elab.async false
set_option linter.all false
set_option maxRecDepth 100000
set_option maxHeartbeats 2000000
namespace G
open PySem PySem.Spec PyProof.Rows L2 HotX
/-! ## isinstance of an exception -/
def rIsX (K : PySem.W.Frag) : List V → Hp → VK → Prop := fun xs H Q => ∃ (a : Addr) (o : HO) (c : V) (n : Str) (u : Value) (b : Bool), xs = [.ref a, c] ∧ H a = some o ∧ ExIs K n a o ∧ ExcC K (He.ga K n) ∧ ClsV c u ∧ PySem.W.kitOne K (.ref (He.ga K n)) u = some b ∧ Q (.bl b) H
theorem cr_isX {X : Cx} : CallR X (.builtin "isinstance") (rIsX X.K) := by
  intro pins s σ H xs us Q I r h
  obtain ⟨a, o, c, n, u, b, rfl, ha, hx, C, k, e, q⟩ := h
  obtain ⟨u1, u2, rfl, r1, r2⟩ := vals2 r
  have e2 := k.eq r2
  subst e2
  cases (show u1 = Value.ref a from r1)
  obtain ⟨oe, vs, hget, hz, hv⟩ := hx _ _ _ _ (I.hok a o ha)
  have J : PySem.W.InstAt s.heap a oe (He.ga X.K n) none := by
    obtain ⟨oc, od, oda, osl⟩ := oe
    obtain ⟨h1, h2⟩ := hz
    dsimp only at h1 h2 hv
    subst h1 h2 hv
    exact ⟨hget, rfl, rfl, trivial⟩
  exact PySem.W.kia_one (PySem.W.handS_kitx_exc C.hg C.hk C.hs C.hd C.ha C.hn C.ht C.hm) I.kIn J e (fun z => nomatch z) fun tk => ⟨.bl b, H, I.tok tk, rfl, q⟩
/-- of which class: by names -/
def dIsX (sub : Str → Option Bool) : D → Store → Option D := fun d _ => match d with
  | .exc c => (sub c).map .bl
  | _ => none
/-- what the classes say of a class whose value is u -/
def SubOk (K : PySem.W.Frag) (sub : Str → Option Bool) (u : Value) : Prop := ∀ c b, sub c = some b → ExcC K (He.ga K c) ∧ PySem.W.kitOne K (.ref (He.ga K c)) u = some b
section
variable {X : Cx} {W : XW} {e a b c : Expr} {pos p p' : Pos} {fa : Ev → M D} {x : Str}
theorem isx_rd {sub : Str → Option Bool} {cv : V} {u : Value} (hk0 : ClsV cv u) (hs : SubOk X.K sub u) {σ : L2.St} {H : Hp} {Q : VK} (h : rdE X.K W (eUn (dIsX sub) fa) σ H Q) : rdE X.K W fa σ H fun v H1 => rIsX X.K [v, cv] H1 Q := by
  obtain ⟨w, env, hk, rfl, r, n, h⟩ := h
  refine ⟨w, env, hk, rfl, r, n, (Wp.bind h).imp fun d w1 a1 h1 v rv => ?_⟩
  have q := Wq.of h1
  obtain ⟨d', e⟩ := wq_some q
  have e0 := e
  unfold dIsX at e
  split at e
  · rename_i c
    cases es : sub c with
    | none => rw [es] at e; cases e
    | some b =>
      obtain ⟨z1, z2⟩ := hs c b es
      simp only [Rep] at rv
      obtain ⟨a, o, rfl, f, x⟩ := rv
      have hk1 : w1.K = X.K := a1.k.trans hk
      refine ⟨a, o, cv, c, u, b, rfl, f.1.1, by rw [← hk1]; exact x, z1, hk0, z2, q.here a1.rs (by simp only [dIsX, es, Option.map_some]) (rep_bl _)⟩
  · cases e
/-- isinstance(e, C), C a class of the text -/
theorem de_isxO {sub : Str → Option Bool} (hs : SubOk X.K sub (.ref (He.ga X.K x))) (ha : DE X W a fa) (hg : Gl X "isinstance") (hm : X.mg "isinstance" = none) (hg2 : Gl X x) (hm2 : X.mg x = some (.ref (He.ga X.K x))) (hdb : (x == ("__debug__" : Str)) = false := by decide)
    (he : starEach [a, .Name x p'] X.env = (false, eval a X.env) :: starEach [.Name x p'] X.env := by rfl) (he2 : starEach [.Name x p'] X.env = (false, eval (.Name x p') X.env) :: starEach [] X.env := by rfl) (hpl : (backTo pos (starEach [.Name x p'] X.env)).any (·.1) = false := by rfl) :
    DE X W (.Call (.Name "isinstance" p) [a, .Name x p'] [] pos) (eUn (dIsX sub) fa) :=
  PE.imp' (pe_callB cr_isX hg hm (by decide +kernel) (pa_cons ha (pa_cons (pe_glob (v := .ref (He.ga X.K x)) hg2 hm2 rfl hdb) pa_nil he2) he) (by decide) (by decide) he hpl) fun σ H Q h => isx_rd (.own _) hs h
/-- isinstance(e, T), T a built-in class -/
theorem de_isxB {sub : Str → Option Bool} {T : String} (hs : SubOk X.K sub (.type T)) (ha : DE X W a fa) (hg : Gl X "isinstance") (hm : X.mg "isinstance" = none) (hg2 : Gl X x) (hm2 : X.mg x = none) (hv : bootBuiltins x = some (.type T)) (hn : x ≠ "__name__" := by decide) (hdb : (x == ("__debug__" : Str)) = false := by decide)
    (he : starEach [a, .Name x p'] X.env = (false, eval a X.env) :: starEach [.Name x p'] X.env := by rfl) (he2 : starEach [.Name x p'] X.env = (false, eval (.Name x p') X.env) :: starEach [] X.env := by rfl) (hpl : (backTo pos (starEach [.Name x p'] X.env)).any (·.1) = false := by rfl) :
    DE X W (.Call (.Name "isinstance" p) [a, .Name x p'] [] pos) (eUn (dIsX sub) fa) :=
  PE.imp' (pe_callB cr_isX hg hm (by decide +kernel) (pa_cons ha (pa_cons (pe_bltn (v := .ty T) hg2 hm2 hv rfl hn hdb) pa_nil he2) he) (by decide) (by decide) he hpl) fun σ H Q h => isx_rd (.ty T) hs h
/-! ## isinstance of data, the class one of the text: never -/
def dIsNo : D → Store → Option D := fun d st => (tyName st d).map fun _ => .bl false
def tyB (K : PySem.W.Frag) (x : Str) : Bool := ["NoneType", "bool", "int", "str", "tuple", "list", "dict"].all fun n => PySem.W.kitOne K (.type n) (.ref (He.ga K x)) == some false
theorem de_isNo (hs : tyB X.K x = true) (ha : DE X W a fa) (hg : Gl X "isinstance") (hm : X.mg "isinstance" = none) (hg2 : Gl X x) (hm2 : X.mg x = some (.ref (He.ga X.K x))) (hdb : (x == ("__debug__" : Str)) = false := by decide)
    (he : starEach [a, .Name x p'] X.env = (false, eval a X.env) :: starEach [.Name x p'] X.env := by rfl) (he2 : starEach [.Name x p'] X.env = (false, eval (.Name x p') X.env) :: starEach [] X.env := by rfl) (hpl : (backTo pos (starEach [.Name x p'] X.env)).any (·.1) = false := by rfl) :
    DE X W (.Call (.Name "isinstance" p) [a, .Name x p'] [] pos) (eUn dIsNo fa) := by
  refine PE.imp' (pe_callB call_isi hg hm (by decide +kernel) (pa_cons ha (pa_cons (pe_glob (v := .ref (He.ga X.K x)) hg2 hm2 rfl hdb) pa_nil he2) he) (by decide) (by decide) he hpl) fun σ H Q h => ?_
  obtain ⟨w, env, hk, rfl, r, n, h⟩ := h
  refine ⟨w, env, hk, rfl, r, n, (Wp.bind h).imp fun d w1 a1 h1 v rv => ?_⟩
  have q := Wq.of h1
  obtain ⟨d', e⟩ := wq_some q
  cases et : tyName w1.st d with
  | none => unfold dIsNo at e; rw [et] at e; cases e
  | some t =>
    have z := List.all_eq_true.mp hs t (tyName_mem et)
    refine ⟨v, .ref (He.ga X.K x), .type t, .ref (He.ga X.K x), false, rfl, .own _, by rw [← hk, ← a1.k]; exact tyx_of a1.rs rv et, eq_of_beq z, ?_⟩
    exact q.here a1.rs (by unfold dIsNo; rw [et]; rfl) (rep_bl _)
/-! ## a class called: an exception as a value -/
def eExc (c : Str) : Ev → M D := fun _ => pure (.exc c)
theorem exIs_new {K : PySem.W.Frag} {c : Str} {a : Addr} : ExIs K c a (ExO (.ref (He.ga K c)) a) := fun P w H h ⟨⟨oe, vs, e, z, d, _⟩, _⟩ => ⟨oe, vs, e, z, d⟩
theorem pe_exc0 {C : Addr} (q : PySem.W.excIn X.K C HandSPX.veTail "ValueError.__new__" = true) (gC : X.mg x = some (.ref C)) (kC : PySem.W.keepIn X.K (.ref C) = true) (hg : Gl X x) (hdb : (x == ("__debug__" : Str)) = false := by decide) :
    PE X (.Call (.Name x p) [] [] pos) (fun σ H Q => ∀ a, H a = none → Q (.ref a) (upd H a (ExO (.ref C) a))) := by
  refine ⟨fun pins s σ H Q I h => ?_⟩
  refine wpAny_Call_Name_kw (ld_glob I hg gC ?_ hdb)
  refine PySem.W.callWith_K0 I.kIn kC ?_
  show wpAny _ _ (call (.ref C) []) _ _ _
  obtain ⟨bm, N, nm, qn, bs, hdct, sn, sub, ab, col, dd, k0, k1, k2, k3, k5, mN, hC, hN, hni, T⟩ := exc_obj I.kIn q
  refine wpAny_call_exc_subT PySem.F.excBase_ValueError T hC hN hni (fun h' a hm => ?_) (by show 0 ≤ sizeLine; exact Nat.zero_le _)
  have hn : H a = none := I.hok.gone hm.new
  obtain ⟨t, ht, _, _⟩ := hm.there
  exact ⟨.ref a, upd H a (ExO (.ref C) a), I.laidN hm.keeps hm.new hn (exO_ok ht ⟨rfl, rfl⟩ rfl rfl rfl (show 4 < 6 by decide)), rfl, h a hn⟩
theorem de_exc0 (k : XCls X.K X.mg x) (hg : Gl X x) (hdb : (x == ("__debug__" : Str)) = false := by decide) : DE X W (.Call (.Name x p) [] [] pos) (eExc x) := PE.imp' (pe_exc0 k.ex k.mg_ k.kp hg hdb) fun σ H Q h => by
  obtain ⟨w, env, hk, rfl, r, n, h⟩ := h
  intro a ha
  have a1 := aft_new (K := w.K) (m := w.m) (st := w.st) (H := w.H) (rv := w.rv) (o := ExO (.ref (He.ga X.K x)) a) r ha
  refine h _ a1 rfl (.ref a) ?_
  simp only [Rep]
  exact ⟨a, _, rfl, fr_new r ha, by rw [hk]; exact exIs_new⟩
/-! ## raise -/
theorem pmk_arg {C : Addr} {ta : TE} (q : PySem.W.excIn X.K C HandSPX.veTail "ValueError.__new__" = true) (gC : X.mg x = some (.ref C)) (kC : PySem.W.keepIn X.K (.ref C) = true) (r : Raises X (.ref C)) (hg : Gl X x) (he : PE X e ta)
    (hdb : (x == ("__debug__" : Str)) = false := by decide) (hs : starEach [e] X.env = (false, eval e X.env) :: starEach [] X.env := by rfl) (hpl : (backTo pos (starEach [] X.env)).any (·.1) = false := by rfl) : L2N.PMk X (.Call (.Name x p) [e] [] pos) (fun σ H Q => ta σ H fun _ H1 => Q (.ref C) none H1) := by
  intro pins s σ H Q I h
  refine wpAny_Call_Name_kw (ld_glob I hg gC ?_ hdb)
  refine PySem.W.callWith_K (h₀ := X.base) I.ok.mod.kin kC ?_ hs hpl
  rw [hs]
  show wpAny _ _ (spliced ((false, eval e X.env) :: backTo pos (starEach [] X.env))) _ _ s
  refine Calls.spliced_cons (thn (he.run pins s σ H _ I h) fun u s1 ⟨v, H1, I1, r1, q1⟩ => ?_)
  refine Calls.spliced_nil ⟨I1.kIn, ?_⟩
  show wpAny _ _ (call (.ref C) [u]) _ _ _
  obtain ⟨bm, N, nm, qn, bs, hdct, sn, sub, ab, col, dd, k0, k1, k2, k3, k5, mN, hC, hN, hni, T⟩ := exc_obj I1.kIn q
  refine wpAny_call_exc_subT PySem.F.excBase_ValueError T hC hN hni (fun h' e hm => ?_) (by show 1 ≤ sizeLine; rw [sizeLine_eq]; omega)
  exact L2N.mk_of I1 hm r q1 (I1.hok.gone hm.new)
def sRaise (c : Str) (f : Ev → M D) : Ev → M Fl := fun env => stx (f env) env fun _ => pure (.exc c env)
/-- raise C(e) -/
theorem ds_raise {Wx : WX} (hc : X.calm = true) (k : XCls X.K X.mg x) (tk : L2N.Takes X Wx) (hW : W = wX X.K Wx) (hg : Gl X x) (he : DE X W e fa)
    (hdb : (x == ("__debug__" : Str)) = false := by decide) (hs : starEach [e] X.env = (false, eval e X.env) :: starEach [] X.env := by rfl) (hpl : (backTo pos (starEach [] X.env)).any (·.1) = false := by rfl) :
    DS X W (.Raise (some (.Call (.Name x p) [e] [] pos)) none p') (sRaise x fa) :=
  PS.imp' (L2N.ps_raise hc tk (pmk_arg k.ex k.mg_ k.kp (raises_own k.sub k.ty) hg he hdb hs hpl)) fun D' σ H h => by
    obtain ⟨w, env, hk, rfl, r, n, h⟩ := h
    refine ⟨w, env, hk, rfl, r, n, (stx_wp n h).imp fun d w1 a1 h1 v rv => ?_⟩
    have z := Wp.ok_ (P := SFl W D') (W := nov) (a := Fl.exc x env) a1.rs h1
    have z := z σ (n.after a1)
    rw [hW] at z
    exact z
end
end G
end

section
set_option Elab.async false
set_option linter.all false
set_option maxRecDepth 100000
set_option maxHeartbeats 2000000
namespace G
open PySem PySem.Spec PyProof.Rows L2 HotX
/-! ## a def called within an except suite, of the exception that is handled -/
section
variable {P : Program} {w : World} {K : PySem.W.Frag} {mg : Str → Option Value} {base : Heap}
def cxT (P : Program) (w : World) (K : PySem.W.Frag) (mg : Str → Option Value) (base : Heap) (N : List Str) (qual : Str) (scope : Scope) (f : Addr) (cd : Value) (A : Around) (outer : List Env) (s : Shared) (H : Hp) (E : XK) : Cx :=
  { cxOf (L2N.CX P w) P w K mg base N qual scope f cd A outer s H E with calm := false, xe := fun _ _ => False }
theorem inv_startT {N ps : List Str} {qual : Str} {scope : Scope} {f : Addr} {cd : Value} {A : Around} {outer : List Env} {s s1 : Shared} {H : Hp} {E : XK} {us : List Value} {vs : List V}
    (S : FnScope N ps scope) (e0 : Env0 P w K mg base A outer s H) (hl : vs.length = ps.length) (r : Vals vs us)
    (x : InCallC s s.heap.objs.size (bindL (envOfC qual scope s.heap.objs.size f cd).kindOf (ps.zip us) fun _ => none) (cellsFrom (s.heap.objs.size + 1) scope.names []) (bindC (envOfC qual scope s.heap.objs.size f cd).kindOf (ps.zip us) fun _ => none) s1) :
    Inv (cxT P w K mg base N qual scope f cd A outer s H E) [] (L2.start N vs) H s1 := by
  have e1 : Env0 P w K mg base ({ A with handled := none } : Around) outer s H := ⟨e0.frames, e0.mod, e0.bs, e0.bsz, e0.funs, e0.frf, e0.hok, e0.bare⟩
  have I := inv_start (CX := L2N.CX P w) (E := E) S rfl e1 hl r x
  exact ⟨⟨I.ok.mod, I.ok.kind, I.ok.glob, I.ok.blt, I.ok.above, I.ok.inj, I.ok.has, I.ok.cab, fun z => Bool.noConfusion (show false = true from z), Around.frames_deeper e0.frames, I.ok.stk, I.ok.exf, I.ok.bs, I.ok.bsz, I.ok.noex, I.ok.exfs, I.ok.funs, I.ok.frf⟩, I.os, I.bare, I.base, I.loc, I.cell, I.free, I.freeC, I.pin, I.hok, I.len⟩
/-- the promise: of an exception of the class c it tells the text that F tells -/
structure FnW (P : Program) (w : World) (K : PySem.W.Frag) (mg : Str → Option Value) (base : Heap) (k : Nat) (f : Addr) (fd : FuncData) (x : Str) (F : List D → M D) : Prop where
  run : ∀ (A : Around) (outer : List Env) (s : Shared) (H : Hp) (args : Args) (a : Addr) (oe : Obj) (vs : Array Value) (c r : Str) (st' : Store) (Q : VK) (E : XK), A.guards = some [] → L2H.RoomH k A → A.handled = some (.ref a) → L2N.Zn (.ref (He.ga K c)) none oe → oe.data = .fields vs → L2H.PinOk outer H s (a, oe) →
    Env0 P w K mg base A outer s H → BindsTo s fd args [(x, .ref a)] → F [.exc c] [] = .ok (.str r) st' → (∀ H', Same H H' → Q (.str r) H') → codeAny (model P w) A (.call (.ref f) args) (CR (L2N.CX P w) outer P w H s Q E) s
/-- no object of the written part is an instance -/
def noIns (K : PySem.W.Frag) : Bool := K.all fun p => match p.2.cls with
  | .ref _ => false
  | _ => true
theorem look_mem : ∀ {K : List (Addr × Obj)} {a : Addr} {o : Obj}, K.lookup a = some o → (a, o) ∈ K
  | [], a, o, h => by simp at h
  | (b, u) :: K, a, o, h => by
    by_cases q : a = b
    · subst q
      simp at h
      simp [h]
    · have : (a == b) = false := by simpa using q
      simp only [List.lookup, this] at h
      exact List.mem_cons_of_mem _ (look_mem h)
theorem noIns_ok (h : noIns K = true) {a : Addr} {o : Obj} {c : Addr} (e : K.lookup a = some o) (hc : o.cls = .ref c) : False := by
  have m : (a, o) ∈ K := look_mem e
  have z := List.all_eq_true.mp h _ m
  simp only [hc] at z
  cases z
/-- the abstract heap with the handled exception -/
abbrev hpX (H : Hp) (a : Addr) (oe : Obj) : Hp := upd H a (.frz oe (.ext fun h => h.get? a = some oe))
theorem hpX_ne {H : Hp} {a b : Addr} {oe : Obj} (h : b ≠ a) : hpX H a oe b = H b := upd_ne h
theorem env_hot {A : Around} {outer : List Env} {s : Shared} {H : Hp} {a : Addr} {oe : Obj} {vs : Array Value} {c : Addr} (hK : noIns K = true) (hc : oe.cls = .ref c) (hd : oe.data = .fields vs) (pin : L2H.PinOk outer H s (a, oe)) (e0 : Env0 P w K mg base A outer s H) :
    ∃ base', Env0 P w K mg base' A outer s (hpX H a oe) := by
  let Ha : Hp := fun b => if b = a then some (.frz oe (.ext fun h => h.get? a = some oe)) else none
  have hget : s.heap.get? a = some oe := pin.get
  have han : ∀ {b : Addr}, b ≠ a → Ha b = none := fun hb => if_neg hb
  have hid : ∀ {b : Addr} {o : Obj}, base.get? b = some o → b ≠ a → (hidT base Ha).get? b = some o := fun z n => hidT_get z (han n)
  have of_ : ∀ {b : Addr} {o : Obj}, (hidT base Ha).get? b = some o → base.get? b = some o ∧ b ≠ a := fun {b o} z => by
    obtain ⟨z1, z2⟩ := of_hidT z
    refine ⟨z1, fun q => ?_⟩
    have : Ha b = some (.frz oe (.ext fun h => h.get? a = some oe)) := if_pos q
    rw [this] at z2
    cases z2
  have nsH : ∀ {b : Addr} {m : Str → Option Value}, base.Ns b m → (hidT base Ha).Ns b m := by
    rintro b m ⟨o, es, ep, z, d, r⟩
    refine ⟨o, es, ep, hid z fun q => ?_, d, r⟩
    have z2 := (e0.bs b o z).1
    rw [q, hget] at z2
    cases z2
    rw [hd] at d
    cases d
  have kin : K.In (hidT base Ha) := fun b o z => hid (e0.mod.kin b o z) fun q => by
    have z2 := (e0.bs b o (e0.mod.kin b o z)).1
    rw [q, hget] at z2
    cases z2
    exact noIns_ok hK z hc
  obtain ⟨mb, hb, hbb⟩ := e0.mod.blt
  obtain ⟨mc, l1, l2⟩ := e0.mod.nolimit
  refine ⟨hidT base Ha, e0.frames, ⟨kin, nsH e0.mod.glob, ⟨mb, nsH hb, hbb⟩, ⟨mc, nsH l1, l2⟩⟩, fun b o z => ?_, by rw [hidT_size]; exact e0.bsz, ?_, fun b hb => ?_, ?_, e0.bare⟩
  · obtain ⟨z1, z2⟩ := of_ z
    obtain ⟨q1, q2⟩ := e0.bs b o z1
    exact ⟨q1, by rw [hpX_ne z2]; exact q2⟩
  · refine funFrames_none e0.funs fun L hL => ?_
    have q := (e0.funs.mem hL).1
    cases z : (hidT base Ha).get? L with
    | none => rfl
    | some o => rw [(of_ z).1] at q; cases q
  · have hne : b ≠ a := fun q => pin.nofs (by rw [← q]; exact hb)
    rw [hpX_ne hne]
    exact e0.frf b hb
  · exact e0.hok.laidN (fun _ _ z => z) pin.free ⟨hget, hget, ⟨oe, hget⟩, fun h1 h2 z k => k oe z⟩
theorem fnw_of {k : Nat} {x y qual : Str} {params : Arguments} {body : List Stmt} {scope : Scope} {f : Addr} {fd : FuncData} {N : List Str} {g : Ev → M Fl} (FD : FunD K x qual params body scope [] [] f fd) (S : FnScope N [y] scope) (hN : 1 ≤ N.length) (hK : noIns K = true)
    (hb : ∀ (base : Heap) (cdv : Value) (A : Around) (outer : List Env) (s : Shared) (H : Hp) (E : XK), A.guards = some [] → L2H.RoomH k (A.deeper (envOfC qual scope s.heap.objs.size f cdv)) → HotT (cxT P w K mg base N qual scope f cdv A outer s H E) →
      DSs (cxT P w K mg base N qual scope f cdv A outer s H E) W0 body g) : FnW P w K mg base (k + 1) f fd y (runF N.length g) := by
  obtain ⟨oc, od, dV, kV, doc, pm, an, cdv, ct, osl, rfl, lk, hcd, _, _⟩ := FD.ex
  refine ⟨?_⟩
  intro A outer s H args a oe ves c r st' Q E gd rm hh hz hd pin env0 bind hF hQ
  have kin : K.In s.heap := env0.mod.kin.keeps (fun b o z => (env0.bs b o z).1)
  have nolim : s.heap.NoLimit := env0.mod.nolimit.keeps (fun b o z => (env0.bs b o z).1)
  have kinds : ∀ z ∈ [(y, Value.ref a)], scope.names.lookup z.1 = some .local ∨ (scope.names.lookup z.1 = some .cell ∧ ((cellsFrom (s.heap.objs.size + 1) scope.names []).lookup z.1).isSome = true) := by
    intro z hz
    have e : z = (y, Value.ref a) := by simpa using hz
    subst e
    cases S.par y (by simp) with
    | inl q => exact Or.inl q
    | inr q => exact Or.inr ⟨q, PySem.W.cellsFrom_some _ _ _ (Or.inl q)⟩
  refine codeAny_call_function rm.depth (kin _ _ lk) rfl S.co S.gen rfl (PySem.W.codeRec_of kin hcd) (bind _ _ _ _ (wpAny_newFunctionEnv_cells S.kind kinds ?_))
  intro env he s1 x1
  subst he
  refine ⟨nolim.keeps x1.toInCall.keep, codeAny_func ?_⟩
  obtain ⟨base', e1⟩ := env_hot hK hz.1 hd pin env0
  have hot : HotT (cxT P w K mg base' N qual scope f cdv A outer s (hpX H a oe) E) := ⟨a, oe, _, ves, hh, upd_same, hd, hz.2.2 ves hd⟩
  have I0 : Inv (cxT P w K mg base' N qual scope f cdv A outer s (hpX H a oe) E) [] (L2.start N [.ref a]) (hpX H a oe) s1 := inv_startT (us := [.ref a]) S e1 rfl (.cons rfl .nil) x1
  -- what the body computes
  let w0 : Wd := ⟨K, fun _ => a, [], hpX H a oe, []⟩
  have rs0 : RS w0 := ⟨fun i c h => by simp [w0] at h, fun i j c c' h => by simp [w0] at h, fun x hx => absurd hx (by simp [w0]), fun x hx => absurd hx (by simp [w0])⟩
  have no0 : ∀ b, ¬ Own w0.m w0.st b := fun b ⟨i, c, e, _⟩ => by simp [w0] at e
  have rep0 : Reps w0 [.exc c] [.ref a] := by
    simp only [Reps, Rep]
    exact ⟨_, [], rfl, ⟨a, _, rfl, ⟨⟨upd_same, no0 a⟩, by simp [w0]⟩, fun P w H h z => ⟨oe, ves, z.1, hz.zc, hd⟩⟩, rfl⟩
  have eg : g ([some (.exc c)] ++ List.replicate (N.length - 1) none) [] = .ok (.ret (.str r)) st' := by
    unfold runF at hF
    obtain ⟨fl, s2, h1, h2⟩ := bind_inv hF
    have h1 : g ([some (.exc c)] ++ List.replicate (N.length - 1) none) [] = .ok fl s2 := noErr_ok h1
    cases fl with
    | ret d => cases h2; exact h1
    | nx e => cases h2
    | exc c e => cases h2
    | brk e => cases h2
    | ct e => cases h2
  have rd : rdS K W0 g { nx := fun _ _ => False, rt := fun v H' => v = .str r ∧ Same (hpX H a oe) H' } (L2.start N [.ref a]) (hpX H a oe) := by
    refine ⟨w0, [some (.exc c)] ++ List.replicate (N.length - 1) none, rfl, rfl, rs0, env_start (ds := [.exc c]) (N.length - 1) rep0, ?_⟩
    show Wp w0 (g _ []) _ _
    rw [eg]
    intro w' a' e' v rv
    simp only [Rep] at rv
    exact ⟨rv, fun b o z => (a'.fz b o ⟨z, no0 b⟩).1⟩
  refine wpAny_mono ((hb base' cdv A outer s (hpX H a oe) E gd (rm.deeper _) hot).run [] s1 (L2.start N [.ref a]) (hpX H a oe) _ I0 rd) ?_ (fun _ _ z => ?_)
  · intro fl s' z
    cases fl with
    | ret u =>
      obtain ⟨v, σ', H', J, rv, rfl, sm⟩ := z
      have hfr : H' a = some (.frz oe (.ext fun h => h.get? a = some oe)) := sm a _ upd_same
      have ga : s'.heap.get? a = some oe := (J.hok a _ hfr).1
      have ne_ : ∀ {b : Addr} {o : Obj}, s.heap.get? b = some o → True := fun _ => trivial
      have Jb : Un (frs outer) [] (hpX H a oe) H' s.heap s'.heap := J.base
      refine ⟨.str r, delH H' a, J.os, J.bare, ⟨fun b o e n hf hx => ?_, fun b o e n hf hx => ?_, fun b o e n hx => ?_, fun b o e hx => Jb.there b o e hx, fun b xs e => ?_, fun b o u e => ?_, fun b ps e => ?_⟩, fun b o e => ?_, rv, hQ _ fun b o e => ?_⟩
      · by_cases q : b = a
        · subst q
          rw [pin.get] at e
          cases e
          exact ga
        · exact Jb.keep b o e (by rw [hpX_ne q]; exact n) hf hx
      · have q : b ≠ a := fun q => pin.nofs (by rw [← q]; exact hf)
        exact Jb.slot b o e (by rw [hpX_ne q]; exact n) hf hx
      · by_cases q : b = a
        · rw [q]; exact delH_same
        · rw [delH_ne q]
          exact Jb.free b o e (by rw [hpX_ne q]; exact n) hx
      · have q : b ≠ a := fun q => by rw [q, pin.free] at e; cases e
        rw [delH_ne q]
        exact Jb.tups b xs (by rw [hpX_ne q]; exact e)
      · have q : b ≠ a := fun q => by rw [q, pin.free] at e; cases e
        rw [delH_ne q]
        exact Jb.frzs b o u (by rw [hpX_ne q]; exact e)
      · have q : b ≠ a := fun q => by rw [q, pin.free] at e; cases e
        obtain ⟨m, z⟩ := Jb.tbls b ps (by rw [hpX_ne q]; exact e)
        exact ⟨m, by rw [delH_ne q]; exact z⟩
      · have q : b ≠ a := fun q => by rw [q, delH_same] at e; cases e
        rw [delH_ne q] at e
        refine (J.hok b o e).stay (fun _ _ _ z => z) (fun d z => ?_) fun d xs z => ?_
        · have q2 : d ≠ a := fun q2 => by rw [q2, hfr] at z; cases z
          rw [delH_ne q2]; exact z
        · have q2 : d ≠ a := fun q2 => by rw [q2, hfr] at z; cases z
          rw [delH_ne q2]; exact z
      · have q : b ≠ a := fun q => by rw [q, pin.free] at e; cases e
        rw [delH_ne q]
        exact sm b o (by rw [hpX_ne q]; exact e)
    | next => obtain ⟨_, _, _, q⟩ := z; exact q.elim
    | brk => obtain ⟨_, _, _, q⟩ := z; exact q.elim
    | cont => obtain ⟨_, _, _, q⟩ := z; exact q.elim
  · exact z.elim
end
end G
end

section
set_option Elab.async false
set_option linter.all false
set_option maxRecDepth 100000
set_option maxHeartbeats 2000000
namespace G
open PySem PySem.Spec PyProof.Rows L2 HotX
theorem REnv.unset {w : Wd} {env : Ev} {σ : L2.St} (n : REnv w env σ) (i : Nat) (o : Option V) : REnv w (env.set i none) (σ.set i o) := by
  refine ⟨by simp [n.len], fun k d e => ?_⟩
  by_cases q : k = i
  · subst q
    by_cases hl : k < env.length
    · rw [List.getElem?_set_self hl] at e; cases e
    · rw [List.getElem?_eq_none (by simpa using hl)] at e; cases e
  · rw [List.getElem?_set_ne (Ne.symm q)] at e ⊢
    exact n.at_ k d e
section
variable {X : Cx} {k : Nat} {f a : Addr} {fd : FuncData} {x0 wo n y : Str} {F : List D → M D} {oe : Obj} {pn : List (Addr × Obj)} {cls : Value} {d : Option Addr} {i j : Nat} {p p2 cpos spos py : Pos}
/-- what the suite's call wishes -/
def tWd (K : PySem.W.Frag) (F : List D → M D) (i : Nat) (a : Addr) (cls : Value) (d : Option Addr) : TE := fun σ H Q => σ[i]? = some (some (.ref a)) ∧ ∃ (c r : Str) (st' : Store), cls = .ref (He.ga K c) ∧ d = none ∧ F [.exc c] [] = .ok (.str r) st' ∧ ∀ H', Same H H' → Q (.str r) H'
theorem pe_wordof (FW : FnW X.prog X.w X.K X.mg X.base k f fd x0 F) (hgd : X.A.guards = some []) (hr : Room k X.A) (hz : L2N.Zn cls d oe) (hvs : ∃ vs, oe.data = .fields vs) (hm : X.mg wo = some (.ref f)) (hk : PySem.W.keepIn X.K (.ref f) = true) (hb : Binds X.K fd [x0] []) (hg : Gl X wo)
    (hN : X.N[i]? = some n) (hv : Vis X.env.scope n) (hd : (n == ("__debug__" : Str)) = false := by decide) (hcd : (n == ("__classdict__" : Str)) = false := by decide) (hdb : (wo == ("__debug__" : Str)) = false := by decide)
    (he : starEach [.Name n p2] X.env = (false, eval (.Name n p2) X.env) :: starEach [] X.env := by rfl) (hpl : (backTo cpos (starEach [] X.env)).any (·.1) = false := by rfl) :
    PE (X.suite a ((a, oe) :: pn)) (.Call (.Name wo p) [.Name n p2] [] cpos) (tWd X.K F i a cls d) := by
  refine ⟨fun pins s σ H Q I h => ?_⟩
  obtain ⟨hs, c, r, st', rfl, rfl, hF, hQ⟩ := h
  obtain ⟨vs, hvs⟩ := hvs
  refine wpAny_Call_Name_kw (ld_glob I hg hm ?_ hdb)
  have ha : PA (X.suite a ((a, oe) :: pn)) [.Name n p2] _ := pa_cons (pe_var (X := X.suite a ((a, oe) :: pn)) (pos := p2) (i := i) hN hv hd hcd) pa_nil he
  refine PySem.W.callWith_K (h₀ := X.base) I.ok.mod.kin hk (thn (ha.run cpos pins s σ H (fun vs H1 => vs = [V.ref a] ∧ H1 = H) I ⟨.ref a, hs, rfl, rfl⟩) fun us s1 ⟨ws, H1, I1, r1, ev, eH⟩ => ⟨I1.kIn, ?_⟩) he hpl
  subst ev eH
  cases r1 with
  | cons ru rr =>
    cases rr
    cases ru
    have b := hb s1 [.ref a] I1.kIn rfl
    rw [List.append_nil] at b
    have P1 := I1.pin (a, oe) (List.mem_append_left _ List.mem_cons_self)
    have hpin : L2H.PinOk X.stack H1 s1 (a, oe) := ⟨P1.1, P1.2.1, fun hm => (List.mem_cons.mp (I1.stkSub a hm)).elim P1.2.2.1 P1.2.2.2.1, P1.2.2.2.2⟩
    refine wpAny_call (codeAny_mono (FW.run (X.A.mark (some (.ref a))) X.stack s1 H1 ⟨[.ref a], []⟩ a oe vs c r st' Q (fun _ _ _ => False) hgd ⟨hr.dp, hr.un⟩ rfl hz hvs hpin I1.env0 b hF hQ) fun res s' z => ?_)
    cases res with
    | error ev =>
      obtain ⟨_, _, _, _, _, _, _, _, _, _, _, _, q⟩ := z
      exact q.elim
    | ok fl =>
      cases fl with
      | ret u => exact I1.after z
      | next => exact z.elim
      | brk => exact z.elim
      | cont => exact z.elim
def sTryW (i j : Nat) (sub : Str → Option Bool) (F : List D → M D) (g : Ev → M Fl) : Ev → M Fl := fun env => do
  let fl ← g env
  match fl with
  | .exc c e1 => match sub c, F [.exc c] [] with
    | some true, .ok (.str r) _ => if i < e1.length then pure (.nx (((e1.set i none).set j (some (.str r))).set i none)) else M.stuck
    | _, _ => M.stuck
  | other => pure other
/-- try: .. except C as n: y = wo(n) -/
theorem ds_tryW {W : XW} {Wx : WX} {ge : Str} {body : List Stmt} {g : Ev → M Fl} {sub : Str → Option Bool} {np pos pos' : Pos} (hs : X.stack = X.env :: X.outer) (hf : X.env.frame = some X.env.locals) (hND : X.N.Nodup) (hi : X.N[i]? = some n) (hln : X.env.kindOf n = some .local) (hj : X.N[j]? = some y) (hjl : X.env.scope.names.lookup y = some .local)
    (hge : Gl X ge) (hgm : X.mg ge = some (.ref (He.ga X.K ge))) (hex : ∀ c, sub c = some true → PySem.W.exmOne X.K (.ref (He.ga X.K c)) (.ref (He.ga X.K ge)) = some true) (tk : L2N.Takes X Wx) (hW : W = wX X.K Wx)
    (FW : FnW X.prog X.w X.K X.mg X.base k f fd x0 F) (hgd : X.A.guards = some []) (hr : Room k X.A) (hm : X.mg wo = some (.ref f)) (hk : PySem.W.keepIn X.K (.ref f) = true) (hb : Binds X.K fd [x0] []) (hg : Gl X wo)
    (hbd : ∀ (W' : WX) (pn : List (Addr × Obj)) (xe : Value → Shared → Prop), L2N.Takes (X.tr pn xe) W' → PassesOwn (model X.prog X.w) X.A X.env xe → DSs (X.tr pn xe) (wX X.K W') body g)
    (hgdb : (ge == ("__debug__" : Str)) = false := by decide) (hd : (n == ("__debug__" : Str)) = false := by decide) (hcd : (n == ("__classdict__" : Str)) = false := by decide) (hdb : (wo == ("__debug__" : Str)) = false := by decide)
    (he : starEach [.Name n p2] X.env = (false, eval (.Name n p2) X.env) :: starEach [] X.env := by rfl) (hpl : (backTo cpos (starEach [] X.env)).any (·.1) = false := by rfl)
    (hsw : swapsWith (.Call (.Name wo p) [.Name n p2] [] cpos) (some (.Name y py)) spos.line X.env = pure false := by rfl) :
    DS X W (.Try body [.ExceptHandler (some (.Name ge np)) (some n) [.Assign [.Name y py] (.Call (.Name wo p) [.Name n p2] [] cpos) spos] pos'] [] [] pos) (sTryW i j sub F g) := by
  refine PS.imp' (L2N.ps_try_as (tb := fun W' => rdS X.K (wX X.K W') g) (ts := fun a cls d => tAsg (tWd X.K F i a cls d) (gName j)) (Wout := Wx) hs hf hND hi hln (c := .ref (He.ga X.K ge)) ⟨hge, hgdb, .inl hgm⟩ tk (fun W' pn xe t po => hbd W' pn xe t po) (fun a oe cls d pn hz hvs => ?_)) fun D' σ H h => ?_
  · exact pss_one (ps_set (X := X.suite a ((a, oe) :: pn)) hND hj (.inl hjl) (pe_wordof FW hgd hr hz hvs hm hk hb hg hi (.inl hln) hd hcd hdb he hpl) hsw (.inr hjl))
  · obtain ⟨w, env, hk', rfl, r, n0, h⟩ := h
    refine ⟨w, env, hk', rfl, r, n0, (Wp.bind h).imp fun fl w1 a1 h1 => ?_⟩
    cases fl with
    | nx e1 => exact Wp.ok_ (P := SFl W D') (W := nov) (a := Fl.nx e1) a1.rs h1
    | ret d => exact Wp.ok_ (P := SFl W D') (W := nov) (a := Fl.ret d) a1.rs h1
    | brk e1 => exact Wp.ok_ (P := SFl W D') (W := nov) (a := Fl.brk e1) a1.rs h1
    | ct e1 => exact Wp.ok_ (P := SFl W D') (W := nov) (a := Fl.ct e1) a1.rs h1
    | exc c e1 =>
      intro σ1 n1
      have hk1 : w1.K = X.K := a1.k.trans hk'
      cases es : sub c with
      | none => simp only [es] at h1; exact h1.elim
      | some bb =>
        cases bb with
        | false => simp only [es] at h1; exact h1.elim
        | true =>
          simp only [es] at h1
          cases hFr : F [.exc c] [] with
          | bad => rw [hFr] at h1; exact h1.elim
          | err c' st'' => rw [hFr] at h1; exact h1.elim
          | ok d' st'' =>
            rw [hFr] at h1
            cases d' with
            | str r' =>
              by_cases hl : i < e1.length
              · simp only [hl, if_true] at h1
                refine ⟨true, hex c es, fun _ a ha => ?_, fun z => nomatch z⟩
                have hil : i < σ1.length := by rw [← n1.len]; exact hl
                refine ⟨by rw [List.getElem?_set_self hil], c, r', st'', rfl, rfl, hFr, fun H' sm => ?_⟩
                have a2 : Aft w1 ⟨w1.K, w1.m, w1.st, H', w1.rv⟩ := aft_same a1.rs sm
                have z := h1 _ a2 rfl
                exact z _ ((((n1.after a2).unset i (some (.ref a))).set j (by simp [Rep])).unset i none)
              · simp only [hl, if_false] at h1
                exact h1.elim
            | _ => exact h1.elim
end
end G
end

section
set_option Elab.async false
set_option linter.all false
set_option maxRecDepth 100000
set_option maxHeartbeats 2000000
namespace G
open PySem PySem.Spec PyProof.Rows L2 HotX
/-! ## the classes of a text's refusals, beneath GiftError -/
abbrev gE : Str := "GiftError"
def subX (exn : List Str) (C c : Str) : Option Bool := if exn.contains c then some (decide (C = gE) || decide (c = C)) else none
def subV (exn : List Str) (c : Str) : Option Bool := if exn.contains c then some true else none
def pairB (exn : List Str) (K : PySem.W.Frag) : Bool := exn.all fun c => (gE :: exn).all fun C => PySem.W.kitOne K (.ref (He.ga K c)) (.ref (He.ga K C)) == some (decide (C = gE) || decide (c = C))
def valB (exn : List Str) (K : PySem.W.Frag) : Bool := exn.all fun c => PySem.W.kitOne K (.ref (He.ga K c)) (.type "ValueError") == some true
def emB (exn : List Str) (K : PySem.W.Frag) : Bool := exn.all fun c => PySem.W.exmOne K (.ref (He.ga K c)) (.ref (He.ga K gE)) == some true
def excB (exn : List Str) (K : PySem.W.Frag) : Bool := exn.all (clsB K) && (pairB exn K && (valB exn K && (emB exn K && noIns K)))
structure ExcT (exn : List Str) (K : PySem.W.Frag) (mg : Str → Option Value) : Prop where
  xc : ∀ x ∈ exn, XCls K mg x
  ge : mg gE = some (.ref (He.ga K gE))
  sb : ∀ x ∈ gE :: exn, SubOk K (subX exn x) (.ref (He.ga K x))
  sv : SubOk K (subV exn) (.type "ValueError")
  em : ∀ c, subX exn gE c = some true → PySem.W.exmOne K (.ref (He.ga K c)) (.ref (He.ga K gE)) = some true
  ni : noIns K = true
theorem excB_ok {exn : List Str} {K : PySem.W.Frag} {mg : Str → Option Value} (h : ∀ x ∈ gE :: exn, mg x = some (.ref (He.ga K x))) (c : excB exn K = true) : ExcT exn K mg := by
  unfold excB at c
  simp only [Bool.and_eq_true] at c
  obtain ⟨c1, c2, c3, c4, c5⟩ := c
  have xc : ∀ x ∈ exn, XCls K mg x := fun x hx => clsB_ok (h x (List.mem_cons_of_mem _ hx)) (List.all_eq_true.mp c1 x hx)
  refine ⟨xc, h gE (by simp), fun x hx c b e => ?_, fun c b e => ?_, fun c e => ?_, c5⟩
  · unfold subX at e
    split at e
    · rename_i hc
      have hc : c ∈ exn := by simpa using hc
      cases e
      have z := List.all_eq_true.mp (List.all_eq_true.mp c2 c hc) x hx
      exact ⟨(xc c hc).c, eq_of_beq z⟩
    · cases e
  · unfold subV at e
    split at e
    · rename_i hc
      have hc : c ∈ exn := by simpa using hc
      cases e
      exact ⟨(xc c hc).c, eq_of_beq (List.all_eq_true.mp c3 c hc)⟩
    · cases e
  · unfold subX at e
    split at e
    · rename_i hc
      have hc : c ∈ exn := by simpa using hc
      exact eq_of_beq (List.all_eq_true.mp c4 c hc)
    · cases e
theorem unitsH {k : Nat} {A : Around} (r : L2H.RoomH k A) : A.units + 64 < cLine := by have := r.un; omega
theorem takes0N {X : Cx} : L2N.Takes X (fun _ _ _ _ => False) := fun _ _ x => by
  obtain ⟨_, _, _, _, _, _, _, _, _, _, _, _, _, _, _, _, z⟩ := x
  exact z.elim
end G
end

section
set_option Elab.async false
set_option linter.all false
set_option maxRecDepth 100000
set_option maxHeartbeats 2000000
namespace G
open PySem PySem.Spec PyProof.Rows L2
/-! ## while -/
def whNx (k : Ev → M Fl) : Fl → M Fl
  | .nx e => k e
  | .ct e => k e
  | .brk e => pure (.nx e)
  | .ret d => pure (.ret d)
  | .exc c e => pure (.exc c e)
def whGo (t : Ev → M Bool) (g : Ev → M Fl) : Nat → Ev → M Fl
  | 0, _ => M.stuck
  | n + 1, env => stx (t env) env fun b => if b = true then (do let fl ← g env; whNx (whGo t g n) fl) else pure (.nx env)
def sWhile (N : Nat) (t : Ev → M Bool) (g : Ev → M Fl) : Ev → M Fl := whGo t g N
section
variable {X : Cx} {W : XW} {c : Expr} {body : List Stmt} {pos : Pos} {g : Ev → M Fl} {t : Ev → M Bool}
theorem ds_while (N : Nat) (hp : PassesOwn (model X.prog X.w) X.A X.env X.xe) (ht : DT X W c t) (hb : DSs X W body g) : DS X W (.While c body [] pos) (sWhile N t g) := PS.imp' (ps_while hp ht hb) fun D' σ H h => by
  obtain ⟨w, env, hk, rfl, r, n, h⟩ := h
  refine ⟨fun m σ H => ∃ (w : Wd) (env : Ev), w.K = X.K ∧ w.H = H ∧ RS w ∧ REnv w env σ ∧ Wp w (whGo t g m env w.st) (SFl W D') nov, ⟨N, w, env, hk, rfl, r, n, h⟩, ?_⟩
  rintro m σ H ⟨w, env, hk, rfl, r, n, h⟩
  cases m with
  | zero => exact h.elim
  | succ m =>
    refine ⟨w, env, hk, rfl, r, n, (stx_wp n h).imp fun b w1 a1 h1 => ?_⟩
    cases b with
    | false => exact iteF (Wp.ok_ (a := Fl.nx env) a1.rs h1 σ (n.after a1))
    | true =>
      refine iteT ⟨fun σ' H' => ∃ (w : Wd) (env : Ev), w.K = X.K ∧ w.H = H' ∧ RS w ∧ REnv w env σ' ∧ Wp w (whGo t g m env w.st) (SFl W D') nov, fun σ' H' z => ⟨m, Nat.lt_succ_self _, z⟩, ?_⟩
      refine ⟨w1, env, a1.k.trans hk, rfl, a1.rs, n.after a1, (Wp.bind h1).imp fun fl w2 a2 h2 => ?_⟩
      have hk2 := a2.k.trans (a1.k.trans hk)
      cases fl with
      | nx e => exact fun σ2 n2 => ⟨w2, e, hk2, rfl, a2.rs, n2, h2⟩
      | ct e => exact fun σ2 n2 => ⟨w2, e, hk2, rfl, a2.rs, n2, h2⟩
      | brk e => exact fun σ2 n2 => Wp.ok_ (P := SFl W D') (W := nov) (a := Fl.nx e) a2.rs h2 σ2 n2
      | ret d => exact Wp.ok_ (P := SFl W D') (W := nov) (a := Fl.ret d) a2.rs h2
      | exc c e => exact Wp.ok_ (P := SFl W D') (W := nov) (a := Fl.exc c e) a2.rs h2
/-! ## a list's cell compared -/
def dNeC : D → D → Store → Option D := fun a b st => match a with
  | .cell c => (cellL st c).bind fun l => (eqD (.lst l) b).map fun r => .bl (!r)
  | _ => none
theorem od_neC (hu : X.A.units + 64 < cLine) : OpD X (compareOp .NotEq) dNeC := OpR.imp' (op_neD hu) fun x y H Q h => by
  obtain ⟨w, a, b, hk, rfl, rs, ra, rb, q⟩ := h
  obtain ⟨d, e⟩ := wq_some q
  have e0 := e
  unfold dNeC at e
  split at e
  · rename_i c
    cases qc : cellL w.st c with
    | none => rw [qc] at e; cases e
    | some l =>
      rw [qc] at e
      simp only [Option.bind_some] at e
      unfold eqD at e
      cases ql : D.datas l with
      | none => simp [D.data, ql] at e
      | some qs =>
        cases qb : b.data with
        | none => rw [qb] at e; simp [D.data, ql] at e
        | some p =>
          rw [qb] at e
          simp only [D.data, ql, Option.map_some] at e
          by_cases hc : (SeqAt.shaped (.list qs) && SeqAt.shaped p) = true
          · rw [if_pos hc] at e
            simp only [Rep] at ra
            obtain ⟨s1, s2⟩ := Bool.and_eq_true_iff.mp hc
            rw [ra.1]
            exact ⟨.list qs, p, by rw [← hk]; exact dp_cell rs qc ql, by rw [← hk]; exact dp_of b y p rb qb, s1, s2, q.here rs (e0.trans e.symm) (rep_bl _)⟩
          · rw [if_neg hc] at e; cases e
  · cases e
end
end G
end

section
set_option Elab.async false
set_option linter.all false
set_option maxRecDepth 100000
set_option maxHeartbeats 2000000
namespace G
open PySem PySem.Spec PyProof.Rows L2
/-! ## repr of (x, {}) -/
def reprOkP (p : PyData) : Bool := p.showable && decide (p.shown.length ≤ 8000000) && decide (p.depth ≤ 50) && !p.hasDict
def shownP (p : PyData) : Str := (PyData.tuple [p, .dict []]).shown
def rReprP (K : PySem.W.Frag) : List V → Hp → VK → Prop := fun xs H Q => ∃ (x b : Addr) (v : V) (p : PyData), xs = [.ref x] ∧ SqT K H x [v, .ref b] ∧ Dp K H v p ∧ H b = some (.dK []) ∧ reprOkP p = true ∧ (shownP p).length ≤ sizeLine ∧ Q (.str (shownP p)) H
section
variable {X : Cx} {W : XW}
theorem cr_reprP (hg : X.A.guards = some []) (hu : X.A.units + 64 < cLine) : CallR X (.builtin "repr") (rReprP X.K) := by
  intro pins s σ H xs us Q I rel h
  obtain ⟨x, b, v, p, rfl, sq, hd, hb, hok, hsz, q⟩ := h
  obtain ⟨u, rfl, rx⟩ := vals1 rel
  cases (show u = Value.ref x from rx)
  obtain ⟨its, rv, ht, hz⟩ := I.tuple sq
  obtain ⟨u1, u2, rfl, ru1, ru2⟩ := vals2 rv
  cases (show u2 = Value.ref b from ru2)
  obtain ⟨as, r1⟩ := Dp.reads I p v u1 hd ru1
  unfold reprOkP at hok
  simp only [Bool.and_eq_true, decide_eq_true_eq, Bool.not_eq_true'] at hok
  obtain ⟨⟨⟨h1, h2⟩, h3⟩, h4⟩ := hok
  obtain ⟨_, hsys, vs, kv, o, es, ep, eo, ex, ed, _, pr, _⟩ := I.hok b _ hb
  cases kv
  have e0 : es.toList = [] := by
    generalize es.toList = l at pr
    cases pr
    rfl
  have r2 : Reads s.heap (.ref b) (.dict []) (b :: ([] ++ [])) := .dict eo ex.1 ed (by rw [e0]; exact .nil) (by rw [e0]; exact .nil)
  obtain ⟨ot, et, ct, nt, dt⟩ := ht
  have rt : Reads s.heap (.ref x) (.tuple [p, .dict []]) (as ++ ((b :: ([] ++ [])) ++ [])) := .tuple et ct dt (.cons r1 (.cons r2 .nil))
  have hne : b ≠ sysModules := fun z => by rw [z] at hsys; simp at hsys
  obtain ⟨b1, hb1, k1⟩ := ReprK.of_reads (prog := X.prog) (w := X.w) r1 h1 (fun z => by rw [h4] at z; cases z) (by rw [sizeLine_eq]; omega)
  obtain ⟨b2, hb2, k2⟩ := ReprK.of_reads (prog := X.prog) (w := X.w) r2 rfl (fun _ hm => by simp at hm; exact hne hm.symm) (by decide)
  have hb' : ReadAtMost s.heap (PyData.depthAll [p, .dict []]) (b1 ++ b2) := fun c hm => by
    rcases List.mem_append.mp hm with hm | hm
    · obtain ⟨d', as', r', hd'⟩ := hb1 c hm
      exact ⟨d', as', r', Nat.le_trans hd' (by simp only [PyData.depthAll]; exact Nat.le_max_left _ _)⟩
    · obtain ⟨d', as', r', hd'⟩ := hb2 c hm
      exact ⟨d', as', r', Nat.le_trans hd' (by simp only [PyData.depthAll]; omega)⟩
  have hk : ReprAllK X.prog X.w (b1 ++ b2) s.heap (PyData.depthAll [p, .dict []]) [u1, .ref b] (PyData.shownAll [p, .dict []]) := by
    simp only [PyData.shownAll]
    exact .cons ((k1.more fun c hc => List.mem_append_left _ hc).level_le (by simp only [PyData.depthAll]; omega)) (.cons ((k2.more fun c hc => List.mem_append_right _ hc).level_le (by simp only [PyData.depthAll]; omega)) .nil)
  have dp : PyData.depthAll [p, .dict []] ≤ 51 := by simp only [PyData.depthAll, PyData.depth, PyData.depthKv]; omega
  have hna : x ∉ b1 ++ b2 := not_mem_of_deeper rt (by simp only [PyData.depth]; omega) hb'
  have ez : shownP p = tupleText (PyData.shownAll [p, .dict []]) := by simp only [shownP, PyData.shown]
  refine call_repr_slot (by omega) ⟨ot, et, ct⟩ F.slot_tuple_repr (call_tuple_reprK (A := X.A.in1) et ct dt hna (by simpa using hk) hg (fun c _ => Clear.nil c) (by show X.A.units + 1 + _ < cLine; omega) (fun _ _ z => z) (fun h' ut tk keep => ?_) (by rw [← ez]; exact hsz))
  refine ⟨_, _, rfl, .str (shownP p), H, ?_, ⟨_, by rw [ez]⟩, q⟩
  exact I.un (Un.kept keep) (I.hok.kept keep)
def dReprP : List D → Store → Option D := fun ds st => match ds with
  | [.tup [x, .dct0]] => match x.data with
    | some p => if reprOkP p = true ∧ (shownP p).length ≤ sizeLine then some (.str (shownP p)) else none
    | none => none
  | ds => dReprA ds st
theorem cd_reprP (hg : X.A.guards = some []) (hu : X.A.units + 64 < cLine) : CallD X (.builtin "repr") dReprP := CallR.imp' ((cr_reprP hg hu).or (cd_reprA hg hu)) fun xs H Q h => by
  obtain ⟨w, ds, hk, rfl, rs, rd, q⟩ := h
  obtain ⟨d, e⟩ := wq_some q
  have e0 := e
  unfold dReprP at e
  split at e
  · rename_i x
    left
    cases qx : x.data with
    | none => rw [qx] at e; cases e
    | some p =>
      rw [qx] at e
      simp only at e
      by_cases hc : reprOkP p = true ∧ (shownP p).length ≤ sizeLine
      · rw [if_pos hc] at e
        obtain ⟨v, rfl, r⟩ := reps1 rd
        simp only [Rep] at r
        obtain ⟨a, ys, rfl, sq, rr, _⟩ := r
        obtain ⟨u1, u2, rfl, r1, r2⟩ := reps2 rr
        simp only [Rep] at r2
        obtain ⟨b, rfl, fb⟩ := r2
        exact ⟨a, b, u1, p, rfl, by rw [← hk]; exact sq, by rw [← hk]; exact dp_of x u1 p r1 qx, fb.1.1, hc.1, hc.2, q.here rs (e0.trans e.symm) (rep_str _)⟩
      · rw [if_neg hc] at e; cases e
  · right
    refine ⟨w, _, hk, rfl, rs, rd, ?_⟩
    obtain ⟨d', e', z⟩ := q
    refine ⟨d', ?_, z⟩
    rw [← e']
    unfold dReprP
    split
    · exfalso
      solve_by_elim
    · rfl
end
end G
end

section
set_option Elab.async false
set_option linter.all false
set_option maxRecDepth 100000
set_option maxHeartbeats 2000000
namespace G
open PySem PySem.Spec PyProof.Rows L2
/-! ## tables of a module: written dicts with text keys -/
abbrev Tabs := List (Str × List (Str × D))
def tabAt (l : List (Str × D)) (z : Str) : Option D := (l.find? fun p => decide (p.1 = z)).map (·.2)
def tabOf (ts : Tabs) (c : Str) : Option (List (Str × D)) := (ts.find? fun p => decide (p.1 = c)).map (·.2)
def dGetK (ts : Tabs) : D → D → Store → Option D := fun o i _ => match o, i with
  | .con c, .str z => (tabOf ts c).bind fun l => tabAt l z
  | _, _ => none
def dInK (ts : Tabs) : D → D → Store → Option D := fun i o _ => match i, o with
  | .str z, .con c => (tabOf ts c).map fun l => .bl (tabAt l z).isSome
  | _, _ => none
def dNotInK (ts : Tabs) : D → D → Store → Option D := fun i o _ => match i, o with
  | .str z, .con c => (tabOf ts c).map fun l => .bl (!(tabAt l z).isSome)
  | _, _ => none
/-- the entries of a table are those of a list -/
def entsB (K : PySem.W.Frag) : List (Str × D) → List DictEntry → Bool
  | [], [] => true
  | p :: l, e :: es => (match e.key with
    | .str x _ => decide (x = p.1)
    | _ => false) && (conV K p.2 e.val && entsB K l es)
  | _, _ => false
def tabB (K : PySem.W.Frag) (c : Str) (l : List (Str × D)) : Bool := match K.lookup (He.ga K c) with
  | some ⟨_, _, .dict es _, _⟩ => entsB K l es.toList
  | _ => false
theorem ents_find {K : PySem.W.Frag} {z : Str} : ∀ {l : List (Str × D)} {es : List DictEntry}, entsB K l es = true → ((∃ e d, es.find? (·.key.isStr z) = some e ∧ tabAt l z = some d ∧ conV K d e.val = true) ∨ (es.find? (·.key.isStr z) = none ∧ tabAt l z = none)) ∧ es.any (·.refKey) = false
  | [], [], _ => ⟨.inr ⟨rfl, rfl⟩, rfl⟩
  | [], _ :: _, h => by cases h
  | _ :: _, [], h => by cases h
  | p :: l, e :: es, h => by
    simp only [entsB, Bool.and_eq_true] at h
    obtain ⟨h1, h2, h3⟩ := h
    obtain ⟨ih, ir⟩ := ents_find (z := z) h3
    obtain ⟨pk, pd⟩ := p
    cases ek : e.key with
    | str x t =>
      rw [ek] at h1
      have hx : x = pk := of_decide_eq_true h1
      subst hx
      have rk : e.refKey = false := by simp [DictEntry.refKey, ek]
      refine ⟨?_, by simp only [List.any_cons, rk, ir, Bool.false_or]⟩
      by_cases hz : x = z
      · subst hz
        refine .inl ⟨e, pd, ?_, by simp [tabAt], h2⟩
        simp [ek, Value.isStr]
      · have n1 : e.key.isStr z = false := by simp [ek, Value.isStr, hz]
        have n2 : tabAt ((x, pd) :: l) z = tabAt l z := by simp [tabAt, hz]
        rw [List.find?_cons_of_neg (by simp [n1]), n2]
        exact ih
    | _ => rw [ek] at h1; cases h1
/-- what a table tells -/
structure TabOk (K : PySem.W.Frag) (w : World) (c : Str) (l : List (Str × D)) : Prop where
  kd : ∃ es n, KDict K w (He.ga K c) es n
  in_ : tabB K c l = true
theorem TabOk.at_ {K : PySem.W.Frag} {w : World} {c : Str} {l : List (Str × D)} (T : TabOk K w c l) (z : Str) : ∃ es n r, KDict K w (He.ga K c) es n ∧ PySem.W.nsIn K (He.ga K c) z = some r ∧ r.isSome = (tabAt l z).isSome ∧ ∀ d, tabAt l z = some d → ∃ u, r = some u ∧ conV K d u = true := by
  obtain ⟨es, n, kd⟩ := T.kd
  have h := T.in_
  unfold tabB at h
  rw [kd.at_] at h
  obtain ⟨hf, hr⟩ := ents_find (z := z) h
  have e : PySem.W.nsIn K (He.ga K c) z = match es.toList.find? (·.key.isStr z) with
      | some e => some (some e.val)
      | none => if es.toList.any (·.refKey) then none else some none := by
    unfold PySem.W.nsIn
    rw [kd.at_]
    rfl
  rcases hf with ⟨x, d, e1, e2, e3⟩ | ⟨e1, e2⟩
  · rw [e1] at e
    exact ⟨es, n, some x.val, kd, e, by simp [e2], fun d' hd => by rw [e2] at hd; cases hd; exact ⟨_, rfl, e3⟩⟩
  · rw [e1, hr] at e
    exact ⟨es, n, none, kd, e, by simp [e2], fun d' hd => by rw [e2] at hd; cases hd⟩
def TabsOk (K : PySem.W.Frag) (w : World) (ts : Tabs) : Prop := ∀ c l, tabOf ts c = some l → TabOk K w c l
section
variable {X : Cx} {W : XW} {e a b c : Expr} {pos : Pos} {fa fb fc : Ev → M D} {ts : Tabs}
theorem xd_getK (T : TabsOk X.K X.w ts) : IxR X (rdO X.K (dGetK ts)) := IxR.imp' ix_kdict fun x y H Q h => by
  obtain ⟨w, a, b, hk, rfl, rs, ra, rb, q⟩ := h
  obtain ⟨d, e⟩ := wq_some q
  have e0 := e
  unfold dGetK at e
  split at e
  · rename_i c z
    cases et : tabOf ts c with
    | none => rw [et] at e; cases e
    | some l =>
      rw [et] at e
      have e : tabAt l z = some d := e
      obtain ⟨es, n, r, kd, en, _, hv⟩ := (T c l et).at_ z
      obtain ⟨u, rfl, hc⟩ := hv d e
      obtain ⟨x', rx, hx⟩ := conV_rep d u hc
      simp only [Rep] at ra rb
      subst ra rb
      rw [hk]
      exact ⟨_, z, x', rfl, rfl, ⟨es, n, u, kd.at_, kd.lit, en, rx⟩, q.here rs e0 (hx w hk)⟩
  · cases e
theorem de_ixK (T : TabsOk X.K X.w ts) (ha : DE X W a fa) (hb : DE X W b fb) (hs : PlainIx b := by intro _ _; rfl) : DE X W (.Subscript a b pos) (eOp (dGetK ts) fa fb) := PE.imp' (pe_ix (xd_getK T) ha hb hs) fun _ _ _ h => two h
/-- one operator for each table -/
theorem od_inK (T : TabsOk X.K X.w ts) : OpD X (compareOp .In) (dInK ts) := by
  intro pins s σ H x y v u Q I rx ry h
  obtain ⟨w, a, b, hk, rfl, rs, ra, rb, q⟩ := h
  obtain ⟨d, e⟩ := wq_some q
  have e0 := e
  unfold dInK at e
  split at e
  · rename_i z c
    cases et : tabOf ts c with
    | none => rw [et] at e; cases e
    | some l =>
      obtain ⟨es, n, r, kd, en, hs, _⟩ := (T c l et).at_ z
      simp only [Rep] at ra rb
      subst ra rb
      rw [hk] at ry
      refine op_in_kd kd pins s σ w.H _ _ v u Q I rx ry ⟨z, r, rfl, rfl, en, q.here rs ?_ (rep_bl _)⟩
      simp only [dInK, et, Option.map_some, hs]
  · cases e
theorem od_notInK (T : TabsOk X.K X.w ts) : OpD X (compareOp .NotIn) (dNotInK ts) := by
  intro pins s σ H x y v u Q I rx ry h
  obtain ⟨w, a, b, hk, rfl, rs, ra, rb, q⟩ := h
  obtain ⟨d, e⟩ := wq_some q
  have e0 := e
  unfold dNotInK at e
  split at e
  · rename_i z c
    cases et : tabOf ts c with
    | none => rw [et] at e; cases e
    | some l =>
      obtain ⟨es, n, r, kd, en, hs, _⟩ := (T c l et).at_ z
      simp only [Rep] at ra rb
      subst ra rb
      rw [hk] at ry
      refine op_notIn_kd kd pins s σ w.H _ _ v u Q I rx ry ⟨z, r, rfl, rfl, en, q.here rs ?_ (rep_bl _)⟩
      simp only [dNotInK, et, Option.map_some, hs]
  · cases e
/-- the name of a table -/
theorem de_tab {x : Str} (hg : Gl X x) (hm : X.mg x = some (.ref (He.ga X.K x))) (hd : (x == ("__debug__" : Str)) = false := by decide) : DE X W (.Name x pos) (eC (.con x)) := de_glob hg hm (v := .ref (He.ga X.K x)) rfl (fun w hk => by simp only [Rep]; rw [hk]) hd
end
end G
end

section
set_option Elab.async false
set_option linter.all false
set_option maxRecDepth 100000
set_option maxHeartbeats 2000000
namespace G
open PySem PySem.Spec PyProof.Rows L2
/-! ## instances: fields, methods, making -/
theorem repF_some {w : Wd} {f : Str} {d : D} : ∀ {l : List (Str × D)} {gs : List (Str × V)}, RepF w l gs → l.lookup f = some d → ∃ v, gs.lookup f = some v ∧ Rep w d v
  | [], gs, h, e => by cases e
  | (g, y) :: l, gs, h, e => by
    obtain ⟨⟨g', v⟩, ys, rfl, e1, r, rs⟩ := h
    have e1 : g' = g := e1
    subst e1
    by_cases q : (f == g') = true
    · simp only [List.lookup, q] at e ⊢
      cases e
      exact ⟨v, rfl, r⟩
    · have q : (f == g') = false := by simpa using q
      simp only [List.lookup, q] at e ⊢
      exact repF_some rs e
theorem repF_none {w : Wd} {f : Str} : ∀ {l : List (Str × D)} {gs : List (Str × V)}, RepF w l gs → l.lookup f = none → gs.lookup f = none
  | [], gs, h, e => by simp only [RepF] at h; subst h; rfl
  | (g, y) :: l, gs, h, e => by
    obtain ⟨⟨g', v⟩, ys, rfl, e1, r, rs⟩ := h
    have e1 : g' = g := e1
    subst e1
    by_cases q : (f == g') = true
    · simp only [List.lookup, q] at e
      cases e
    · have q : (f == g') = false := by simpa using q
      simp only [List.lookup, q] at e ⊢
      exact repF_none rs e
def putFD (f : Str) (d : D) : List (Str × D) → List (Str × D)
  | [] => [(f, d)]
  | (g, x) :: r => if g = f then (g, d) :: r else (g, x) :: putFD f d r
theorem repF_put {w : Wd} {f : Str} {d : D} {v : V} (r0 : Rep w d v) : ∀ {l : List (Str × D)} {gs : List (Str × V)}, RepF w l gs → RepF w (putFD f d l) (putF f v gs)
  | [], gs, h => by simp only [RepF] at h; subst h; exact ⟨(f, v), [], rfl, rfl, r0, rfl⟩
  | (g, y) :: l, gs, h => by
    obtain ⟨⟨g', z⟩, ys, rfl, e1, r, rs⟩ := h
    have e1 : g' = g := e1
    subst e1
    by_cases q : g' = f
    · subst q
      simp only [putFD, putF, if_true]
      exact ⟨(g', v), ys, rfl, rfl, r0, rs⟩
    · simp only [putFD, putF, if_neg q]
      exact ⟨(g', z), _, rfl, rfl, r, repF_put r0 rs⟩
theorem repF_len {w : Wd} : ∀ {l : List (Str × D)} {gs : List (Str × V)}, RepF w l gs → gs.length = l.length
  | [], gs, h => by simp only [RepF] at h; subst h; rfl
  | x :: l, gs, h => by
    obtain ⟨y, ys, rfl, _, _, rs⟩ := h
    rw [List.length_cons, List.length_cons, repF_len rs]
/-- an instance's cell -/
def insAt (st : Store) (C : Str) : D → Option (Nat × List (Str × D))
  | .cell i => match st[i]? with
    | some (.ins c fs) => if c = C then some (i, fs) else none
    | _ => none
  | _ => none
theorem insAt_is {st : Store} {C : Str} {d : D} {i : Nat} {fs : List (Str × D)} (h : insAt st C d = some (i, fs)) : d = .cell i ∧ st[i]? = some (.ins C fs) := by
  unfold insAt at h
  split at h
  · rename_i j
    split at h
    · rename_i c gs e
      split at h
      · rename_i hc
        cases h
        subst hc
        exact ⟨rfl, e⟩
      · cases h
    · cases h
  · cases h
def dFld (C f : Str) : D → Store → Option D := fun d st => (insAt st C d).bind fun p => p.2.lookup f
/-- what the class says -/
structure ClsT (K : PySem.W.Frag) (mg : Str → Option Value) (C : Str) (fl : List Str) : Prop where
  mg_ : mg C = some (.ref (He.ga K C))
  cls : Cls K (He.ga K C)
  noa : ∀ f ∈ fl, NoAttr K (He.ga K C) f
section
variable {X : Cx} {W : XW} {e a b c : Expr} {pos p : Pos} {fa fb fc : Ev → M D} {C f : Str} {fl : List Str}
theorem ins_rep {w : Wd} {d : D} {v : V} {i : Nat} {fs : List (Str × D)} (rs : RS w) (r : Rep w d v) (h : insAt w.st C d = some (i, fs)) : ∃ dx gs, v = .ref (w.m i) ∧ w.H (w.m i) = some (.ins (He.ga w.K C) dx gs) ∧ RepF w fs gs := by
  obtain ⟨rfl, e⟩ := insAt_is h
  obtain ⟨dx, gs, e1, r1⟩ := rs.cells i _ e
  simp only [Rep] at r
  exact ⟨dx, gs, r.1, e1, r1⟩
theorem de_fld (T : ClsT X.K X.mg C fl) (hf : f ∈ fl) (ha : DE X W a fa) (hb : attributeBase a f X.env (eval a X.env) = eval a X.env := by rfl) : DE X W (.Attribute a f pos) (eUn (dFld C f) fa) := PE.imp' (pe_fld ha hb) fun σ H Q h => by
  obtain ⟨w, env, hk, rfl, r, n, h⟩ := h
  refine ⟨w, env, hk, rfl, r, n, (Wp.bind h).imp fun x w1 a1 h1 v rv => ?_⟩
  have q := Wq.of h1
  obtain ⟨d, e⟩ := wq_some q
  cases ei : insAt w1.st C x with
  | none => simp only [dFld, ei] at e; cases e
  | some pr =>
    obtain ⟨i, fs⟩ := pr
    have e2 : fs.lookup f = some d := by simpa only [dFld, ei, Option.bind_some] using e
    obtain ⟨dx, gs, rfl, eH, rf⟩ := ins_rep a1.rs rv ei
    obtain ⟨v, ev, rv⟩ := repF_some rf e2
    refine ⟨_, _, dx, gs, v, rfl, eH, ?_, ?_, ev, q.here a1.rs e rv⟩
    · rw [a1.k, hk]; exact T.cls
    · rw [a1.k, hk]; exact T.noa f hf
/-! ### o.f = e -/
def setFld (C f : Str) (o d : D) : M Unit := fun st => match insAt st C o with
  | some (i, fs) => if fs.length < 1000 then .ok () (st.set i (.ins C (putFD f d fs))) else .bad
  | none => .bad
def sSetF (C f : Str) (fo fv : Ev → M D) : Ev → M Fl := fun env => stx (fv env) env fun d => stx (fo env) env fun o => stx (setFld C f o d) env fun _ => pure (.nx env)
/-- the write -/
theorem setFld_wp {w : Wd} {o d : D} {vo v : V} {P : Unit → Wd → Prop} {V' : Str → Wd → Prop} (rs : RS w) (ro : Rep w o vo) (rv : Rep w d v) (h : Wp w (setFld C f o d w.st) P V') :
    ∃ i fs dx gs, insAt w.st C o = some (i, fs) ∧ fs.length < 1000 ∧ vo = .ref (w.m i) ∧ w.H (w.m i) = some (.ins (He.ga w.K C) dx gs) ∧ RepF w fs gs ∧ ∃ w', Aft w w' ∧ w'.H = upd w.H (w.m i) (.ins (He.ga w.K C) dx (putF f v gs)) ∧ P () w' := by
  unfold setFld at h
  cases ei : insAt w.st C o with
  | none => rw [ei] at h; exact h.elim
  | some pr =>
    obtain ⟨i, fs⟩ := pr
    rw [ei] at h
    simp only at h
    split at h
    · rename_i hl
      obtain ⟨dx, gs, ev, eH, rf⟩ := ins_rep rs ro ei
      obtain ⟨rfl, el⟩ := insAt_is ei
      have up : ∀ b q, b ≠ w.m i → w.H b = some q → upd w.H (w.m i) (.ins (He.ga w.K C) dx (putF f v gs)) b = some q := fun b q hb z => by rw [upd_ne hb]; exact z
      have bb : Bears w ⟨w.K, w.m, w.st.set i (.ins C (putFD f d fs)), upd w.H (w.m i) (.ins (He.ga w.K C) dx (putF f v gs)), w.rv⟩ := bears_set (c := .ins C (putFD f d fs)) (c0 := .ins C fs) rs el trivial up
      have aa : Aft w ⟨w.K, w.m, w.st.set i (.ins C (putFD f d fs)), upd w.H (w.m i) (.ins (He.ga w.K C) dx (putF f v gs)), w.rv⟩ := aft_set (c0 := .ins C fs) rs el trivial up ⟨dx, _, upd_same, repF_put (bb.rep _ _ rv) (bb.repF _ _ rf)⟩
      exact ⟨i, fs, dx, gs, rfl, hl, ev, eH, rf, _, aa, rfl, h _ aa rfl⟩
    · exact h.elim
theorem ds_fld {pos' : Pos} (T : ClsT X.K X.mg C fl) (hf : f ∈ fl) (ho : DE X W a fa) (hv : DE X W b fb) (hs : swapsWith b (some (.Attribute a f pos')) pos.line X.env = pure false := by rfl) : DS X W (.Assign [.Attribute a f pos'] b pos) (sSetF C f fa fb) :=
  PS.imp' (ps_fld ho hv hs) fun D' σ H h => by
    obtain ⟨w, env, hk, rfl, r, n, h⟩ := h
    refine ⟨w, env, hk, rfl, r, n, (stx_wp n h).imp fun d w1 a1 h1 v rv => ?_⟩
    refine ⟨w1, env, a1.k.trans hk, rfl, a1.rs, n.after a1, (stx_wp (n.after a1) h1).imp fun od w2 a2 h2 u ru => ?_⟩
    obtain ⟨i, fs, dx, gs, _, hl, rfl, eH, rf, w3, aa, e3, p3⟩ := setFld_wp a2.rs ru (a2.rep rv) (stx_wp ((n.after a1).after a2) h2)
    refine ⟨_, _, dx, gs, rfl, eH, ?_, ?_, by rw [repF_len rf]; exact hl, ?_⟩
    · rw [a2.k, a1.k, hk]; exact T.cls
    · rw [a2.k, a1.k, hk]; exact T.noa f hf
    · rw [← e3]
      exact Wp.ok_ (a := Fl.nx env) aa.rs p3 σ (((n.after a1).after a2).after aa)
/-! ### o.f += e -/
def dAddI : D → D → Store → Option D
  | .int i, .int j, _ => some (.int (i + j))
  | _, _, _ => none
def sAddF (C f : Str) (fo fv : Ev → M D) : Ev → M Fl := fun env => stx (fo env) env fun o => stx (lift (dFld C f o)) env fun x => stx (fv env) env fun y => stx (lift (dAddI x y)) env fun z => stx (setFld C f o z) env fun _ => pure (.nx env)
theorem ds_fldAdd {tpos : Pos} (T : ClsT X.K X.mg C fl) (hf : f ∈ fl) (ho : DE X W a fa) (hv : DE X W b fb) : DS X W (.AugAssign (.Attribute a f tpos) .Add b pos) (sAddF C f fa fb) :=
  PS.imp' (ps_fldaug ho hv in_add) fun D' σ H h => by
    obtain ⟨w, env, hk, rfl, r, n, h⟩ := h
    refine ⟨w, env, hk, rfl, r, n, (stx_wp n h).imp fun o w1 a1 h1 v rv => ?_⟩
    obtain ⟨x, ex, qx⟩ : ∃ x, dFld C f o w1.st = some x ∧ Wp w1 ((stx (fb env) env fun y => stx (lift (dAddI x y)) env fun z => stx (setFld C f o z) env fun _ => pure (.nx env)) w1.st) (SFl W D') nov := by
      cases e : dFld C f o w1.st with
      | none =>
        have h1 : Wp w1 ((stx (lift (dFld C f o)) env _) w1.st) (SFl W D') nov := h1
        unfold stx lift at h1
        rw [e] at h1
        exact h1.elim
      | some x =>
        have h1 : Wp w1 ((stx (lift (dFld C f o)) env _) w1.st) (SFl W D') nov := h1
        unfold stx lift at h1
        rw [e] at h1
        exact ⟨x, rfl, h1⟩
    cases ei : insAt w1.st C o with
    | none => simp only [dFld, ei] at ex; cases ex
    | some pr =>
      obtain ⟨i, fs⟩ := pr
      have e2 : fs.lookup f = some x := by simpa only [dFld, ei, Option.bind_some] using ex
      obtain ⟨dx, gs, rfl, eH, rf⟩ := ins_rep a1.rs rv ei
      obtain ⟨vx, ev, rx⟩ := repF_some rf e2
      refine ⟨_, _, dx, gs, vx, rfl, eH, by rw [a1.k, hk]; exact T.cls, by rw [a1.k, hk]; exact T.noa f hf, ev, ?_⟩
      refine ⟨w1, env, a1.k.trans hk, rfl, a1.rs, n.after a1, (stx_wp (n.after a1) qx).imp fun y w2 a2 h2 u ru => ?_⟩
      have rx2 := a2.rep rx
      have n2 := (n.after a1).after a2
      obtain ⟨p, q, rfl, rfl, h3⟩ : ∃ p q : Int, x = .int p ∧ y = .int q ∧ Wp w2 ((stx (setFld C f o (.int (p + q))) env fun _ => pure (.nx env)) w2.st) (SFl W D') nov := by
        have h2 : Wp w2 ((stx (lift (dAddI x y)) env _) w2.st) (SFl W D') nov := h2
        cases x with
        | int p =>
          cases y with
          | int q => exact ⟨p, q, rfl, rfl, h2⟩
          | _ => exact h2.elim
        | _ => exact h2.elim
      simp only [Rep] at rx2 ru
      subst rx2 ru
      obtain ⟨j, fs2, dx2, gs2, ej, hl, e4, eH2, rf2, w3, aa, e3, p3⟩ := setFld_wp (d := .int (p + q)) (v := .int (p + q)) a2.rs (a2.rep rv) (by simp [Rep]) (stx_wp n2 h3)
      refine ⟨p, q, rfl, rfl, dx2, gs2, ?_, by rw [repF_len rf2]; exact hl, ?_⟩
      · have e5 := V.ref.inj e4
        rw [e5, a1.k]
        rw [a2.k, a1.k] at eH2
        exact eH2
      · have e5 := V.ref.inj e4
        rw [a2.k] at e3
        rw [e5, ← e3]
        exact Wp.ok_ (a := Fl.nx env) aa.rs p3 σ (n2.after aa)
/-! ### o.m(..) -/
def chkIns (C m : Str) (o : D) : M Unit := fun st => match insAt st C o with
  | some (_, fs) => if fs.lookup m = none then .ok () st else .bad
  | none => .bad
def eMeth (C m : Str) (F : List D → M D) (fo : Ev → M D) (fs : List (Ev → M D)) : Ev → M D := fun env => do
  let o ← fo env
  chkIns C m o
  let ds ← aSeq fs env
  F (o :: ds)
theorem chkIns_wp {w : Wd} {C m : Str} {o : D} {P : Unit → Wd → Prop} {V' : Str → Wd → Prop} (rs : RS w) (h : Wp w (chkIns C m o w.st) P V') : (∃ i fs, insAt w.st C o = some (i, fs) ∧ fs.lookup m = none) ∧ P () w := by
  unfold chkIns at h
  cases ei : insAt w.st C o with
  | none => rw [ei] at h; exact h.elim
  | some pr =>
    obtain ⟨i, fs⟩ := pr
    rw [ei] at h
    simp only at h
    split at h
    · rename_i hl
      exact ⟨⟨i, fs, rfl, hl⟩, Wp.ok_ rs h⟩
    · exact h.elim
structure MetM (P : Program) (w : World) (K : PySem.W.Frag) (mg : Str → Option Value) (base : Heap) (k : Nat) (C m : Str) (ps : List Str) (F : List D → M D) : Prop where
  ex : ∃ (g : Addr) (fd : FuncData), Cls K (He.ga K C) ∧ Meth K (He.ga K C) m g ∧ Binds K fd ps [] ∧ FnM P w K mg base k g fd ps F
theorem metm_zero {P : Program} {w : World} {K : PySem.W.Frag} {mg : Str → Option Value} {base : Heap} {C m : Str} {ps : List Str} {g : Addr} {fd : FuncData} (c : Cls K (He.ga K C)) (hm : Meth K (He.ga K C) m g) (hb : Binds K fd ps []) : MetM P w K mg base 0 C m ps (fun _ => M.stuck) :=
  ⟨g, fd, c, hm, hb, ⟨fun vs H Q E h => by obtain ⟨_, _, _, _, _, _, _, h⟩ := h; exact h.elim, fun A outer s H args us vs Q E _ _ _ _ _ h => by obtain ⟨_, _, _, _, _, _, _, h⟩ := h; exact h.elim⟩⟩
theorem dmeth {m : Str} {ps : List Str} {k : Nat} {F : List D → M D} {fs : List (Ev → M D)} {Wx : WX} {apos : Pos} {es : List Expr} {pl : Sem Bool} (MM : MetM X.prog X.w X.K X.mg X.base k C m ps F) (hgd : X.A.guards = some []) (hr : Room k X.A) (tk : L2N.Takes X Wx) (hW : W = wX X.K Wx) (ho : DE X W a fa) (ha : DA X W (e :: es) fs) (hl : fs.length + 1 = ps.length := by rfl)
    (hst : starEach (e :: es) X.env = (false, eval e X.env) :: starEach es X.env := by rfl) (hpl : (backTo pos (starEach es X.env)).any (·.1) = false := by rfl)
    (ht : eval (.Call (.Attribute a m apos) (e :: es) [] pos) X.env = (do
      let ov ← eval a X.env
      standAt apos.atName
      let (f, first) ← holding [ov] (getMethod ov m pl)
      callWith pos f first (backTo pos (starEach (e :: es) X.env)) (backToKw pos (keywordEach [] X.env))) := by rfl) :
    DE X W (.Call (.Attribute a m apos) (e :: es) [] pos) (eMeth C m F fa fs) := by
  obtain ⟨g, fd, cl, hm, hb, FN⟩ := MM.ex
  refine ⟨fun pins s σ H Q I h => ?_⟩
  obtain ⟨w, env, ek, rfl, r, n, h⟩ := h
  refine PySem.W.methodCall_KW (pl := pl) (thn (ho.run pins s σ w.H (fun x H1 => ∃ b dx gs, x = .ref b ∧ H1 b = some (.ins (He.ga X.K C) dx gs) ∧ gs.lookup m = none ∧ rdA X.K W (aSeq fs) σ H1 fun vs H2 => spM X.K ps.length F (.ref b :: vs) H2 Q (fun cls d H' => Wx cls d σ H')) I ⟨w, env, ek, rfl, r, n, (Wp.bind h).imp fun o w1 a1 h1 v rv => ?_⟩) fun u s1 z => ?_) ht
  · obtain ⟨⟨i, gs, ei, el⟩, h2⟩ := chkIns_wp a1.rs (Wp.bind h1)
    obtain ⟨dx, gs', rfl, eH, rf⟩ := ins_rep a1.rs rv ei
    refine ⟨_, dx, gs', rfl, by rw [← ek, ← a1.k]; exact eH, repF_none rf el, w1, env, a1.k.trans ek, rfl, a1.rs, n.after a1, (wp_seq (Wp.bind h2)).imp fun ds w2 a2 h3 vs rvs => ?_⟩
    refine ⟨w2, o :: ds, a2.k.trans (a1.k.trans ek), rfl, a2.rs, ?_, ?_, h3.2.mono (fun _ _ _ q => q) fun c w3 a3 q => ?_⟩
    · simp only [Reps]; exact ⟨_, vs, rfl, a2.rep rv, rvs⟩
    · rw [List.length_cons, h3.1]; exact hl
    · rw [hW] at q
      exact q
  · obtain ⟨x, H1, I1, rx, b, dx, gs, rfl, eb, eg, q⟩ := z
    obtain rfl : u = Value.ref b := rx
    refine getmeth_ok I1 eb cl hm eg ?_
    refine PySem.W.callWith_K (first := [.ref b]) (h₀ := X.base) I.ok.mod.kin hm.kp (thn (ha.run pos pins s1 σ H1 _ I1 q) fun us s2 z2 => ?_) hst hpl
    obtain ⟨vs, H2, I2, r2, q2⟩ := z2
    exact ⟨I2.kIn, run_fng (us := .ref b :: us) (vs := .ref b :: vs) FN hgd hr hb tk I2 (.cons rfl r2) q2⟩
theorem dmeth0 {m : Str} {ps : List Str} {k : Nat} {F : List D → M D} {Wx : WX} {apos : Pos} {pl : Sem Bool} (MM : MetM X.prog X.w X.K X.mg X.base k C m ps F) (hgd : X.A.guards = some []) (hr : Room k X.A) (tk : L2N.Takes X Wx) (hW : W = wX X.K Wx) (ho : DE X W a fa) (hl : 1 = ps.length := by rfl)
    (ht : eval (.Call (.Attribute a m apos) [] [] pos) X.env = (do
      let ov ← eval a X.env
      standAt apos.atName
      let (f, first) ← holding [ov] (getMethod ov m pl)
      callWith pos f first (backTo pos (starEach [] X.env)) (backToKw pos (keywordEach [] X.env))) := by rfl) :
    DE X W (.Call (.Attribute a m apos) [] [] pos) (eMeth C m F fa []) := by
  obtain ⟨g, fd, cl, hm, hb, FN⟩ := MM.ex
  refine ⟨fun pins s σ H Q I h => ?_⟩
  obtain ⟨w, env, ek, rfl, r, n, h⟩ := h
  refine PySem.W.methodCall_KW (pl := pl) (thn (ho.run pins s σ w.H (fun x H1 => ∃ b dx gs, x = .ref b ∧ H1 b = some (.ins (He.ga X.K C) dx gs) ∧ gs.lookup m = none ∧ spM X.K ps.length F [.ref b] H1 Q (fun cls d H' => Wx cls d σ H')) I ⟨w, env, ek, rfl, r, n, (Wp.bind h).imp fun o w1 a1 h1 v rv => ?_⟩) fun u s1 z => ?_) ht
  · obtain ⟨⟨i, gs, ei, el⟩, h2⟩ := chkIns_wp a1.rs (Wp.bind h1)
    obtain ⟨dx, gs', rfl, eH, rf⟩ := ins_rep a1.rs rv ei
    have h3 : Wp w1 (F [o] w1.st) (fun d w' => ∀ v, Rep w' d v → Q v w'.H) (fun c w' => W c σ w'.H) := Wp.ok_ (P := fun ds w1 => Wp w1 (F (o :: ds) w1.st) _ _) (a := ([] : List D)) a1.rs (Wp.bind h2)
    refine ⟨_, dx, gs', rfl, by rw [← ek, ← a1.k]; exact eH, repF_none rf el, w1, [o], a1.k.trans ek, rfl, a1.rs, ?_, by rw [← hl]; rfl, h3.mono (fun _ _ _ q => q) fun c w3 a3 q => ?_⟩
    · simp only [Reps]; exact ⟨_, [], rfl, rv, rfl⟩
    · rw [hW] at q
      exact q
  · obtain ⟨x, H1, I1, rx, b, dx, gs, rfl, eb, eg, q⟩ := z
    obtain rfl : u = Value.ref b := rx
    refine getmeth_ok I1 eb cl hm eg ?_
    exact PySem.W.callWith_K0 (first := [.ref b]) I1.kIn hm.kp (run_fng (us := [.ref b]) (vs := [.ref b]) FN hgd hr hb tk I1 (.cons rfl .nil) q)
/-! ### C(..) -/
def newIns (C : Str) (F : List D → M D) : List D → M D := fun ds st => match F (.cell st.length :: ds) (st ++ [.ins C []]) with
  | .ok .non st' => .ok (.cell st.length) st'
  | .err c st' => .err c st'
  | _ => .bad
structure MkM (P : Program) (w : World) (K : PySem.W.Frag) (mg : Str → Option Value) (base : Heap) (k : Nat) (C : Str) (ps : List Str) (F : List D → M D) : Prop where
  mg_ : mg C = some (.ref (He.ga K C))
  kp : PySem.W.keepIn K (.ref (He.ga K C)) = true
  ex : F = (fun _ => M.stuck) ∨ ∃ (j : Nat) (g : Addr) (fd : FuncData) (s0 : Str) (F0 : List D → M D), k = j + 1 ∧ Mk K (He.ga K C) g ∧ Binds K fd (s0 :: ps) [] ∧ FnM P w K mg base j g fd (s0 :: ps) F0 ∧ F = newIns C F0
theorem run_makeG {pins : List (Addr × Obj)} {σ : L2.St} {H : Hp} {s : Shared} {Q : VK} {us : List Value} {vs : List V} {sp : Sp} {Wx : WX} {k : Nat} {g cl : Addr} {fd : FuncData} {ps : List Str} (M : Mk X.K cl g) (F : FnG X.prog X.w X.K X.mg X.base k g fd ps sp) (hg : X.A.guards = some []) (hr : Room (k + 1) X.A) (hb : Binds X.K fd ps []) (tk : L2N.Takes X Wx)
    (I : Inv X pins σ H s) (r : Vals vs us) (h : ∀ x dx, H x = none → H dx = none → dx ≠ x → sp (.ref x :: vs) (upd (upd H dx (.own x)) x (.ins cl dx [])) (fun v H2 => v = .non ∧ Q (.ref x) H2) (fun cls d H' => Wx cls d σ H')) :
    wpAny (model X.prog X.w) X.A (call (.ref cl) us) (EP X pins σ Q) X.xe s := by
  have hq := h (s.heap.objs.size + 1) s.heap.objs.size (I.hok.fresh (Nat.le_succ _)) (I.hok.fresh (Nat.le_refl _)) (Nat.ne_of_lt (Nat.lt_succ_self _))
  have J := Inv.made (C := cl) I
  have rr : Vals (V.ref (s.heap.objs.size + 1) :: vs) (Value.ref (s.heap.objs.size + 1) :: us) := .cons rfl r
  have e1 : (Value.ref (s.heap.objs.size + 1) :: us).length = ps.length := rr.length.symm.trans (F.len _ _ _ _ hq)
  have e2 := hb _ (Value.ref (s.heap.objs.size + 1) :: us) J.kIn (by rw [List.append_nil]; exact e1)
  rw [List.append_nil] at e2
  refine wpAny_call (make_map (f := g) I.kIn M.makes M.init (beq_iff_eq.mp M.fn) (codeAny_mono (F.run _ X.stack _ _ ⟨Value.ref (s.heap.objs.size + 1) :: us, []⟩ _ _ _ _ hg (hr.make cl us []) (J.env0.make cl us []) e2 rr hq) ?_))
  intro res s' z
  cases res with
  | error ev => exact L2N.passAt tk σ pins _ _ ev s' J z
  | ok fl =>
    cases fl with
    | ret u =>
      obtain ⟨v, H', I3, rv, ev, q3⟩ := J.after z
      subst ev
      exact ⟨rv, V.ref (s.heap.objs.size + 1), H', I3, rfl, q3⟩
    | next => exact z.elim
    | brk => exact z.elim
    | cont => exact z.elim
theorem dmake {ps : List Str} {k : Nat} {F : List D → M D} {fs : List (Ev → M D)} {Wx : WX} {es : List Expr} (MM : MkM X.prog X.w X.K X.mg X.base k C ps F) (hgd : X.A.guards = some []) (hr : Room k X.A) (tk : L2N.Takes X Wx) (hW : W = wX X.K Wx) (hg : Gl X C) (ha : DA X W (e :: es) fs) (hl : fs.length = ps.length := by rfl)
    (hdb : (C == ("__debug__" : Str)) = false := by decide) (he : starEach (e :: es) X.env = (false, eval e X.env) :: starEach es X.env := by rfl) (hpl : (backTo pos (starEach es X.env)).any (·.1) = false := by rfl) : DE X W (.Call (.Name C p) (e :: es) [] pos) (eCall F fs) := by
  have hm := MM.mg_
  rcases MM.ex with rfl | ⟨j, g, fd, s0, F0, rfl, M, hb, FN, rfl⟩
  · refine ⟨fun pins s σ H Q I h => ?_⟩
    obtain ⟨w, env, ek, rfl, r, n, h⟩ := h
    have h1 := Wp.bind h
    refine wpAny_Call_Name_kw (ld_glob I hg hm ?_ hdb)
    refine PySem.W.callWith_K (h₀ := X.base) I.ok.mod.kin MM.kp (thn (ha.run pos pins s σ w.H (fun vs H1 => False) I ⟨w, env, ek, rfl, r, n, h1.imp fun ds w1 a1 h2 vs rv => h2.elim⟩) fun us s1 z => ?_) he hpl
    obtain ⟨_, _, _, _, z⟩ := z
    exact z.elim
  refine ⟨fun pins s σ H Q I h => ?_⟩
  obtain ⟨w, env, ek, rfl, r, n, h⟩ := h
  have h1 := wp_seq (Wp.bind h)
  refine wpAny_Call_Name_kw (ld_glob I hg hm ?_ hdb)
  refine PySem.W.callWith_K (h₀ := X.base) I.ok.mod.kin M.kp (thn (ha.run pos pins s σ w.H (fun vs H1 => ∀ x dx, H1 x = none → H1 dx = none → dx ≠ x → spM X.K (s0 :: ps).length F0 (.ref x :: vs) (upd (upd H1 dx (.own x)) x (.ins (He.ga X.K C) dx [])) (fun v H2 => v = .non ∧ Q (.ref x) H2) (fun cls d H' => Wx cls d σ H')) I ⟨w, env, ek, rfl, r, n, h1.imp fun ds w1 a1 h2 vs rv x dx hx hdx hne => ?_⟩) fun us s1 z => ?_) he hpl
  · have sm : Same w1.H (upd (upd w1.H dx (.own x)) x (.ins (He.ga X.K C) dx [])) := fun b u z => by
      rw [upd_ne (ne_of_none z hx), upd_ne (ne_of_none z hdx)]
      exact z
    have k1 := a1.k.trans ek
    have aa : Aft w1 ⟨w1.K, mpNew w1.m w1.st.length x, w1.st ++ [.ins C []], upd (upd w1.H dx (.own x)) x (.ins (He.ga X.K C) dx []), w1.rv⟩ := aft_cell (c := .ins C []) a1.rs sm hx ⟨dx, [], by rw [← k1]; exact upd_same, rfl⟩
    refine ⟨⟨w1.K, mpNew w1.m w1.st.length x, w1.st ++ [.ins C []], upd (upd w1.H dx (.own x)) x (.ins (He.ga X.K C) dx []), w1.rv⟩, .cell w1.st.length :: ds, k1, rfl, aa.rs, ?_, by rw [List.length_cons, List.length_cons, h2.1, hl], ?_⟩
    · simp only [Reps]
      refine ⟨_, vs, rfl, ?_, aa.reps rv⟩
      simp only [Rep]
      exact ⟨by rw [mpNew_new], by simp⟩
    · have h3 := h2.2
      unfold newIns at h3
      show Wp _ (F0 (.cell w1.st.length :: ds) (w1.st ++ [.ins C []])) _ _
      cases eF : F0 (.cell w1.st.length :: ds) (w1.st ++ [.ins C []]) with
      | bad => rw [eF] at h3; exact h3.elim
      | err c st' =>
        rw [eF] at h3
        intro w' b' e'
        have z := h3 w' (aa.trans b') e'
        rw [hW] at z
        exact z
      | ok d st' =>
        rw [eF] at h3
        cases d with
        | non =>
          intro w' b' e' v rv'
          simp only [Rep] at rv'
          refine ⟨rv', h3 w' (aa.trans b') e' (.ref x) ?_⟩
          simp only [Rep]
          have hn : w1.st.length < (w1.st ++ [Cell.ins C []]).length := by simp
          refine ⟨?_, Nat.lt_of_lt_of_le hn b'.len⟩
          rw [b'.ext _ hn]
          show V.ref x = .ref (mpNew w1.m w1.st.length x w1.st.length)
          rw [mpNew_new]
        | _ => exact h3.elim
  · obtain ⟨vs, H1, I1, r1, q1⟩ := z
    exact ⟨I1.kIn, run_makeG M FN hgd hr hb tk I1 r1 q1⟩
end
end G
end

section
set_option Elab.async false
set_option linter.all false
set_option maxRecDepth 100000
set_option maxHeartbeats 2000000
namespace G
open PySem PySem.Spec PyProof.Rows L2
/-! ## join -/
def strs? : List D → Option (List Str)
  | [] => some []
  | .str z :: l => (strs? l).map (z :: ·)
  | _ => none
theorem strs_is : ∀ {l : List D} {ys : List Str}, strs? l = some ys → l = ys.map D.str
  | [], ys, h => by cases h; rfl
  | d :: l, ys, h => by
    cases d with
    | str z =>
      simp only [strs?] at h
      cases q : strs? l with
      | none => rw [q] at h; cases h
      | some zs => rw [q] at h; cases h; rw [strs_is q]; rfl
    | _ => cases h
theorem strs_map : ∀ ys : List Str, strs? (ys.map D.str) = some ys
  | [] => rfl
  | y :: ys => by simp only [List.map_cons, strs?, strs_map ys, Option.map_some]
theorem reps_strs_inv {w : Wd} : ∀ {ys : List Str} {vs : List V}, Reps w (ys.map D.str) vs → vs = ys.map V.str
  | [], vs, h => by simpa only [List.map_nil, Reps] using h
  | y :: ys, vs, h => by
    simp only [List.map_cons, Reps, Rep] at h
    obtain ⟨x, xs, rfl, rfl, r⟩ := h
    rw [reps_strs_inv r]; rfl
def dJoin : D → D → Store → Option D := fun a b _ => match a, b with
  | .str s, .lst l => match strs? l with
    | some ys => if (ys.map (·.length)).sum + ys.length * s.length ≤ 16777216 then some (.str (Txt.join s ys)) else none
    | none => none
  | _, _ => none
def eJoin (fa fb : Ev → M D) : Ev → M D := fun env => do
  let d ← fa env
  let z ← asS d
  let y ← fb env
  lift (dJoin (.str z) y)
section
variable {X : Cx} {W : XW} {e a b c : Expr} {pos : Pos} {fa fb fc : Ev → M D}
theorem de_join {apos : Pos} (ha : DE X W a fa) (hb : DE X W b fb) (hs : starEach [b] X.env = [(false, eval b X.env)] := by rfl) (hbase : attributeBase a "join" X.env (eval a X.env) = eval a X.env := by rfl) (hline : (apos.endLine == pos.line) = true := by rfl) :
    DE X W (.Call (.Attribute a "join" apos) [b] [] pos) (eJoin fa fb) := PE.imp' (pe_join ha hb hs hbase hline) fun σ H Q h => by
  obtain ⟨w, env, hk, rfl, r, n, h⟩ := h
  refine ⟨w, env, hk, rfl, r, n, (Wp.bind h).imp fun x w1 a1 h1 v rv => ?_⟩
  obtain ⟨z, rfl, h2⟩ := asS_wp a1.rs (Wp.bind h1)
  simp only [Rep] at rv
  refine ⟨⟨z, rv⟩, w1, env, a1.k.trans hk, rfl, a1.rs, n.after a1, (Wp.bind h2).imp fun y w2 a2 h3 u ru => ?_⟩
  have q := Wq.of h3
  obtain ⟨d, e⟩ := wq_some q
  have e0 := e
  unfold dJoin at e
  split at e
  · rename_i s l es
    cases es
    split at e
    · rename_i ys el
      split at e
      · rename_i hc
        cases strs_is el
        simp only [Rep] at ru
        obtain ⟨p, xs, rfl, fp, rr, _⟩ := ru
        cases reps_strs_inv rr
        exact ⟨z, p, ys, rv, rfl, .inl (SqL.of fp.1.1), hc, q.here a2.rs (e0.trans e.symm) (rep_str _)⟩
      · cases e
    · cases e
  · cases e
/-! ## str of a number, of a text -/
def dStr2 : List D → Store → Option D
  | [.int i], _ => if i.natAbs.log2 < 1920 then some (.str (toString i)) else none
  | [.str z], _ => some (.str z)
  | _, _ => none
theorem cd_str2 : CallD X (.type "str") dStr2 := CallR.imp' (call_str_int.or SkE.call_str_str) fun xs H Q h => by
  obtain ⟨w, ds, hk, rfl, rs, rd, q⟩ := h
  obtain ⟨d, e⟩ := wq_some q
  unfold dStr2 at e
  split at e
  · rename_i i
    obtain ⟨v, rfl, r⟩ := reps1 rd
    simp only [Rep] at r
    split at e
    · rename_i hc
      exact .inl ⟨i, by rw [r], hc, q.here rs (if_pos hc) (rep_str _)⟩
    · cases e
  · rename_i z
    obtain ⟨v, rfl, r⟩ := reps1 rd
    simp only [Rep] at r
    exact .inr ⟨z, by rw [r], q.here rs rfl (rep_str _)⟩
  · cases e
/-! ## is not True -/
def dNotB : D → D → Store → Option D
  | .bl x, .bl y, _ => some (.bl (!decide (x = y)))
  | _, _, _ => none
theorem od_notB : OpD X (compareOp .IsNot) dNotB := OpR.imp' op_notBl fun x y H Q h => by
  obtain ⟨w, a, b, hk, rfl, rs, ra, rb, q⟩ := h
  obtain ⟨d, e⟩ := wq_some q
  unfold dNotB at e
  split at e
  · rename_i p r
    simp only [Rep] at ra rb
    exact ⟨p, r, ra, rb, q.here rs rfl (rep_bl _)⟩
  · cases e
/-! ## a list's cell: turned round, with another list behind -/
def dRevC : D → Store → Option D := fun d st => match d with
  | .cell c => (cellL st c).map fun l => .lst l.reverse
  | _ => none
theorem de_revC {k : Nat} {p1 p2 p3 : Pos} (ha : DE X W a fa) : DE X W (.Subscript a (.Slice none none (some (.UnaryOp .USub (.Constant (.int 1) k p1) p2)) p3) pos) (eUn dRevC fa) := PE.imp' (pe_revL ha) fun σ H Q h => by
  obtain ⟨w, env, hk, rfl, r, n, h⟩ := h
  refine ⟨w, env, hk, rfl, r, n, (Wp.bind h).imp fun x w1 a1 h1 v rv => ?_⟩
  have q := Wq.of h1
  obtain ⟨d, e⟩ := wq_some q
  have e0 := e
  unfold dRevC at e
  split at e
  · rename_i c
    cases ec : cellL w1.st c with
    | none => rw [ec] at e; cases e
    | some l =>
      rw [ec] at e
      obtain ⟨xs, sq, rr, hl⟩ := cell_sq a1.rs ec
      simp only [Rep] at rv
      show ∃ a xs, _ ∧ _ ∧ _
      refine ⟨_, xs, rv.1, by rw [← hk, ← a1.k]; exact sq, fun p hp => q.new a1.rs hp (e0.trans e.symm) (rep_new a1.rs hp (reps_rev rr) (by rw [List.length_reverse]; exact hl))⟩
  · cases e
def dAddC : D → D → Store → Option D := fun a b st => match a, b with
  | .cell c, .lst r => match st[c]? with
    | some (.lst l) => if l.length + r.length ≤ sizeLine then some (.lst (l ++ r)) else none
    | _ => none
  | _, _ => none
theorem od_addC : OpD X (binaryOp .Add) dAddC := OpR.imp' op_cat fun x y H Q h => by
  obtain ⟨w, a, b, hk, rfl, rs, ra, rb, q⟩ := h
  obtain ⟨d, e⟩ := wq_some q
  have e0 := e
  unfold dAddC at e
  split at e
  · rename_i c es
    split at e
    · rename_i l el
      split at e
      · rename_i hc
        obtain ⟨xs, e1, r1, _⟩ := rs.cells c _ el
        simp only [Rep] at ra rb
        obtain ⟨b, ys, rfl, s2, r2, l2⟩ := rb
        exact ⟨_, b, xs, ys, ra.1, rfl, e1, s2.1.1, by rw [reps_len r1, reps_len r2]; exact hc, fun p hp => q.new rs hp (e0.trans e.symm) (rep_new rs hp (reps_app r1 r2) (by rw [List.length_append]; exact hc))⟩
      · cases e
    · cases e
  · cases e
end
end G
end

section
set_option Elab.async false
set_option linter.all false
set_option maxRecDepth 100000
set_option maxHeartbeats 2000000
namespace G
open PySem PySem.Spec PyProof.Rows L2
/-! ## d.update(d2) -/
def rDUpd : V → List V → Hp → VK → Prop := fun x vs H Q => ∃ (a b : Addr) (kvs more : List (Key × V)), x = .ref a ∧ vs = [.ref b] ∧ a ≠ b ∧ H a = some (.dK kvs) ∧ H b = some (.dK more) ∧ kvs.length + more.length ≤ sizeLine ∧ Q .non (upd H a (.dK (mergeK kvs more)))
theorem mt_dupd {X : Cx} : MtR X "dict.update" rDUpd := by
  intro pins s σ H x vs v us Q I rx rv h
  obtain ⟨a, b, kvs, more, rfl, rfl, hne, ea, eb, hz, q⟩ := h
  obtain rfl : v = Value.ref a := rx
  obtain ⟨u, rfl, ru⟩ := vals1 rv
  obtain rfl : u = Value.ref b := ru
  obtain ⟨z1, hd1, w1, k1, d1⟩ := dk_of I.hok ea
  obtain ⟨z2, hd2, w2, k2, d2⟩ := dk_of I.hok eb
  refine call_meetsIn PySem.F.slot_dict_update d1.typeIs PySem.F.entry_dict_update (PySem.F.args_dict_update_2 _ _) (meets_dict_update (mixKind X.prog X.w) a b hne hd2) ⟨w1, w2, d1, d2, by rw [← k1.length, ← k2.length]; exact hz, fun h' m1 m2 sb => ?_⟩
  have he : ∃ o, h'.get? a = some o := let ⟨o, _, _, ho, _⟩ := m1; ⟨o, ho⟩
  have hl := length_mergeK more kvs
  exact ⟨.non, _, d_write (t' := s.toks) I (by rw [ea]; exact True.intro) sb he (dk_new (by omega) hd1 (KV.merge k2 k1) m1), rfl, q⟩
def mergeD (kvs more : List (Key × D)) : List (Key × D) := more.foldl (fun acc kv => putD acc kv.1 kv.2) kvs
theorem repK_merge {w : Wd} : ∀ {more : List (Key × D)} {mv : List (Key × V)} {l : List (Key × D)} {kvs : List (Key × V)}, RepK w more mv → RepK w l kvs → RepK w (mergeD l more) (mergeK kvs mv)
  | [], mv, l, kvs, h, r => by simp only [RepK] at h; subst h; exact r
  | (k1, d1) :: more, mv, l, kvs, h, r => by
    obtain ⟨⟨k2, v2⟩, ys, rfl, e1, r1, rs⟩ := h
    have e1 : k2 = k1 := e1
    subst e1
    exact repK_merge (l := putD l k2 d1) (kvs := putK kvs k2 v2) rs (repK_put r r1)
def dctAt (st : Store) : D → Option (Nat × List (Key × D))
  | .cell i => match st[i]? with
    | some (.dct l) => some (i, l)
    | _ => none
  | _ => none
theorem dctAt_is {st : Store} {d : D} {i : Nat} {l : List (Key × D)} (h : dctAt st d = some (i, l)) : d = .cell i ∧ st[i]? = some (.dct l) := by
  unfold dctAt at h
  split at h
  · split at h
    · cases h; exact ⟨rfl, by assumption⟩
    · cases h
  · cases h
def chkDct (o : D) : M Unit := fun st => match dctAt st o with
  | some _ => .ok () st
  | none => .bad
def updDct (o d : D) : M D := fun st => match dctAt st o, dctAt st d with
  | some (i, l), some (j, m) => if i ≠ j ∧ l.length + m.length ≤ 1000 then .ok .non (st.set i (.dct (mergeD l m))) else .bad
  | _, _ => .bad
def eDUpd (fa fb : Ev → M D) : Ev → M D := fun env => do
  let o ← fa env
  chkDct o
  let d ← fb env
  updDct o d
section
variable {X : Cx} {W : XW} {e a b c : Expr} {pos : Pos} {fa fb fc : Ev → M D}
theorem de_dupd {apos : Pos} (ho : DE X W a fa) (hb : DE X W b fb) (hbase : attributeBase a "update" X.env (eval a X.env) = eval a X.env := by rfl)
    (hfew : ((backTo pos (starEach [b] X.env)).all (fun x => !x.1) && (backToKw pos (keywordEach [] X.env)).all (fun x => x.1.isSome) && decide ([b].length + ([] : List Keyword).length + (if ([] : List Keyword).isEmpty then 0 else 1) < 30)) = true := by rfl)
    (hline : (apos.endLine == pos.line) = true := by rfl) (hs : starEach [b] X.env = (false, eval b X.env) :: starEach [] X.env := by rfl) (hplain : (backTo pos (starEach [] X.env)).any (·.1) = false := by rfl) :
    DE X W (.Call (.Attribute a "update" apos) [b] [] pos) (eDUpd fa fb) := PE.imp' (pe_bm PySem.F.plainAttrs_dict PySem.F.slot_dict_update PySem.F.type_dict_update mt_dupd ho (pa_cons hb pa_nil hs) hbase hfew hline hs hplain) fun σ H Q h => by
  obtain ⟨w, env, hk, rfl, r, n, h⟩ := h
  refine ⟨w, env, hk, rfl, r, n, (Wp.bind h).imp fun x w1 a1 h1 v rv => ?_⟩
  have h1 := Wp.bind h1
  unfold chkDct at h1
  cases ed : dctAt w1.st x with
  | none => rw [ed] at h1; exact h1.elim
  | some pr =>
    obtain ⟨i, l⟩ := pr
    rw [ed] at h1
    have h2 := Wp.ok_ (a := ()) a1.rs h1
    obtain ⟨rfl, el⟩ := dctAt_is ed
    obtain ⟨kvs, e1, r1⟩ := a1.rs.cells i _ el
    have rv0 := rv
    simp only [Rep] at rv
    refine ⟨by rw [rv.1]; exact .inr (.inr (.inl ⟨rfl, .inl ⟨kvs, e1⟩⟩)), w1, env, a1.k.trans hk, rfl, a1.rs, n.after a1, (Wp.bind h2).imp fun y w2 a2 h3 u ru => ?_⟩
    unfold updDct at h3
    cases e2 : dctAt w2.st (.cell i) with
    | none => rw [e2] at h3; exact h3.elim
    | some p2 =>
      obtain ⟨i2, l2⟩ := p2
      cases e3 : dctAt w2.st y with
      | none => rw [e2, e3] at h3; exact h3.elim
      | some p3 =>
        obtain ⟨j, m⟩ := p3
        rw [e2, e3] at h3
        simp only at h3
        split at h3
        · rename_i hc
          obtain ⟨ei, el2⟩ := dctAt_is e2
          obtain ⟨rfl, el3⟩ := dctAt_is e3
          cases ei
          obtain ⟨kv2, f1, q1⟩ := a2.rs.cells i _ el2
          obtain ⟨kv3, f2, q2⟩ := a2.rs.cells j _ el3
          have rv2 := a2.rep rv0
          simp only [Rep] at rv2 ru
          have hne : w2.m i ≠ w2.m j := fun z => hc.1 (a2.rs.inj i j _ _ el2 el3 trivial trivial z)
          have up : ∀ b q, b ≠ w2.m i → w2.H b = some q → upd w2.H (w2.m i) (.dK (mergeK kv2 kv3)) b = some q := fun b q hb z => by rw [upd_ne hb]; exact z
          have bb : Bears w2 ⟨w2.K, w2.m, w2.st.set i (.dct (mergeD l2 m)), upd w2.H (w2.m i) (.dK (mergeK kv2 kv3)), w2.rv⟩ := bears_set (c := .dct (mergeD l2 m)) (c0 := .dct l2) a2.rs el2 trivial up
          have aa : Aft w2 ⟨w2.K, w2.m, w2.st.set i (.dct (mergeD l2 m)), upd w2.H (w2.m i) (.dK (mergeK kv2 kv3)), w2.rv⟩ := aft_set (c0 := .dct l2) a2.rs el2 trivial up ⟨_, upd_same, repK_merge (bb.repK _ _ q2) (bb.repK _ _ q1)⟩
          refine ⟨_, _, kv2, kv3, rv2.1, by rw [ru.1], hne, f1, f2, ?_, ?_⟩
          · have := repK_len q1; have := repK_len q2
            have : sizeLine = 16777216 := by decide
            omega
          · exact h3 _ aa rfl _ rep_non
        · exact h3.elim
end
end G
end

section
set_option Elab.async false
set_option linter.all false
set_option maxRecDepth 100000
set_option maxHeartbeats 2000000
namespace G
open PySem PySem.Spec PyProof.Rows L2
/-! ## zip of a text and a tuple -/
def IzST (K : PySem.W.Frag) (x : Str) (b : Addr) : It :=
  ⟨fun i H => ∃ (ys : List V) (y : V), SqT K H b ys ∧ i < x.cps.size ∧ ys[i]? = some y,
    fun i H v H' => ∃ T c y, v = .ref T ∧ H T = none ∧ H' = upd H T (.tup [.str ⟨#[c]⟩, y]) ∧ x.cps[i]? = some c ∧ ∀ ys, SqT K H b ys → ys[i]? = some y,
    fun i H => ∃ ys : List V, SqT K H b ys ∧ i ≤ x.cps.size ∧ i ≤ ys.length ∧ (i = x.cps.size ∨ i = ys.length)⟩
theorem turn_zipST {P : Program} {w : World} {K : PySem.W.Frag} {elts : List Expr} {kk : Nat} {tpos : Pos} {x : Str} {t : Tok} {b z TI TO i1 i2 : Addr} (S : ZipSep2 z TI TO i1 i2 [i1] [i2, b]) :
    Turn P w K (.Tuple elts kk tpos) (IzST K x b) [z, TI, TO, i1, i2] z (fun i h => IsZip h z TI TO .none ∧ IsTupOf2 h TI (.ref i1) (.ref i2) ∧ (∃ p q, IsTupOf2 h TO p q) ∧ h.IsStrIter i1 (strIterType x) x t i ∧ h.IsTupleIter i2 b i) where
  mem := by simp
  obj := fun i h st c hc => by
    obtain ⟨hz, hTI, ⟨p, q, hTO⟩, ⟨o1, e1, _, d1⟩, ⟨o2, e2, _, d2⟩⟩ := st
    have e' : c = z ∨ c = TI ∨ c = TO ∨ c = i1 ∨ c = i2 := by simpa using hc
    rcases e' with rfl | rfl | rfl | rfl | rfl
    · exact ⟨_, hz, fun v q => nomatch q⟩
    · exact ⟨_, hTI, fun v q => nomatch q⟩
    · exact ⟨_, hTO, fun v q => nomatch q⟩
    · exact ⟨o1, e1, fun v q => by rw [d1] at q; cases q⟩
    · exact ⟨o2, e2, fun v q => by rw [d2] at q; cases q⟩
  keep := fun i h h' st k => by
    obtain ⟨hz, hTI, ⟨p, q, hTO⟩, ⟨o1, e1, r1⟩, h2⟩ := st
    exact ⟨k z (by simp) _ hz, k TI (by simp) _ hTI, ⟨p, q, k TO (by simp) _ hTO⟩, ⟨o1, k i1 (by simp) _ e1, r1⟩, h2.at fun o q => k i2 (by simp) o q⟩
  item := by
    intro X hP hw hK hc i pins s σ H E I hf st hg
    subst hP hw hK
    obtain ⟨hz, hTI, ⟨p0, q0, hTO⟩, h1, h2⟩ := st
    obtain ⟨ys, y, hq, hx, hy⟩ := hg
    obtain ⟨its, rv, pT, _⟩ := I.tuple hq
    obtain ⟨u, hu, ru⟩ := rv.get hy
    have pT : s.heap.IsTuple b its.toArray := pT
    have hzl : z < s.heap.objs.size := Heap.lt_size hz
    have hbi : b ≠ i2 := fun q => by
      obtain ⟨o1, g1, c1, _⟩ := h2
      obtain ⟨o2, g2, c2, _⟩ := pT
      rw [q, g1] at g2
      cases g2
      rw [c1] at c2
      exact absurd (Value.type.inj c2) (by decide)
    have D1 := Draws.text (prog := X.prog) (w := X.w) (A := X.A.in1) (I.ok.hd hc) i1 x t
    have D2 := Draws.tuple (prog := X.prog) (w := X.w) (A := X.A.in1) (I.ok.hd hc) i2 b hbi its.toArray
    refine wpAny_pyNext_zipD2_item S D1 D2 hz hTI hTO h1 ⟨h2, pT⟩ hx (by have := (List.getElem?_eq_some_iff.mp hu).1; simpa using this) fun v1 v2 h' tk p1 p2 z' TO' k1 k2 hT hsz hk => ?_
    obtain ⟨c, tc, hcx, rfl⟩ := p1
    have ex : v2 = u := by
      have g1 : its.toArray[i]? = some v2 := p2
      have g2 : its.toArray[i]? = some u := by simpa using hu
      rw [g1] at g2
      cases g2; rfl
    subst ex
    refine ⟨_, rfl, wpAny_letOwnedTupleGo_zip (s := { s with heap := h', toks := tk }) z' fun h'' z'' sb => ?_⟩
    have hT2 : h''.get? s.heap.objs.size = some { cls := .type "tuple", data := .seq #[.str ⟨#[c]⟩ tc, v2] } := (sb.2 _ (Nat.ne_of_gt hzl)).trans hT
    have new : ObjOk X.prog X.w (upd H s.heap.objs.size (.tup [.str ⟨#[c]⟩, y])) h'' s.heap.objs.size (.tup [.str ⟨#[c]⟩, y]) :=
      ⟨by show 2 ≤ sizeLine; decide, [.str ⟨#[c]⟩ tc, v2], .cons ⟨_, rfl⟩ (.cons ru .nil), ⟨_, hT2, rfl, _, rfl⟩⟩
    have far : ∀ d o, d ∉ [z, TI, TO, i1, i2] → s.heap.get? d = some o → h''.get? d = some o := fun d o hd q =>
      (sb.2 d (fun e => hd (by simp [e]))).trans (hk d o (fun e => hd (by simp [e])) (fun e => hd (by simp [e])) (fun e => hd (by simp [e])) (fun e => hd (by simp [e])) q)
    have I1 : Inv X pins σ (upd H s.heap.objs.size (.tup [.str ⟨#[c]⟩, y])) { s with heap := h'', toks := tk } := I.turnedNew (ch := [z, TI, TO, i1, i2]) far hf (Nat.le_refl _) new
    refine ⟨.ref s.heap.objs.size, _, I1, rfl, ⟨_, c, y, rfl, I.hok.fresh (Nat.le_refl _), rfl, hcx, fun l hl => by rw [I.tuple_inj hl hq]; exact hy⟩, ⟨z'', ?_, ⟨.str ⟨#[c]⟩ tc, v2, ?_⟩, ?_, ?_⟩, fun d hd => ?_⟩
    · exact (sb.2 _ S.TIz).trans (hk _ _ S.TIz S.TITO S.TIi1 S.TIi2 hTI)
    · exact (sb.2 _ S.TOz).trans TO'
    · obtain ⟨o1, g1, r1⟩ := k1
      exact ⟨o1, (sb.2 _ (Ne.symm S.zi1)).trans g1, r1⟩
    · exact k2.1.at fun o q => (sb.2 _ (Ne.symm S.zi2)).trans q
    · have hlt : d < s.heap.objs.size := by
        have e' : d = z ∨ d = TI ∨ d = TO ∨ d = i1 ∨ d = i2 := by simpa using hd
        rcases e' with rfl | rfl | rfl | rfl | rfl
        · exact hzl
        · exact Heap.lt_size hTI
        · exact Heap.lt_size hTO
        · obtain ⟨_, e1, _⟩ := h1; exact Heap.lt_size e1
        · obtain ⟨_, e2, _⟩ := h2; exact Heap.lt_size e2
      rw [upd_ne (Nat.ne_of_lt hlt)]
      exact (hf d hd).1
  done := by
    intro X hP hw hK hc i pins s σ H E I hf st hg
    subst hP hw hK
    obtain ⟨hz, hTI, ⟨p0, q0, hTO⟩, h1, h2⟩ := st
    obtain ⟨ys, hq, l1, l2, hend⟩ := hg
    obtain ⟨its, rv, pT, _⟩ := I.tuple hq
    have pT : s.heap.IsTuple b its.toArray := pT
    have lv := rv.length
    have hbi : b ≠ i2 := fun q => by
      obtain ⟨o1, g1, c1, _⟩ := h2
      obtain ⟨o2, g2, c2, _⟩ := pT
      rw [q, g1] at g2
      cases g2
      rw [c1] at c2
      exact absurd (Value.type.inj c2) (by decide)
    have D1 := Draws.text (prog := X.prog) (w := X.w) (A := X.A.in1) (I.ok.hd hc) i1 x t
    have D2 := Draws.tuple (prog := X.prog) (w := X.w) (A := X.A.in1) (I.ok.hd hc) i2 b hbi its.toArray
    refine wpAny_pyNext_zipD2_end S D1 D2 hz hTI hTO h1 ⟨h2, pT⟩ l1 (by simp; omega) (by rcases hend with e | e; exact .inl e; exact .inr (by simp; omega)) fun h' tk hk => ⟨rfl, ?_⟩
    exact I.turnedL (t' := tk) (ch := [z, TI, TO, i1, i2]) (fun d o hd q => hk d o (fun e => hd (by simp [e])) (fun e => hd (by simp [e])) (fun e => hd (by simp [e])) (fun e => hd (by simp [e])) q) hf
  self := fun A i s Q E st h => wpAny_pyIter_zip st.1 h
def iZipST (K : PySem.W.Frag) (ta : TA) : TI := fun σ H R => ta σ H fun vs H1 => ∃ (x : Str) (b : Addr) (ys : List V), vs = [.str x, .ref b] ∧ SqT K H1 b ys ∧ R (IzST K x b) H1
theorem pi_zipST {X : Cx} {e e2 : Expr} {ta : TA} {p pos tpos : Pos} {elts : List Expr} {kk : Nat} (hg : Gl X "zip") (hm : X.mg "zip" = none) (ha : PA X [e, e2] ta)
    (hs : starEach [e, e2] X.env = (false, eval e X.env) :: starEach [e2] X.env := by rfl) (hpl : (backTo pos (starEach [e2] X.env)).any (·.1) = false := by rfl) :
    PI X (.Tuple elts kk tpos) (.Call (.Name "zip" p) [e, e2] [] pos) (iZipST X.K ta) := by
  refine ⟨fun pins s σ H R I h => ?_⟩
  refine Call_ (ld_blt I hg hm PyProof.Rows.boot_zip (PyProof.Rows.callWith_type1 (thn (ha.run pos pins s σ H _ I h) fun us s1 ⟨vs, H1, I1, r1, q1⟩ => ?_) hs hpl))
  obtain ⟨x, b, ys, rfl, hq, q⟩ := q1
  obtain ⟨u1, u2, rfl, ru1, ru2⟩ := vals2 r1
  obtain ⟨t, rfl⟩ := ru1
  obtain rfl : u2 = Value.ref b := ru2
  obtain ⟨its, rv, pT, _⟩ := I1.tuple hq
  have pT : s1.heap.IsTuple b its.toArray := pT
  have hbl : b < s1.heap.objs.size := by obtain ⟨o, ho, _⟩ := pT; exact Heap.lt_size ho
  refine zip_begins2 (begins_text x t) (begins_tuple b its.toArray) trivial pT fun h' hz hTI hTO g1 g2 hsz hk => wpAny_pyIter_zip hz ?_
  have I2 : Inv X pins σ H1 { s1 with heap := h' } := I1.kept (t' := s1.toks) hk
  have S : ZipSep2 (s1.heap.objs.size + 4) (s1.heap.objs.size + 2) (s1.heap.objs.size + 3) s1.heap.objs.size (s1.heap.objs.size + 1) [s1.heap.objs.size] [s1.heap.objs.size + 1, b] := zip_sep2 (fp1 := []) (fp2 := [b]) (by simp) (by simpa using hbl)
  refine ⟨s1.heap.objs.size + 4, [s1.heap.objs.size + 4, s1.heap.objs.size + 2, s1.heap.objs.size + 3, s1.heap.objs.size, s1.heap.objs.size + 1], _, _, H1, rfl, I2, turn_zipST (t := t) S, ⟨hz, hTI, ⟨_, _, hTO⟩, ⟨_, g1, rfl, rfl⟩, ⟨_, g2, rfl, rfl⟩⟩, fun d hd => ?_, q⟩
  have e' : d = s1.heap.objs.size + 4 ∨ d = s1.heap.objs.size + 2 ∨ d = s1.heap.objs.size + 3 ∨ d = s1.heap.objs.size ∨ d = s1.heap.objs.size + 1 := by simpa using hd
  have hle : s1.heap.objs.size ≤ d := by
    rcases e' with e | e | e | e | e <;> rw [e] <;> first | exact Nat.le_add_right _ _ | exact Nat.le_refl _
  exact I1.fpOk hle (I1.hok.fresh hle)
/-! ## its reading -/
def zipD (z : Str) (l : List D) : List D := ((chars z).zip l).map fun p => .tup [p.1, p.2]
def iZip (fa fb : Ev → M D) : Ev → M (List D) := fun env => do
  let d ← fa env
  let e ← fb env
  let z ← asS d
  let l ← itemsT e
  if z.length ≤ sizeLine then pure (zipD z l) else M.stuck
theorem walks_zipST {w : Wd} {z : Str} {b : Addr} {l : List D} (hz : z.length ≤ sizeLine) (r : Rep w (.tup l) (.ref b)) : Walks w (IzST w.K z b) (zipD z l) where
  step := fun w' hk rs bb i d e => by
    have r' := bb.rep _ _ r
    simp only [Rep] at r'
    obtain ⟨a', xs, ea, s, rr, _⟩ := r'
    cases ea
    unfold zipD at e
    rw [List.getElem?_map] at e
    cases q : ((chars z).zip l)[i]? with
    | none => rw [q] at e; cases e
    | some p =>
      rw [q] at e
      cases e
      obtain ⟨q1, q2⟩ := List.getElem?_zip_eq_some.mp q
      unfold chars at q1
      rw [List.getElem?_map] at q1
      cases qc : z.cps.toList[i]? with
      | none => rw [qc] at q1; cases q1
      | some c =>
        rw [qc] at q1
        have e1 : p.1 = .str ⟨#[c]⟩ := (Option.some.inj q1).symm
        have hi : i < z.cps.size := by
          have := (List.getElem?_eq_some_iff.mp qc).1
          simpa using this
        obtain ⟨x0, ex, rx⟩ := reps_at rr q2
        have sl : SqT w.K w'.H b xs := by rw [← hk]; exact s
        refine ⟨⟨xs, x0, sl, hi, ex⟩, fun y H' hy => ?_⟩
        obtain ⟨T, c', x1, rfl, hT, rfl, hc', hx⟩ := hy
        have e2 := hx xs sl
        rw [ex] at e2
        cases e2
        have e3 : c' = c := by
          rw [Array.getElem?_toList] at qc
          rw [hc'] at qc
          cases qc
          rfl
        subst e3
        refine ⟨⟨w'.K, w'.m, w'.st, upd w'.H T (.tup [.str ⟨#[c']⟩, x0]), w'.rv⟩, aft_new (K := w'.K) (m := w'.m) (st := w'.st) (H := w'.H) (rv := w'.rv) rs hT, rfl, rfl, rfl, ?_⟩
        refine rep_newT rs hT ?_ (Nat.le_of_ble_eq_true rfl)
        simp only [Reps]
        exact ⟨_, _, rfl, by rw [e1]; simp [Rep], _, _, rfl, rx, rfl⟩
  stop := fun w' hk rs bb => by
    have r' := bb.rep _ _ r
    simp only [Rep] at r'
    obtain ⟨a', xs, ea, s, rr, _⟩ := r'
    cases ea
    refine ⟨xs, by rw [← hk]; exact s, ?_⟩
    have e1 : (zipD z l).length = min z.cps.size l.length := by unfold zipD chars; simp
    have e2 := reps_len rr
    rw [e1, e2]
    omega
  len := by
    simp only [Rep] at r
    obtain ⟨_, _, _, _, _, h⟩ := r
    have e1 : (zipD z l).length = min z.cps.size l.length := by unfold zipD chars; simp
    rw [e1]
    omega
section
variable {X : Cx} {W : XW} {a b : Expr} {pos p : Pos} {fa fb : Ev → M D}
theorem di_zipST {elts : List Expr} {kk : Nat} {tpos : Pos} (hg : Gl X "zip") (hm : X.mg "zip" = none) (ha : DE X W a fa) (hb : DE X W b fb) (hs2 : starEach [b] X.env = (false, eval b X.env) :: starEach [] X.env := by rfl)
    (hs : starEach [a, b] X.env = (false, eval a X.env) :: starEach [b] X.env := by rfl) (hpl : (backTo pos (starEach [b] X.env)).any (·.1) = false := by rfl) : DI X W (.Tuple elts kk tpos) (.Call (.Name "zip" p) [a, b] [] pos) (iZip fa fb) := by
  refine PI.imp' (pi_zipST hg hm (pa_cons (es := [b]) ha (pa_cons (es := []) hb pa_nil hs2) hs) hs hpl) fun σ H R h => ?_
  obtain ⟨w, env, hk, rfl, r, n, h⟩ := h
  refine ⟨w, env, hk, rfl, r, n, (Wp.bind h).imp fun d w1 a1 h1 v rv => ?_⟩
  refine ⟨w1, env, a1.k.trans hk, rfl, a1.rs, n.after a1, (Wp.bind h1).imp fun e w2 a2 h2 u ru => ?_⟩
  obtain ⟨z, rfl, h3⟩ := asS_wp a2.rs (Wp.bind h2)
  obtain ⟨l, rfl, h4⟩ := itemsT_wp a2.rs (Wp.bind h3)
  have ru0 := ru
  simp only [Rep] at rv ru
  obtain ⟨q, xs, rfl, s, rr, hl⟩ := ru
  have k2 := a2.k.trans (a1.k.trans hk)
  by_cases hc : z.length ≤ sizeLine
  · rw [if_pos hc] at h4
    have wk := walks_zipST hc ru0
    rw [k2] at wk
    exact ⟨z, q, xs, by rw [rv], by rw [← k2]; exact s, Wp.ok_ (a := zipD z l) a2.rs h4 _ wk⟩
  · rw [if_neg hc] at h4
    exact h4.elim
end
end G
end

section
set_option Elab.async false
set_option linter.all false
set_option maxRecDepth 100000
set_option maxHeartbeats 2000000
namespace G
open PySem PySem.Spec PyProof.Rows L2
/-! ## a Hook with tables and one more look -/
def hookN (n : Nat) (fa : List He.Fa) (fn : List He.DefD) (ts : List He.Tab) (ex : PySem.W.Frag → Bool) : PySem.W.Hook where
  α := He.AlT × Bool
  obs := fun s => (He.obsTG n fa fn ts s.heap.get?, ex (He.frG s.heap.get? (He.asD s.heap.get? n)))
  val := fun w => (He.valT fn ts w, true)
  says := fun w h => ∃ K : PySem.W.Frag, K.In h ∧ He.SaysT fa fn ts w K ∧ ex K = true
  of := fun _ _ e => ⟨_, He.frG_in, congrArg Prod.fst e, congrArg Prod.snd e⟩
  keeps := fun _ _ _ ⟨K, hK, c⟩ k => ⟨K, PySem.W.Frag.In.keeps hK k, c⟩
def obsN (n : Nat) (fa : List He.Fa) (fn : List He.DefD) (ts : List He.Tab) (ex : PySem.W.Frag → Bool) (g : Addr → Option Obj) : He.AlT × Bool := (He.obsTG n fa fn ts g, ex (He.frG g (He.asD g n)))
theorem obsN_eq {n : Nat} {fa : List He.Fa} {fn : List He.DefD} {ts : List He.Tab} {ex : PySem.W.Frag → Bool} {g : Addr → Option Obj} {s : Shared} (h : ∀ a, g a = s.heap.get? a) : obsN n fa fn ts ex g = (hookN n fa fn ts ex).obs s := by
  have e : g = s.heap.get? := funext h
  rw [e] <;> rfl
/-! ## the frame of a proof: defs and methods by an index -/
structure FactsN (ι : Type) (nm ql : ι → Str) (at_ : ι → Str × Option Str) (st : ι → Stmt) (free : List Str) (K : PySem.W.Frag) (mg : Str → Option Value) : Prop where
  fd : ∀ i, ∃ fd, FunD K (nm i) (ql i) (defArgs (st i)) (defBody (st i)) (defScope (st i)) [] [] (He.fAd K (at_ i)) fd
  mgf : ∀ i x, at_ i = (x, none) → mg x = some (.ref (He.ga K x))
  fr : ∀ x ∈ free, mg x = none
section
variable {ι : Type} {nm ql : ι → Str} {at_ : ι → Str × Option Str} {st : ι → Stmt} {free : List Str} {P : Program} {w : World} {K : PySem.W.Frag} {mg : Str → Option Value} {base : Heap} {k : Nat} {N ps : List Str} {g : Ev → M Fl}
theorem calmN_of (T : FactsN ι nm ql at_ st free K mg) (i : ι) {x : Str} (hx : at_ i = (x, none)) (S : FnScope N ps (defScope (st i))) (hN : ps.length ≤ N.length)
    (hbd : ∀ fd, FunD K (nm i) (ql i) (defArgs (st i)) (defBody (st i)) (defScope (st i)) [] [] (He.fAd K (at_ i)) fd → Binds K fd ps [])
    (hb : ∀ (cdv : Value) (A : Around) (outer : List Env) (s : Shared) (H : Hp) (E : XK), A.guards = some [] → Room k (A.deeper (envOfC (ql i) (defScope (st i)) s.heap.objs.size (He.fAd K (at_ i)) cdv)) →
      DSs (cxOf (L2N.CX P w) P w K mg base N (ql i) (defScope (st i)) (He.fAd K (at_ i)) cdv A outer s H E) (wE K E) (defBody (st i)) g) : CalM P w K mg base (k + 1) x ps (runF N.length g) := by
  obtain ⟨fd, FD⟩ := T.fd i
  refine ⟨_, fd, ?_, FD.kp, hbd fd FD, fnm_of FD S hN hb⟩
  rw [hx]
  exact T.mgf i x hx
theorem metN_of (T : FactsN ι nm ql at_ st free K mg) (i : ι) {C m : Str} (hx : at_ i = (C, some m)) (cl : Cls K (He.ga K C)) (mt : Meth K (He.ga K C) m (He.ma K (He.ga K C) m)) (S : FnScope N ps (defScope (st i))) (hN : ps.length ≤ N.length)
    (hbd : ∀ fd, FunD K (nm i) (ql i) (defArgs (st i)) (defBody (st i)) (defScope (st i)) [] [] (He.fAd K (at_ i)) fd → Binds K fd ps [])
    (hb : ∀ (cdv : Value) (A : Around) (outer : List Env) (s : Shared) (H : Hp) (E : XK), A.guards = some [] → Room k (A.deeper (envOfC (ql i) (defScope (st i)) s.heap.objs.size (He.fAd K (at_ i)) cdv)) →
      DSs (cxOf (L2N.CX P w) P w K mg base N (ql i) (defScope (st i)) (He.fAd K (at_ i)) cdv A outer s H E) (wE K E) (defBody (st i)) g) : MetM P w K mg base (k + 1) C m ps (runF N.length g) := by
  obtain ⟨fd, FD⟩ := T.fd i
  refine ⟨_, fd, cl, ?_, hbd fd FD, fnm_of FD S hN hb⟩
  rw [hx]
  exact mt
theorem mkN_of {C s0 : Str} {g' : Addr} {F0 : List D → M D} (mk : Mk K (He.ga K C) g') (hm : mg C = some (.ref (He.ga K C))) (MI : MetM P w K mg base k C "__init__" (s0 :: ps) F0) : MkM P w K mg base (k + 1) C ps (newIns C F0) := by
  obtain ⟨f, fd, cl, mt, hb, FN⟩ := MI.ex
  have e : f = g' := by
    have z := mt.at_.symm.trans mk.init
    cases z
    rfl
  subst e
  exact ⟨hm, mk.kp, .inr ⟨k, f, fd, s0, F0, rfl, mk, hb, FN, rfl⟩⟩
theorem mkN_zero {C : Str} {g' : Addr} (mk : Mk K (He.ga K C) g') (hm : mg C = some (.ref (He.ga K C))) : MkM P w K mg base 0 C ps (fun _ => M.stuck) := ⟨hm, mk.kp, .inl rfl⟩
end
/-- the statements of a class -/
def classB : Stmt → List Stmt
  | .ClassDef _ _ _ body _ _ _ _ _ _ _ => body
  | _ => []
theorem ents_keys {K : PySem.W.Frag} {w : World} {c : Str} {l : List (Str × D)} (h : ∃ es n, KDict K w (He.ga K c) es n) (t : tabB K c l = true) : TabOk K w c l := ⟨h, t⟩
end G
end

section
set_option Elab.async false
set_option linter.all false
set_option maxRecDepth 100000
namespace K91
open PySem G
def exn : List Str := ["NoText", "NoPlan"]
def tabs : Tabs := [("PLANS", [("list", .tup [.str "numbers"]), ("broken", .tup [.str "numbers", .str "word"]), ("count", .tup [.str "number", .str "number", .str "number"]), ("row", .tup [.str "number"]), ("turn", .tup [.str "rule", .str "plan"]), ("sieve", .tup [.str "test", .str "plan"]), ("upto", .tup [.str "test", .str "plan"]), ("cut", .tup [.str "number", .str "plan"]), ("left", .tup [.str "number", .str "plan"]), ("chain", .tup [.str "plans"]), ("beside", .tup [.str "plans"]), ("ahead", .tup [.str "plan"]), ("windows", .tup [.str "number", .str "number", .str "plan"]), ("marks", .tup [.str "number", .str "plan"]), ("spare", .tup [.str "plan", .str "plan"]), ("wanted", .tup [.str "number", .str "word", .str "plan"])]), ("CHANGES", [("add", .tup [.str "number"]), ("times", .tup [.str "number"]), ("rest", .tup [.str "number"]), ("one", .tup []), ("sum", .tup [])]), ("LOOKS", [("rest", .tup [.str "number", .str "number"]), ("below", .tup [.str "number"]), ("after", .tup [.str "rule", .str "test"])]), ("HEADS", [("plan", .con "PLANS"), ("change", .con "CHANGES"), ("look", .con "LOOKS")]), ("SEVERAL", [("numbers", .str "number"), ("rule", .str "change"), ("test", .str "look"), ("plans", .str "plan")])]
inductive Fn where
  | is_whole
  | is_rule
  | is_change
  | is_test
  | is_look
  | is_between
  | is_word
  | are_numbers
  | is_leaf
  | is_joined
  | has_numbers
  | is_plan
  | words_for
  | plan_text
  | is_figures
  | read_plan
  | l_pot
  | l_take
  | l_number
  | l_word
  | l_rest
  | l_change
  | l_rule
  | l_look
  | l_test
  | l_leaf
  | l_upon
  | l_plan
  | l_sorts
  | l_words
  | l_tall
  | l_parts
  | l_deep
  | l_bounded
  | l_right
  | law
  | Words_init
  | Words_is_read
  | Words_next_word
  | Words_next_number
  | Words_headed
  | Words_several
  | Words_thing_of
  | new_Words
def g_is_whole (F : Fn → List D → M D) : Ev → M Fl := (sRet (eAnd (eUn (dIsT "int") (eVar 0)) (eNot (eUn (dIsT "bool") (eVar 0)))))
def g_is_rule (F : Fn → List D → M D) : Ev → M Fl := (sRet (eAnd (eUn (dIsT "tuple") (eVar 0)) (eB dAll [(eComp [1] (iSeq (eVar 0)) (tgName 1) (fun _ => pure true) (eCall (F .is_change) [(eVar 1)]))])))
def g_is_change (F : Fn → List D → M D) : Ev → M Fl := (sSeq (sIf (tOr' (tNot' (tVal (eUn (dIsT "tuple") (eVar 0)))) (tVal (eOp dEq (eB dLen [(eVar 0)]) (eC (.int 0))))) (sRet (eC (.bl false))) sNop) (sSeq (sIf (tVal (eOp dEq (eB dLen [(eVar 0)]) (eC (.int 1)))) (sRet (eOp dIn (eOp dIdx (eVar 0) (eC (.int 0))) (eTup [(eC (.str "one")), (eC (.str "sum"))]))) sNop) (sSeq (sIf (tOr' (tVal (eOp dGt (eB dLen [(eVar 0)]) (eC (.int 2)))) (tNot' (tVal (eCall (F .is_whole) [(eOp dIdx (eVar 0) (eC (.int 1)))])))) (sRet (eC (.bl false))) sNop) (sRet (eOr (eOp dIn (eOp dIdx (eVar 0) (eC (.int 0))) (eTup [(eC (.str "add")), (eC (.str "times"))])) (eAnd (eOp dEq (eOp dIdx (eVar 0) (eC (.int 0))) (eC (.str "rest"))) (eOp dGt (eOp dIdx (eVar 0) (eC (.int 1))) (eC (.int 0)))))))))
def g_is_test (F : Fn → List D → M D) : Ev → M Fl := (sRet (eAnd (eUn (dIsT "tuple") (eVar 0)) (eB dAll [(eComp [1] (iSeq (eVar 0)) (tgName 1) (fun _ => pure true) (eCall (F .is_look) [(eVar 1)]))])))
def g_is_look (F : Fn → List D → M D) : Ev → M Fl := (sSeq (sIf (tOr' (tNot' (tVal (eUn (dIsT "tuple") (eVar 0)))) (tNot' (tVal (eChain dLe dLe (eC (.int 2)) (eB dLen [(eVar 0)]) (eC (.int 3)))))) (sRet (eC (.bl false))) sNop) (sSeq (sIf (tVal (eOp dEq (eB dLen [(eVar 0)]) (eC (.int 2)))) (sRet (eAnd (eOp dEq (eOp dIdx (eVar 0) (eC (.int 0))) (eC (.str "below"))) (eCall (F .is_whole) [(eOp dIdx (eVar 0) (eC (.int 1)))]))) sNop) (sSeq (sIf (tVal (eOp dEq (eOp dIdx (eVar 0) (eC (.int 0))) (eC (.str "after")))) (sRet (eAnd (eCall (F .is_rule) [(eOp dIdx (eVar 0) (eC (.int 1)))]) (eCall (F .is_test) [(eOp dIdx (eVar 0) (eC (.int 2)))]))) sNop) (sRet (eAnd (eOp dEq (eOp dIdx (eVar 0) (eC (.int 0))) (eC (.str "rest"))) (eAnd (eCall (F .is_whole) [(eOp dIdx (eVar 0) (eC (.int 1)))]) (eAnd (eCall (F .is_whole) [(eOp dIdx (eVar 0) (eC (.int 2)))]) (eChain dLe dLt (eC (.int 0)) (eOp dIdx (eVar 0) (eC (.int 2))) (eOp dIdx (eVar 0) (eC (.int 1)))))))))))
def g_is_between (F : Fn → List D → M D) : Ev → M Fl := (sRet (eAnd (eCall (F .is_whole) [(eVar 0)]) (eChain dLe dLe (eVar 1) (eVar 0) (eVar 2))))
def g_is_word (F : Fn → List D → M D) : Ev → M Fl := (sRet (eAnd (eUn (dIsT "str") (eVar 0)) (eAnd (eChain dLe dLe (eC (.int 1)) (eB dLen [(eVar 0)]) (eC (.int 8))) (eB dAll [(eComp [1] (iChars (eVar 0)) (tgName 1) (fun _ => pure true) (eOp dInS (eVar 1) (eC (.str "abcdefghijklmnopqrstuvwxyz"))))]))))
def g_are_numbers (F : Fn → List D → M D) : Ev → M Fl := (sRet (eAnd (eUn (dIsT "tuple") (eVar 0)) (eB dAll [(eComp [1] (iSeq (eVar 0)) (tgName 1) (fun _ => pure true) (eCall (F .is_whole) [(eVar 1)]))])))
def g_is_leaf (F : Fn → List D → M D) : Ev → M Fl := (sSeq (sIf (tVal (eOp dEq (eOp dIdx (eVar 0) (eC (.int 0))) (eC (.str "list")))) (sRet (eAnd (eOp dEq (eB dLen [(eVar 0)]) (eC (.int 2))) (eCall (F .are_numbers) [(eOp dIdx (eVar 0) (eC (.int 1)))]))) sNop) (sSeq (sIf (tVal (eOp dEq (eOp dIdx (eVar 0) (eC (.int 0))) (eC (.str "broken")))) (sRet (eAnd (eOp dEq (eB dLen [(eVar 0)]) (eC (.int 3))) (eAnd (eCall (F .are_numbers) [(eOp dIdx (eVar 0) (eC (.int 1)))]) (eCall (F .is_word) [(eOp dIdx (eVar 0) (eC (.int 2)))])))) sNop) (sSeq (sIf (tVal (eOp dEq (eOp dIdx (eVar 0) (eC (.int 0))) (eC (.str "row")))) (sRet (eAnd (eOp dEq (eB dLen [(eVar 0)]) (eC (.int 2))) (eCall (F .is_between) [(eOp dIdx (eVar 0) (eC (.int 1))), (eC (.int 0)), (eOp dSub (eC (.int 60)) (eC (.int 1)))]))) sNop) (sRet (eAnd (eOp dEq (eB dLen [(eVar 0)]) (eC (.int 4))) (eAnd (eCall (F .is_whole) [(eOp dIdx (eVar 0) (eC (.int 1)))]) (eAnd (eCall (F .is_whole) [(eOp dIdx (eVar 0) (eC (.int 2)))]) (eCall (F .is_between) [(eOp dIdx (eVar 0) (eC (.int 3))), (eC (.int 0)), (eC (.int 200))]))))))))
def g_is_joined (F : Fn → List D → M D) : Ev → M Fl := (sSeq (sIf (tOr' (tVal (eOp dNe (eB dLen [(eVar 0)]) (eC (.int 2)))) (tOr' (tNot' (tVal (eUn (dIsT "tuple") (eOp dIdx (eVar 0) (eC (.int 1)))))) (tVal (eOp dGt (eB dLen [(eOp dIdx (eVar 0) (eC (.int 1)))]) (eC (.int 6)))))) (sRet (eC (.bl false))) sNop) (sRet (eAnd (eOr (eOp dEq (eOp dIdx (eVar 0) (eC (.int 0))) (eC (.str "chain"))) (eOp dNe (eOp dIdx (eVar 0) (eC (.int 1))) (eTup []))) (eB dAll [(eComp [1] (iSeq (eOp dIdx (eVar 0) (eC (.int 1)))) (tgName 1) (fun _ => pure true) (eCall (F .is_plan) [(eVar 1)]))]))))
def g_has_numbers (F : Fn → List D → M D) : Ev → M Fl := (sSeq (sPar 1 2 (eOp dIdx (eVar 0) (eC (.int 0))) (eSl (eVar 0) (pAt (eC (.int 1))) (pAt (eUn dNeg (eC (.int 1)))))) (sSeq (sIf (tVal (eOp dEq (eVar 1) (eC (.str "ahead")))) (sRet (eOp dEq (eVar 2) (eTup []))) sNop) (sSeq (sIf (tVal (eOp dEq (eVar 1) (eC (.str "windows")))) (sRet (eAnd (eOp dEq (eB dLen [(eVar 2)]) (eC (.int 2))) (eAnd (eCall (F .is_between) [(eOp dIdx (eVar 2) (eC (.int 0))), (eC (.int 1)), (eC (.int 20))]) (eCall (F .is_between) [(eOp dIdx (eVar 2) (eC (.int 1))), (eC (.int 1)), (eC (.int 20))])))) sNop) (sSeq (sIf (tVal (eOp dEq (eVar 1) (eC (.str "wanted")))) (sRet (eAnd (eOp dEq (eB dLen [(eVar 2)]) (eC (.int 2))) (eAnd (eCall (F .is_between) [(eOp dIdx (eVar 2) (eC (.int 0))), (eC (.int 0)), (eC (.int 200))]) (eCall (F .is_word) [(eOp dIdx (eVar 2) (eC (.int 1)))])))) sNop) (sSeq (sIf (tVal (eOp dNe (eB dLen [(eVar 2)]) (eC (.int 1)))) (sRet (eC (.bl false))) sNop) (sSeq (sIf (tVal (eOp dEq (eVar 1) (eC (.str "turn")))) (sRet (eCall (F .is_rule) [(eOp dIdx (eVar 2) (eC (.int 0)))])) sNop) (sSeq (sIf (tVal (eOp dIn (eVar 1) (eTup [(eC (.str "sieve")), (eC (.str "upto"))]))) (sRet (eCall (F .is_test) [(eOp dIdx (eVar 2) (eC (.int 0)))])) sNop) (sSeq (sIf (tVal (eOp dIn (eVar 1) (eTup [(eC (.str "cut")), (eC (.str "left"))]))) (sRet (eCall (F .is_between) [(eOp dIdx (eVar 2) (eC (.int 0))), (eC (.int 0)), (eC (.int 200))])) sNop) (sSeq (sIf (tVal (eOp dEq (eVar 1) (eC (.str "marks")))) (sRet (eAnd (eCall (F .is_whole) [(eOp dIdx (eVar 2) (eC (.int 0)))]) (eOp dGt (eOp dIdx (eVar 2) (eC (.int 0))) (eC (.int 0))))) sNop) (sRet (eAnd (eOp dEq (eVar 1) (eC (.str "spare"))) (eCall (F .is_plan) [(eOp dIdx (eVar 2) (eC (.int 0)))]))))))))))))
def g_is_plan (F : Fn → List D → M D) : Ev → M Fl := (sSeq (sIf (tOr' (tNot' (tVal (eUn (dIsT "tuple") (eVar 0)))) (tOr' (tVal (eOp dLt (eB dLen [(eVar 0)]) (eC (.int 2)))) (tNot' (tVal (eUn (dIsT "str") (eOp dIdx (eVar 0) (eC (.int 0)))))))) (sRet (eC (.bl false))) sNop) (sSeq (sIf (tVal (eOp dIn (eOp dIdx (eVar 0) (eC (.int 0))) (eC (.tup [.str "list", .str "broken", .str "count", .str "row"])))) (sRet (eCall (F .is_leaf) [(eVar 0)])) sNop) (sSeq (sIf (tVal (eOp dIn (eOp dIdx (eVar 0) (eC (.int 0))) (eTup [(eC (.str "chain")), (eC (.str "beside"))]))) (sRet (eCall (F .is_joined) [(eVar 0)])) sNop) (sRet (eAnd (eCall (F .has_numbers) [(eVar 0)]) (eCall (F .is_plan) [(eOp dIdx (eVar 0) (eUn dNeg (eC (.int 1))))]))))))
def g_words_for (F : Fn → List D → M D) : Ev → M Fl := (sSeq (sIf (tVal (eUn (dIsT "int") (eVar 0))) (sRet (eLst [(eB dStr2 [(eVar 0)])])) sNop) (sSeq (sIf (tVal (eUn (dIsT "str") (eVar 0))) (sRet (eLst [(eVar 0)])) sNop) (sSeq (sAsg 1 (eNewL [])) (sSeq (sIf (tOr' (tVal (eOp dEq (eVar 0) (eTup []))) (tNot' (tVal (eUn (dIsT "str") (eOp dIdx (eVar 0) (eC (.int 0))))))) (sExpr (eLm gAppend (eVar 1) [(eB dStr2 [(eB dLen [(eVar 0)])])])) sNop) (sSeq (sFor (iSeq (eVar 0)) (tgName 2) (sExpr (eLm gExtend (eVar 1) [(eCall (F .words_for) [(eVar 2)])]))) (sRet (eFree (eVar 1))))))))
def g_plan_text (F : Fn → List D → M D) : Ev → M Fl := (sSeq (sIf (tNot' (tVal (eCall (F .is_plan) [(eVar 0)]))) (sRaise "NoPlan" (eC (.str "no plan"))) sNop) (sRet (eJoin (eC (.str " ")) (eCall (F .words_for) [(eVar 0)]))))
def g_is_figures (F : Fn → List D → M D) : Ev → M Fl := (sSeq (sIf (tVal (eOp dEqS (eSl (eVar 0) pNo (pAt (eC (.int 1)))) (eC (.str "-")))) (sRet (eAnd (eOp dNeS (eVar 0) (eC (.str "-0"))) (eAnd (eOp dNeS (eSl (eVar 0) (pAt (eC (.int 1))) (pAt (eC (.int 2)))) (eC (.str "-"))) (eCall (F .is_figures) [(eSl (eVar 0) (pAt (eC (.int 1))) pNo)])))) sNop) (sRet (eAnd (eOp dNeS (eVar 0) (eC (.str ""))) (eAnd (eB dAll [(eComp [1] (iChars (eVar 0)) (tgName 1) (fun _ => pure true) (eOp dInS (eVar 1) (eC (.str "0123456789"))))]) (eOr (eOp dNeS (eOp dIdx (eVar 0) (eC (.int 0))) (eC (.str "0"))) (eOp dEqS (eVar 0) (eC (.str "0"))))))))
def g_read_plan (F : Fn → List D → M D) : Ev → M Fl := (sSeq (sIf (tNot' (tVal (eUn (dIsT "str") (eVar 0)))) (sRaise "NoText" (eC (.str "no text"))) sNop) (sSeq (sAsg 1 (eCall (F .new_Words) [(eSplit (eVar 0) (eC (.str " ")))])) (sSeq (sAsg 2 (eMeth "Words" "thing_of" (F .Words_thing_of) (eVar 1) [(eC (.str "plan")), (eC (.int 0))])) (sSeq (sIf (tOr' (tNot' (tVal (eMeth "Words" "is_read" (F .Words_is_read) (eVar 1) []))) (tNot' (tVal (eCall (F .is_plan) [(eVar 2)])))) (sRaise "NoText" (eC (.str "no plan's text"))) sNop) (sRet (eVar 2))))))
def g_l_pot (F : Fn → List D → M D) : Ev → M Fl := (sSeq (sAsg 2 (eIf (tVal (eOp dLt (eVar 1) (eB dLen [(eVar 0)]))) (eOp dIdx (eVar 0) (eVar 1)) (eC (.int 0)))) (sSeq (sAsg 3 (eOp dMod (eOp dMul (eOp dAdd (eOp dMod (eVar 2) (eC (.int 2147483629))) (eC (.int 1))) (eC (.int 48271))) (eC (.int 2147483647)))) (sRet (eNewL [(eB dMax2 [(eC (.int 0)), (eOp dSub (eVar 2) (eOp dPow (eC (.int 10)) (eC (.int 18))))]), (eOp dAdd (eOp dAdd (eOp dMod (eOp dMul (eVar 3) (eVar 3)) (eC (.int 2147483629))) (eOp dMul (eC (.int 7919)) (eVar 1))) (eC (.int 1)))]))))
def g_l_take (F : Fn → List D → M D) : Ev → M Fl := (sSeq (sIf (tVal (eOp dGt (eOp dIdx (eVar 0) (eC (.int 0))) (eC (.int 0)))) (sSeq (sAsgT (eB dDivmod [(eOp dIdx (eVar 0) (eC (.int 0))), (eVar 1)]) (fun d env => noErr (gtPair (gtSub (eVar 0) (eC (.int 0))) (gtName 2) d env))) (sRet (eVar 2))) sNop) (sSeq (sAsgT (eOp dMod (eOp dAdd (eOp dMul (eOp dIdx (eVar 0) (eC (.int 1))) (eC (.int 39373))) (eC (.int 11))) (eC (.int 2147483647))) (gtSub (eVar 0) (eC (.int 1)))) (sRet (eOp dMod (eOp dDiv (eOp dMod (eOp dMul (eOp dIdx (eVar 0) (eC (.int 1))) (eOp dIdx (eVar 0) (eC (.int 1)))) (eC (.int 2147483629))) (eC (.int 3))) (eVar 1)))))
def g_l_number (F : Fn → List D → M D) : Ev → M Fl := (sSeq (sIf (tVal (eOp dEq (eCall (F .l_take) [(eVar 0), (eC (.int 5))]) (eC (.int 4)))) (sRet (eOp dAdd (eOp dSub (eCall (F .l_take) [(eVar 0), (eOp dSub (eOp dMul (eC (.int 2)) (eOp dPow (eC (.int 10)) (eC (.int 30)))) (eC (.int 1)))]) (eOp dPow (eC (.int 10)) (eC (.int 30)))) (eC (.int 1)))) sNop) (sRet (eOp dSub (eCall (F .l_take) [(eVar 0), (eC (.int 23))]) (eC (.int 11)))))
def g_l_word (F : Fn → List D → M D) : Ev → M Fl := (sSeq (sAsg 1 (eC (.str "abcdefghijklmnopqrstuvwxyz"))) (sSeq (sIf (tVal (eOp dEq (eCall (F .l_take) [(eVar 0), (eC (.int 4))]) (eC (.int 0)))) (sRet (eOp dIdx (eLst [(eC (.str "cut")), (eC (.str "list")), (eC (.str "row")), (eC (.str "rest")), (eC (.str "one")), (eC (.str "chain")), (eC (.str "spare"))]) (eCall (F .l_take) [(eVar 0), (eC (.int 7))]))) sNop) (sSeq (sAsg 2 (eOp dIdx (eLst [(eC (.int 1)), (eC (.int 1)), (eC (.int 2)), (eC (.int 4)), (eC (.int 8))]) (eCall (F .l_take) [(eVar 0), (eC (.int 5))]))) (sRet (eJoin (eC (.str "")) (eComp [3] (iRange (eVar 2)) (tgName 3) (fun _ => pure true) (eOp dIdx (eVar 1) (eCall (F .l_take) [(eVar 0), (eC (.int 26))]))))))))
def g_l_rest (F : Fn → List D → M D) : Ev → M Fl := (sRet (eOp dAdd (eC (.int 1)) (eCall (F .l_take) [(eVar 0), (eOp dIdx (eLst [(eC (.int 3)), (eC (.int 9)), (eOp dSub (eOp dPow (eC (.int 10)) (eC (.int 30))) (eC (.int 1)))]) (eCall (F .l_take) [(eVar 0), (eC (.int 3))]))])))
def g_l_change (F : Fn → List D → M D) : Ev → M Fl := (sSeq (sAsg 1 (eCall (F .l_take) [(eVar 0), (eC (.int 5))])) (sSeq (sIf (tVal (eOp dEq (eVar 1) (eC (.int 3)))) (sRet (eTup [(eC (.str "one"))])) sNop) (sSeq (sIf (tVal (eOp dEq (eVar 1) (eC (.int 4)))) (sRet (eTup [(eC (.str "sum"))])) sNop) (sRet (eTup [(eOp dIdx (eLst [(eC (.str "add")), (eC (.str "times")), (eC (.str "rest"))]) (eVar 1)), (eOp dIdx (eLst [(eCall (F .l_number) [(eVar 0)]), (eCall (F .l_rest) [(eVar 0)])]) (eB dIntB [(eOp dEq (eVar 1) (eC (.int 2)))]))])))))
def g_l_rule (F : Fn → List D → M D) : Ev → M Fl := (sRet (eB dTuple [(eComp [1] (iRange (eCall (F .l_take) [(eVar 0), (eC (.int 4))])) (tgName 1) (fun _ => pure true) (eCall (F .l_change) [(eVar 0)]))]))
def g_l_look (F : Fn → List D → M D) : Ev → M Fl := (sSeq (sAsg 2 (eCall (F .l_take) [(eVar 0), (eC (.int 3))])) (sSeq (sIf (tOr' (tVal (eOp dEq (eVar 2) (eC (.int 0)))) (tAnd' (tVal (eOp dEq (eVar 2) (eC (.int 2)))) (tVal (eOp dEq (eVar 1) (eC (.int 0)))))) (sSeq (sAsg 3 (eCall (F .l_rest) [(eVar 0)])) (sRet (eTup [(eC (.str "rest")), (eVar 3), (eCall (F .l_take) [(eVar 0), (eVar 3)])]))) sNop) (sSeq (sIf (tVal (eOp dEq (eVar 2) (eC (.int 1)))) (sRet (eTup [(eC (.str "below")), (eCall (F .l_number) [(eVar 0)])])) sNop) (sRet (eTup [(eC (.str "after")), (eCall (F .l_rule) [(eVar 0)]), (eCall (F .l_test) [(eVar 0), (eOp dSub (eVar 1) (eC (.int 1)))])])))))
def g_l_test (F : Fn → List D → M D) : Ev → M Fl := (sRet (eB dTuple [(eComp [2] (iRange (eCall (F .l_take) [(eVar 0), (eC (.int 4))])) (tgName 2) (fun _ => pure true) (eCall (F .l_look) [(eVar 0), (eVar 1)]))]))
def g_l_leaf (F : Fn → List D → M D) : Ev → M Fl := (sSeq (sPar 1 2 (eCall (F .l_take) [(eVar 0), (eC (.int 4))]) (eOp dIdx (eLst [(eCall (F .l_take) [(eVar 0), (eC (.int 7))]), (eCall (F .l_take) [(eVar 0), (eC (.int 61))])]) (eB dIntB [(eOp dEq (eCall (F .l_take) [(eVar 0), (eC (.int 12))]) (eC (.int 0)))]))) (sSeq (sAsg 3 (eB dTuple [(eComp [4] (iRange (eVar 2)) (tgName 4) (fun _ => pure true) (eCall (F .l_number) [(eVar 0)]))])) (sSeq (sIf (tVal (eOp dEq (eVar 1) (eC (.int 0)))) (sRet (eTup [(eC (.str "list")), (eVar 3)])) sNop) (sSeq (sIf (tVal (eOp dEq (eVar 1) (eC (.int 1)))) (sRet (eTup [(eC (.str "broken")), (eVar 3), (eCall (F .l_word) [(eVar 0)])])) sNop) (sSeq (sIf (tVal (eOp dEq (eVar 1) (eC (.int 2)))) (sRet (eTup [(eC (.str "count")), (eCall (F .l_number) [(eVar 0)]), (eCall (F .l_number) [(eVar 0)]), (eCall (F .l_take) [(eVar 0), (eC (.int 201))])])) sNop) (sRet (eTup [(eC (.str "row")), (eCall (F .l_take) [(eVar 0), (eC (.int 60))])])))))))
def g_l_upon (F : Fn → List D → M D) : Ev → M Fl := (sSeq (sAsg 3 (eOp dIdx (eLst [(eCall (F .l_take) [(eVar 0), (eC (.int 5))]), (eCall (F .l_take) [(eVar 0), (eC (.int 201))])]) (eCall (F .l_take) [(eVar 0), (eC (.int 2))]))) (sSeq (sIf (tVal (eOp dEq (eVar 1) (eC (.int 0)))) (sRet (eTup [(eC (.str "turn")), (eCall (F .l_rule) [(eVar 0)]), (eVar 2)])) sNop) (sSeq (sIf (tVal (eOp dLt (eVar 1) (eC (.int 3)))) (sRet (eTup [(eOp dIdx (eLst [(eC (.str "sieve")), (eC (.str "upto"))]) (eOp dSub (eVar 1) (eC (.int 1)))), (eCall (F .l_test) [(eVar 0), (eC (.int 2))]), (eVar 2)])) sNop) (sSeq (sIf (tVal (eOp dLt (eVar 1) (eC (.int 5)))) (sRet (eTup [(eOp dIdx (eLst [(eC (.str "cut")), (eC (.str "left"))]) (eOp dSub (eVar 1) (eC (.int 3)))), (eVar 3), (eVar 2)])) sNop) (sSeq (sIf (tVal (eOp dEq (eVar 1) (eC (.int 5)))) (sRet (eTup [(eC (.str "ahead")), (eVar 2)])) sNop) (sSeq (sIf (tVal (eOp dEq (eVar 1) (eC (.int 6)))) (sRet (eTup [(eC (.str "windows")), (eOp dAdd (eC (.int 1)) (eCall (F .l_take) [(eVar 0), (eC (.int 20))])), (eOp dAdd (eC (.int 1)) (eCall (F .l_take) [(eVar 0), (eC (.int 20))])), (eVar 2)])) sNop) (sSeq (sIf (tVal (eOp dEq (eVar 1) (eC (.int 7)))) (sRet (eTup [(eC (.str "marks")), (eCall (F .l_rest) [(eVar 0)]), (eVar 2)])) sNop) (sRet (eTup [(eC (.str "wanted")), (eVar 3), (eCall (F .l_word) [(eVar 0)]), (eVar 2)])))))))))
def g_l_plan (F : Fn → List D → M D) : Ev → M Fl := (sSeq (sAsg 2 (eCall (F .l_take) [(eVar 0), (eC (.int 13))])) (sSeq (sIf (tOr' (tVal (eOp dEq (eVar 1) (eC (.int 0)))) (tVal (eOp dEq (eVar 2) (eC (.int 12))))) (sRet (eCall (F .l_leaf) [(eVar 0)])) sNop) (sSeq (sIf (tVal (eOp dLt (eVar 2) (eC (.int 9)))) (sRet (eCall (F .l_upon) [(eVar 0), (eVar 2), (eCall (F .l_plan) [(eVar 0), (eOp dSub (eVar 1) (eC (.int 1)))])])) sNop) (sSeq (sIf (tVal (eOp dEq (eVar 2) (eC (.int 9)))) (sRet (eTup [(eC (.str "spare")), (eCall (F .l_plan) [(eVar 0), (eOp dSub (eVar 1) (eC (.int 1)))]), (eCall (F .l_plan) [(eVar 0), (eOp dSub (eVar 1) (eC (.int 1)))])])) sNop) (sSeq (sAsg 3 (eOp dSub (eVar 2) (eC (.int 10)))) (sSeq (sAsg 4 (eOp dAdd (eVar 3) (eCall (F .l_take) [(eVar 0), (eIf (tVal (eOp dEq (eVar 1) (eC (.int 1)))) (eOp dIdx (eLst [(eC (.int 3)), (eC (.int 3)), (eOp dSub (eC (.int 7)) (eVar 3))]) (eCall (F .l_take) [(eVar 0), (eC (.int 3))])) (eC (.int 3)))]))) (sRet (eTup [(eOp dIdx (eLst [(eC (.str "chain")), (eC (.str "beside"))]) (eVar 3)), (eB dTuple [(eComp [5] (iRange (eVar 4)) (tgName 5) (fun _ => pure true) (eCall (F .l_plan) [(eVar 0), (eOp dSub (eVar 1) (eC (.int 1)))]))])]))))))))
def g_l_sorts (F : Fn → List D → M D) : Ev → M Fl := (sSeq (sAsg 1 (eNewD [.inr "list", .inr "broken", .inr "count", .inr "row", .inr "turn", .inr "sieve", .inr "upto"] [(eC (.str "N")), (eC (.str "Nw")), (eC (.str "nnn")), (eC (.str "n")), (eC (.str "Rp")), (eC (.str "Tp")), (eC (.str "Tp"))])) (sSeq (sExpr (eDUpd (eVar 1) (eNewD [.inr "cut", .inr "left", .inr "chain", .inr "beside", .inr "ahead", .inr "windows"] [(eC (.str "np")), (eC (.str "np")), (eC (.str "P")), (eC (.str "P")), (eC (.str "p")), (eC (.str "nnp"))]))) (sSeq (sExpr (eDUpd (eVar 1) (eNewD [.inr "marks", .inr "spare", .inr "wanted"] [(eC (.str "np")), (eC (.str "pp")), (eC (.str "nwp"))]))) (sSeq (sIf (tVal (eOp dEqS (eVar 0) (eC (.str "p")))) (sRet (eVar 1)) sNop) (sSeq (sIf (tVal (eOp dEqS (eVar 0) (eC (.str "c")))) (sRet (eNewD [.inr "add", .inr "times", .inr "rest", .inr "one", .inr "sum"] [(eC (.str "n")), (eC (.str "n")), (eC (.str "n")), (eC (.str "")), (eC (.str ""))])) sNop) (sRet (eNewD [.inr "rest", .inr "below", .inr "after"] [(eC (.str "nn")), (eC (.str "n")), (eC (.str "RT"))])))))))
def g_l_words (F : Fn → List D → M D) : Ev → M Fl := (sSeq (sIf (tVal (eOp dInS (eVar 0) (eC (.str "nw")))) (sRet (eLst [(eB dStr2 [(eVar 1)])])) sNop) (sSeq (sIf (tVal (eOp dInS (eVar 0) (eC (.str "NRTP")))) (sSeq (sAsg 2 (eNewL [(eB dStr2 [(eB dLen [(eVar 1)])])])) (sSeq (sFor (iSeq (eVar 1)) (tgName 3) (sExpr (eLm gExtend (eVar 2) [(eCall (F .l_words) [(eDispGet [.inr "N", .inr "R", .inr "T", .inr "P"] [(eC (.str "n")), (eC (.str "c")), (eC (.str "l")), (eC (.str "p"))] (eVar 0)), (eVar 3)])]))) (sRet (eFree (eVar 2))))) sNop) (sSeq (sAsg 2 (eNewL [(eOp dIdx (eVar 1) (eC (.int 0)))])) (sSeq (sFor (iZip (eOp dGet (eCall (F .l_sorts) [(eVar 0)]) (eOp dIdx (eVar 1) (eC (.int 0)))) (eSl (eVar 1) (pAt (eC (.int 1))) pNo)) (tgPair 4 3) (sExpr (eLm gExtend (eVar 2) [(eCall (F .l_words) [(eVar 4), (eVar 3)])]))) (sRet (eFree (eVar 2)))))))
def g_l_tall (F : Fn → List D → M D) : Ev → M Fl := (sSeq (sAsg 1 (eCall (F .l_leaf) [(eVar 0)])) (sSeq (sFor (iRange (eC (.int 18))) (tgName 2) (sAsg 1 (eCall (F .l_upon) [(eVar 0), (eOp dIdx (eLst [(eC (.int 0)), (eC (.int 3)), (eC (.int 4)), (eC (.int 5)), (eC (.int 5)), (eC (.int 7))]) (eCall (F .l_take) [(eVar 0), (eC (.int 6))])), (eVar 1)]))) (sRet (eVar 1))))
def g_l_parts (F : Fn → List D → M D) : Ev → M Fl := (sSeq (sIf (tVal (eOp dIn (eOp dIdx (eVar 0) (eC (.int 0))) (eTup [(eC (.str "list")), (eC (.str "broken")), (eC (.str "count")), (eC (.str "row"))]))) (sRet (eC (.int 1))) sNop) (sSeq (sAsg 1 (eLst [(eOp dIdx (eVar 0) (eUn dNeg (eC (.int 1))))])) (sSeq (sIf (tVal (eOp dIn (eOp dIdx (eVar 0) (eC (.int 0))) (eTup [(eC (.str "chain")), (eC (.str "beside"))]))) (sAsg 1 (eOp dIdx (eVar 0) (eC (.int 1)))) sNop) (sSeq (sIf (tVal (eOp dEq (eOp dIdx (eVar 0) (eC (.int 0))) (eC (.str "spare")))) (sAsg 1 (eSl (eVar 0) (pAt (eC (.int 1))) pNo)) sNop) (sRet (eOp dAdd (eC (.int 1)) (eB dSum [(eComp [2] (iSeq (eVar 1)) (tgName 2) (fun _ => pure true) (eCall (F .l_parts) [(eVar 2)]))])))))))
def g_l_deep (F : Fn → List D → M D) : Ev → M Fl := (sSeq (sAsg 1 (eTup [(eCall (F .l_look) [(eVar 0), (eC (.int 0))])])) (sSeq (sFor (iRange (eC (.int 8))) (tgName 2) (sAsg 1 (eTup [(eTup [(eC (.str "after")), (eCall (F .l_rule) [(eVar 0)]), (eVar 1)])]))) (sRet (eTup [(eOp dIdx (eLst [(eC (.str "sieve")), (eC (.str "upto"))]) (eCall (F .l_take) [(eVar 0), (eC (.int 2))])), (eVar 1), (eCall (F .l_leaf) [(eVar 0)])]))))
def g_l_bounded (F : Fn → List D → M D) : Ev → M Fl := (sSeq (sAsg 1 (eCall (F .l_take) [(eVar 0), (eC (.int 8))])) (sSeq (sIf (tVal (eOp dGt (eVar 1) (eC (.int 5)))) (sRet (eIf (tVal (eOp dEq (eVar 1) (eC (.int 6)))) (eCall (F .l_tall) [(eVar 0)]) (eCall (F .l_deep) [(eVar 0)]))) sNop) (sSeq (sAsg 2 (eCall (F .l_plan) [(eVar 0), (eC (.int 4))])) (sSeq (sIf (tVal (eOp dGt (eCall (F .l_parts) [(eVar 2)]) (eC (.int 60)))) (sAsg 2 (eCall (F .l_plan) [(eVar 0), (eC (.int 2))])) sNop) (sRet (eVar 2))))))
def g_l_right (F : Fn → List D → M D) : Ev → M Fl := (sSeq (sAsg 1 (eJoin (eC (.str " ")) (eCall (F .l_words) [(eC (.str "p")), (eVar 0)]))) (sSeq (sAsg 2 (eB dReprA [(eVar 0)])) (sSeq (sIf (tOr' (tVal (eOp dNotB (eCall (F .is_plan) [(eVar 0)]) (eC (.bl true)))) (tOr' (tVal (eOp dNeS (eCall (F .plan_text) [(eVar 0)]) (eVar 1))) (tNot' (tVal (eUn (dIsT "str") (eCall (F .plan_text) [(eVar 0)])))))) (sRet (eC (.bl false))) sNop) (sRet (eAnd (eOp dEqS (eB dReprA [(eCall (F .read_plan) [(eVar 1)])]) (eVar 2)) (eAnd (eOp dEqS (eCall (F .plan_text) [(eCall (F .read_plan) [(eVar 1)])]) (eVar 1)) (eOp dEqS (eB dReprA [(eVar 0)]) (eVar 2))))))))
def g_law (F : Fn → List D → M D) : Ev → M Fl := (sSeq (sAsg 1 (eNewL [])) (sSeq (sFor (iRange (eB dMax2 [(eC (.int 1)), (eB dMin2 [(eC (.int 6)), (eB dLen [(eVar 0)])])])) (tgName 2) (sExpr (eLm gAppend (eVar 1) [(eCall (F .l_bounded) [(eCall (F .l_pot) [(eVar 0), (eVar 2)])])]))) (sRet (eB dAll [(eComp [3] (iSeq (eOp dAddC (eVar 1) (eUn dRevC (eVar 1)))) (tgName 3) (fun _ => pure true) (eCall (F .l_right) [(eVar 3)]))]))))
def g_Words_init (F : Fn → List D → M D) : Ev → M Fl := (sSeq (sSetF "Words" "all_words" (eVar 0) (eVar 1)) (sSetF "Words" "many_read" (eVar 0) (eC (.int 0))))
def g_Words_is_read (F : Fn → List D → M D) : Ev → M Fl := (sRet (eOp dEq (eUn (dFld "Words" "many_read") (eVar 0)) (eB dLen [(eUn (dFld "Words" "all_words") (eVar 0))])))
def g_Words_next_word (F : Fn → List D → M D) : Ev → M Fl := (sSeq (sIf (tVal (eMeth "Words" "is_read" (F .Words_is_read) (eVar 0) [])) (sRaise "NoText" (eC (.str "words are lacking"))) sNop) (sSeq (sAddF "Words" "many_read" (eVar 0) (eC (.int 1))) (sRet (eOp dIdx (eUn (dFld "Words" "all_words") (eVar 0)) (eOp dSub (eUn (dFld "Words" "many_read") (eVar 0)) (eC (.int 1)))))))
def g_Words_next_number (F : Fn → List D → M D) : Ev → M Fl := (sSeq (sAsg 1 (eMeth "Words" "next_word" (F .Words_next_word) (eVar 0) [])) (sSeq (sIf (tNot' (tVal (eCall (F .is_figures) [(eVar 1)]))) (sRaise "NoText" (eC (.str "no number"))) sNop) (sRet (eB dInt [(eVar 1)]))))
def g_Words_headed (F : Fn → List D → M D) : Ev → M Fl := (sSeq (sAsg 3 (eMeth "Words" "next_word" (F .Words_next_word) (eVar 0) [])) (sSeq (sIf (tVal (eOp (dNotInK tabs) (eVar 3) (eVar 1))) (sRaise "NoText" (eC (.str "no such word"))) sNop) (sRet (eOp dAdd (eTup [(eVar 3)]) (eB dTuple [(eComp [4] (iSeq (eOp (dGetK tabs) (eVar 1) (eVar 3))) (tgName 4) (fun _ => pure true) (eMeth "Words" "thing_of" (F .Words_thing_of) (eVar 0) [(eVar 4), (eOp dAdd (eVar 2) (eC (.int 1)))]))])))))
def g_Words_several (F : Fn → List D → M D) : Ev → M Fl := (sSeq (sAsg 3 (eMeth "Words" "next_number" (F .Words_next_number) (eVar 0) [])) (sSeq (sIf (tVal (eOp dLt (eVar 3) (eC (.int 0)))) (sRaise "NoText" (eC (.str "no such many"))) sNop) (sRet (eB dTuple [(eComp [4] (iRange (eVar 3)) (tgName 4) (fun _ => pure true) (eMeth "Words" "thing_of" (F .Words_thing_of) (eVar 0) [(eVar 1), (eOp dAdd (eVar 2) (eC (.int 1)))]))]))))
def g_Words_thing_of (F : Fn → List D → M D) : Ev → M Fl := (sSeq (sIf (tVal (eOp dGt (eVar 2) (eC (.int 150)))) (sRaise "NoText" (eC (.str "too deep"))) sNop) (sSeq (sIf (tVal (eOp dEqS (eVar 1) (eC (.str "number")))) (sRet (eMeth "Words" "next_number" (F .Words_next_number) (eVar 0) [])) sNop) (sSeq (sIf (tVal (eOp dEqS (eVar 1) (eC (.str "word")))) (sRet (eMeth "Words" "next_word" (F .Words_next_word) (eVar 0) [])) sNop) (sSeq (sIf (tVal (eOp (dInK tabs) (eVar 1) (eC (.con "SEVERAL")))) (sRet (eMeth "Words" "several" (F .Words_several) (eVar 0) [(eOp (dGetK tabs) (eC (.con "SEVERAL")) (eVar 1)), (eVar 2)])) sNop) (sRet (eMeth "Words" "headed" (F .Words_headed) (eVar 0) [(eOp (dGetK tabs) (eC (.con "HEADS")) (eVar 1)), (eVar 2)]))))))
def fns : Nat → Fn → List D → M D
  | 0, _ => fun _ => M.stuck
  | n + 1, .is_whole => runF 1 (g_is_whole (fns n))
  | n + 1, .is_rule => runF 2 (g_is_rule (fns n))
  | n + 1, .is_change => runF 1 (g_is_change (fns n))
  | n + 1, .is_test => runF 2 (g_is_test (fns n))
  | n + 1, .is_look => runF 1 (g_is_look (fns n))
  | n + 1, .is_between => runF 3 (g_is_between (fns n))
  | n + 1, .is_word => runF 2 (g_is_word (fns n))
  | n + 1, .are_numbers => runF 2 (g_are_numbers (fns n))
  | n + 1, .is_leaf => runF 1 (g_is_leaf (fns n))
  | n + 1, .is_joined => runF 2 (g_is_joined (fns n))
  | n + 1, .has_numbers => runF 3 (g_has_numbers (fns n))
  | n + 1, .is_plan => runF 1 (g_is_plan (fns n))
  | n + 1, .words_for => runF 3 (g_words_for (fns n))
  | n + 1, .plan_text => runF 1 (g_plan_text (fns n))
  | n + 1, .is_figures => runF 2 (g_is_figures (fns n))
  | n + 1, .read_plan => runF 3 (g_read_plan (fns n))
  | n + 1, .l_pot => runF 4 (g_l_pot (fns n))
  | n + 1, .l_take => runF 3 (g_l_take (fns n))
  | n + 1, .l_number => runF 1 (g_l_number (fns n))
  | n + 1, .l_word => runF 4 (g_l_word (fns n))
  | n + 1, .l_rest => runF 1 (g_l_rest (fns n))
  | n + 1, .l_change => runF 2 (g_l_change (fns n))
  | n + 1, .l_rule => runF 2 (g_l_rule (fns n))
  | n + 1, .l_look => runF 4 (g_l_look (fns n))
  | n + 1, .l_test => runF 3 (g_l_test (fns n))
  | n + 1, .l_leaf => runF 5 (g_l_leaf (fns n))
  | n + 1, .l_upon => runF 4 (g_l_upon (fns n))
  | n + 1, .l_plan => runF 6 (g_l_plan (fns n))
  | n + 1, .l_sorts => runF 2 (g_l_sorts (fns n))
  | n + 1, .l_words => runF 5 (g_l_words (fns n))
  | n + 1, .l_tall => runF 3 (g_l_tall (fns n))
  | n + 1, .l_parts => runF 3 (g_l_parts (fns n))
  | n + 1, .l_deep => runF 3 (g_l_deep (fns n))
  | n + 1, .l_bounded => runF 3 (g_l_bounded (fns n))
  | n + 1, .l_right => runF 3 (g_l_right (fns n))
  | n + 1, .law => runF 4 (g_law (fns n))
  | n + 1, .Words_init => runF 2 (g_Words_init (fns n))
  | n + 1, .Words_is_read => runF 1 (g_Words_is_read (fns n))
  | n + 1, .Words_next_word => runF 1 (g_Words_next_word (fns n))
  | n + 1, .Words_next_number => runF 2 (g_Words_next_number (fns n))
  | n + 1, .Words_headed => runF 5 (g_Words_headed (fns n))
  | n + 1, .Words_several => runF 5 (g_Words_several (fns n))
  | n + 1, .Words_thing_of => runF 3 (g_Words_thing_of (fns n))
  | n + 1, .new_Words => newIns "Words" (fns n .Words_init)
end K91
end

section
set_option Elab.async false
set_option linter.all false
set_option maxRecDepth 100000
set_option maxHeartbeats 1000000
namespace K91
open PySem L2 G
theorem sok (x : Str) (h : PyData.strOk x = true := by decide +kernel) : PyData.strOk x = true := h
theorem runF_ret {n : Nat} {g : Ev → M Fl} {ds : List D} {st st' : Store} {d : D} (h : g (ds.map some ++ List.replicate (n - ds.length) none) st = .ok (.ret d) st') : runF n g ds st = .ok d st' := by
  show (noErr _ >>= _) st = _
  rw [bind_app, noErr_app, h]
  rfl
theorem whole_is {L k n : Nat} {d : D} {st : Store} (h : Sh L k d) : fns (n + 1) .is_whole [d] st = .ok (.bl (qInt d)) st := by
  refine runF_ret ?_
  simp only [g_is_whole, sRet_app, eAnd_app, eNot_app, eUn_app, List.map_cons, List.map_nil, List.length_cons, List.length_nil]
  rw [eVar_at 0 (d := d) (by simp)]
  simp only [bnd_ok, dIsT_int h, lif_some, asB_bl]
  cases d <;> first | (simp [Sh] at h; done) | simp [qInt, qBl, dIsT, tyName, isTy]
/-- a change that is read as one -/
def posD : D → Bool
  | .int i => decide (0 < i)
  | _ => false
def chg : D → Bool
  | .tup [x] => isW x "one" || isW x "sum"
  | .tup [x, y] => qInt y && ((isW x "add" || isW x "times") || (isW x "rest" && posD y))
  | _ => false
theorem change_is {L k n : Nat} {d : D} {st : Store} (h : Sh L k d) (hk : k ≤ 64) : fns (n + 2) .is_change [d] st = .ok (.bl (chg d)) st := by
  refine runF_ret ?_
  simp only [List.map_cons, List.map_nil, List.length_cons, List.length_nil]
  cases d with
  | tup l =>
    cases k with
    | zero => simp [Sh] at h
    | succ k =>
      have h' := h
      simp only [Sh] at h'
      cases l with
      | nil => simp [g_is_change, dIsT, tyName, isTy, chg]
      | cons x l =>
        have hx := h'.2 x (by simp)
        cases l with
        | nil => simp [g_is_change, dIsT, tyName, isTy, chg, dIn_2 (x := "one") (y := "sum") hx (by omega) (by decide +kernel)]
        | cons y l =>
          have hy := h'.2 y (by simp)
          cases l with
          | nil =>
            have f1 := fun st => dIn_2 (st := st) (x := "add") (y := "times") hx (by omega) (by decide +kernel)
            have f2 := fun st => dEq_w (st := st) (x := "rest") hx (by omega) (by decide +kernel)
            generalize e1 : isW x "add" = b1 at f1
            generalize e2 : isW x "times" = b2 at f1
            generalize e3 : isW x "rest" = b3 at f2
            cases b1 <;> cases b2 <;> cases b3 <;> cases y <;> simp [g_is_change, dIsT, tyName, isTy, chg, whole_is hy, qInt, posD, f1, f2, e1, e2, e3]
          | cons z l =>
            have a1 : ¬ ((l.length : Int) + 1 + 1 + 1 = 0) := by omega
            have a2 : ¬ ((l.length : Int) + 1 + 1 + 1 = 1) := by omega
            have a3 : (2 : Int) < (l.length : Int) + 1 + 1 + 1 := by omega
            simp [g_is_change, dIsT, tyName, isTy, chg, a1, a2, a3]
  | _ => first | (simp [Sh] at h; done) | simp [g_is_change, dIsT, tyName, isTy, chg]

theorem notTup {L k : Nat} {d : D} (h : Sh L k d) (ht : ∀ l, d ≠ .tup l) : qTup d = false := by cases d <;> first | rfl | exact absurd rfl (ht _)
/-! ## words, numbers -/
abbrev abc : Str := "abcdefghijklmnopqrstuvwxyz"
def chB (d : D) : Bool := match sign? d with
  | some c => decide (c ∈ abc.cps.toList)
  | none => false
theorem sign_of (c : Nat) : sign? (.str ⟨#[c]⟩) = some c := rfl
def wordB : D → Bool
  | .str z => decide (1 ≤ z.length) && (decide (z.length ≤ 8) && (chars z).all chB)
  | _ => false
theorem word_is {L k n : Nat} {d : D} {st : Store} (h : Sh L k d) : fns (n + 1) .is_word [d] st = .ok (.bl (wordB d)) st := by
  refine runF_ret ?_
  by_cases hs : ∃ z, d = .str z
  · obtain ⟨z, rfl⟩ := hs
    simp only [Sh] at h
    have ln : ∀ st, dLen [.str z] st = some (.int z.length) := fun st => by
      simp only [dLen]
      rw [if_pos (Nat.le_trans h.2 (by decide))]
    have e : eComp [1] (iChars (eVar 0)) (tgName 1) (fun _ => pure true) (eOp dInS (eVar 1) (eC (.str abc))) [some (.str z), none] st = .ok (.lst ((chars z).map fun d => .bl (chB d))) st := by
      refine eComp_of (l := chars z) (st1 := st) (iChars_at (by simp) (Nat.le_trans h.2 (by decide))) ?_
      rw [compGo_map fun d => .bl (chB d)]
      · simp
      · intro d hd
        obtain ⟨c, hc, rfl⟩ := List.mem_map.mp hd
        simp [evWipe, dInS, sign_of, chB]
    have ts : ∀ st, dIsT "str" (.str z) st = some (.bl true) := fun st => rfl
    by_cases c1 : 1 ≤ z.length
    · by_cases c2 : z.length ≤ 8
      · have c1' : (1 : Int) ≤ z.length := by omega
        have c2' : (z.length : Int) ≤ 8 := by omega
        simp [g_is_word, ts, ln, c1', c2', e, dAll, bools_map, wordB, c1, c2]
      · have c1' : (1 : Int) ≤ z.length := by omega
        have c2' : ¬ (z.length : Int) ≤ 8 := by omega
        simp [g_is_word, ts, ln, c1', c2', wordB, c2]
    · have c1' : ¬ (1 : Int) ≤ z.length := by omega
      simp [g_is_word, ts, ln, c1', wordB, c1]
  · have z : qStr d = false := by cases d <;> first | rfl | exact absurd ⟨_, rfl⟩ hs
    have z2 : wordB d = false := by cases d <;> first | rfl | exact absurd ⟨_, rfl⟩ hs
    simp [g_is_word, dIsT_str h, z, z2]
def numsB : D → Bool
  | .tup l => l.all qInt
  | _ => false
theorem numbers_is {L k n : Nat} {d : D} {st : Store} (h : Sh L k d) : fns (n + 2) .are_numbers [d] st = .ok (.bl (numsB d)) st := by
  refine runF_ret ?_
  by_cases ht : ∃ l, d = .tup l
  · obtain ⟨l, rfl⟩ := ht
    cases k with
    | zero => simp [Sh] at h
    | succ k =>
      have h' := h
      simp only [Sh] at h'
      have e : eComp [1] (iSeq (eVar 0)) (tgName 1) (fun _ => pure true) (eCall (fns (n + 1) .is_whole) [(eVar 1)]) [some (.tup l), none] st = .ok (.lst (l.map fun d => .bl (qInt d))) st := by
        refine eComp_of (l := l) (st1 := st) (by simp) ?_
        rw [compGo_map fun d => .bl (qInt d)]
        · simp
        · intro d hd
          simp [evWipe, whole_is (h'.2 d hd)]
      simp [g_are_numbers, dIsT_tuple h, qTup, e, dAll, bools_map, numsB]
  · have z : qTup d = false := notTup h fun l e => ht ⟨l, e⟩
    have z2 : numsB d = false := by cases d <;> first | rfl | exact absurd ⟨_, rfl⟩ ht
    simp [g_are_numbers, dIsT_tuple h, z, z2]
def betB (d : D) (lo hi : Int) : Bool := match d with
  | .int i => decide (lo ≤ i) && decide (i ≤ hi)
  | _ => false
theorem between_is {L k n : Nat} {d : D} {lo hi : Int} {st : Store} (h : Sh L k d) : fns (n + 2) .is_between [d, .int lo, .int hi] st = .ok (.bl (betB d lo hi)) st := by
  refine runF_ret ?_
  have w := fun st => whole_is (n := n) (st := st) h
  by_cases hi' : ∃ i, d = .int i
  · obtain ⟨i, rfl⟩ := hi'
    by_cases c1 : lo ≤ i <;> simp [g_is_between, w, qInt, betB, c1]
  · have z : qInt d = false := by cases d <;> first | rfl | exact absurd ⟨_, rfl⟩ hi'
    have z2 : betB d lo hi = false := by cases d <;> first | rfl | exact absurd ⟨_, rfl⟩ hi'
    simp [g_is_between, w, z, z2]
/-! ## the sorts of a word -/
def byB : D → Bool
  | .int i => decide (0 < i)
  | _ => false
end K91
end

section
set_option Elab.async false
set_option linter.all false
set_option maxRecDepth 100000
set_option maxHeartbeats 1000000
namespace K91
open PySem L2 G
theorem we (x y : Str) (b : Bool) (h : (x == y) = b) (hx : PyData.strOk x = true ∧ x.length ≤ 100) (hy : PyData.strOk y = true) (st : Store) : dEq (.str x) (.str y) st = some (.bl b) := by
  have s : Sh 0 0 (.str x) := by simpa only [Sh] using hx
  rw [dEq_w s (by decide) hy]
  simp only [isW, h]
theorem wi (x : Str) (ys : List Str) (b : Bool) (h : (ys.any fun y => isW (.str x) y) = b) (hx : PyData.strOk x = true ∧ x.length ≤ 100) (hy : ys.all PyData.strOk = true) (st : Store) : dIn (.str x) (.tup (ys.map D.str)) st = some (.bl b) := by
  have s : Sh 0 0 (.str x) := by simpa only [Sh] using hx
  have e := inD_strs s (by decide) hy
  rw [h] at e
  simp only [dIn, e, Option.map_some]
@[simp] theorem q_plan_plan (st : Store) : dEq (.str "plan") (.str "plan") st = some (.bl true) := we _ _ _ (by decide +kernel) (by decide +kernel) (by decide +kernel) st
@[simp] theorem q_plan_rule (st : Store) : dEq (.str "plan") (.str "rule") st = some (.bl false) := we _ _ _ (by decide +kernel) (by decide +kernel) (by decide +kernel) st
@[simp] theorem q_plan_test (st : Store) : dEq (.str "plan") (.str "test") st = some (.bl false) := we _ _ _ (by decide +kernel) (by decide +kernel) (by decide +kernel) st
@[simp] theorem q_plan_word (st : Store) : dEq (.str "plan") (.str "word") st = some (.bl false) := we _ _ _ (by decide +kernel) (by decide +kernel) (by decide +kernel) st
@[simp] theorem q_plan_numbers (st : Store) : dEq (.str "plan") (.str "numbers") st = some (.bl false) := we _ _ _ (by decide +kernel) (by decide +kernel) (by decide +kernel) st
@[simp] theorem q_plan_more (st : Store) : dEq (.str "plan") (.str "more") st = some (.bl false) := we _ _ _ (by decide +kernel) (by decide +kernel) (by decide +kernel) st
@[simp] theorem q_plan_any (st : Store) : dEq (.str "plan") (.str "any") st = some (.bl false) := we _ _ _ (by decide +kernel) (by decide +kernel) (by decide +kernel) st
@[simp] theorem q_plan_by (st : Store) : dEq (.str "plan") (.str "by") st = some (.bl false) := we _ _ _ (by decide +kernel) (by decide +kernel) (by decide +kernel) st
@[simp] theorem i_plan_nsm (st : Store) : dIn (.str "plan") (.tup [.str "numbers", .str "some", .str "more"]) st = some (.bl false) := wi "plan" ["numbers", "some", "more"] _ (by decide +kernel) (by decide +kernel) (by decide +kernel) st
@[simp] theorem q_rule_plan (st : Store) : dEq (.str "rule") (.str "plan") st = some (.bl false) := we _ _ _ (by decide +kernel) (by decide +kernel) (by decide +kernel) st
@[simp] theorem q_rule_rule (st : Store) : dEq (.str "rule") (.str "rule") st = some (.bl true) := we _ _ _ (by decide +kernel) (by decide +kernel) (by decide +kernel) st
@[simp] theorem q_rule_test (st : Store) : dEq (.str "rule") (.str "test") st = some (.bl false) := we _ _ _ (by decide +kernel) (by decide +kernel) (by decide +kernel) st
@[simp] theorem q_rule_word (st : Store) : dEq (.str "rule") (.str "word") st = some (.bl false) := we _ _ _ (by decide +kernel) (by decide +kernel) (by decide +kernel) st
@[simp] theorem q_rule_numbers (st : Store) : dEq (.str "rule") (.str "numbers") st = some (.bl false) := we _ _ _ (by decide +kernel) (by decide +kernel) (by decide +kernel) st
@[simp] theorem q_rule_more (st : Store) : dEq (.str "rule") (.str "more") st = some (.bl false) := we _ _ _ (by decide +kernel) (by decide +kernel) (by decide +kernel) st
@[simp] theorem q_rule_any (st : Store) : dEq (.str "rule") (.str "any") st = some (.bl false) := we _ _ _ (by decide +kernel) (by decide +kernel) (by decide +kernel) st
@[simp] theorem q_rule_by (st : Store) : dEq (.str "rule") (.str "by") st = some (.bl false) := we _ _ _ (by decide +kernel) (by decide +kernel) (by decide +kernel) st
@[simp] theorem i_rule_nsm (st : Store) : dIn (.str "rule") (.tup [.str "numbers", .str "some", .str "more"]) st = some (.bl false) := wi "rule" ["numbers", "some", "more"] _ (by decide +kernel) (by decide +kernel) (by decide +kernel) st
@[simp] theorem q_test_plan (st : Store) : dEq (.str "test") (.str "plan") st = some (.bl false) := we _ _ _ (by decide +kernel) (by decide +kernel) (by decide +kernel) st
@[simp] theorem q_test_rule (st : Store) : dEq (.str "test") (.str "rule") st = some (.bl false) := we _ _ _ (by decide +kernel) (by decide +kernel) (by decide +kernel) st
@[simp] theorem q_test_test (st : Store) : dEq (.str "test") (.str "test") st = some (.bl true) := we _ _ _ (by decide +kernel) (by decide +kernel) (by decide +kernel) st
@[simp] theorem q_test_word (st : Store) : dEq (.str "test") (.str "word") st = some (.bl false) := we _ _ _ (by decide +kernel) (by decide +kernel) (by decide +kernel) st
@[simp] theorem q_test_numbers (st : Store) : dEq (.str "test") (.str "numbers") st = some (.bl false) := we _ _ _ (by decide +kernel) (by decide +kernel) (by decide +kernel) st
@[simp] theorem q_test_more (st : Store) : dEq (.str "test") (.str "more") st = some (.bl false) := we _ _ _ (by decide +kernel) (by decide +kernel) (by decide +kernel) st
@[simp] theorem q_test_any (st : Store) : dEq (.str "test") (.str "any") st = some (.bl false) := we _ _ _ (by decide +kernel) (by decide +kernel) (by decide +kernel) st
@[simp] theorem q_test_by (st : Store) : dEq (.str "test") (.str "by") st = some (.bl false) := we _ _ _ (by decide +kernel) (by decide +kernel) (by decide +kernel) st
@[simp] theorem i_test_nsm (st : Store) : dIn (.str "test") (.tup [.str "numbers", .str "some", .str "more"]) st = some (.bl false) := wi "test" ["numbers", "some", "more"] _ (by decide +kernel) (by decide +kernel) (by decide +kernel) st
@[simp] theorem q_word_plan (st : Store) : dEq (.str "word") (.str "plan") st = some (.bl false) := we _ _ _ (by decide +kernel) (by decide +kernel) (by decide +kernel) st
@[simp] theorem q_word_rule (st : Store) : dEq (.str "word") (.str "rule") st = some (.bl false) := we _ _ _ (by decide +kernel) (by decide +kernel) (by decide +kernel) st
@[simp] theorem q_word_test (st : Store) : dEq (.str "word") (.str "test") st = some (.bl false) := we _ _ _ (by decide +kernel) (by decide +kernel) (by decide +kernel) st
@[simp] theorem q_word_word (st : Store) : dEq (.str "word") (.str "word") st = some (.bl true) := we _ _ _ (by decide +kernel) (by decide +kernel) (by decide +kernel) st
@[simp] theorem q_word_numbers (st : Store) : dEq (.str "word") (.str "numbers") st = some (.bl false) := we _ _ _ (by decide +kernel) (by decide +kernel) (by decide +kernel) st
@[simp] theorem q_word_more (st : Store) : dEq (.str "word") (.str "more") st = some (.bl false) := we _ _ _ (by decide +kernel) (by decide +kernel) (by decide +kernel) st
@[simp] theorem q_word_any (st : Store) : dEq (.str "word") (.str "any") st = some (.bl false) := we _ _ _ (by decide +kernel) (by decide +kernel) (by decide +kernel) st
@[simp] theorem q_word_by (st : Store) : dEq (.str "word") (.str "by") st = some (.bl false) := we _ _ _ (by decide +kernel) (by decide +kernel) (by decide +kernel) st
@[simp] theorem i_word_nsm (st : Store) : dIn (.str "word") (.tup [.str "numbers", .str "some", .str "more"]) st = some (.bl false) := wi "word" ["numbers", "some", "more"] _ (by decide +kernel) (by decide +kernel) (by decide +kernel) st
@[simp] theorem q_numbers_plan (st : Store) : dEq (.str "numbers") (.str "plan") st = some (.bl false) := we _ _ _ (by decide +kernel) (by decide +kernel) (by decide +kernel) st
@[simp] theorem q_numbers_rule (st : Store) : dEq (.str "numbers") (.str "rule") st = some (.bl false) := we _ _ _ (by decide +kernel) (by decide +kernel) (by decide +kernel) st
@[simp] theorem q_numbers_test (st : Store) : dEq (.str "numbers") (.str "test") st = some (.bl false) := we _ _ _ (by decide +kernel) (by decide +kernel) (by decide +kernel) st
@[simp] theorem q_numbers_word (st : Store) : dEq (.str "numbers") (.str "word") st = some (.bl false) := we _ _ _ (by decide +kernel) (by decide +kernel) (by decide +kernel) st
@[simp] theorem q_numbers_numbers (st : Store) : dEq (.str "numbers") (.str "numbers") st = some (.bl true) := we _ _ _ (by decide +kernel) (by decide +kernel) (by decide +kernel) st
@[simp] theorem q_numbers_more (st : Store) : dEq (.str "numbers") (.str "more") st = some (.bl false) := we _ _ _ (by decide +kernel) (by decide +kernel) (by decide +kernel) st
@[simp] theorem q_numbers_any (st : Store) : dEq (.str "numbers") (.str "any") st = some (.bl false) := we _ _ _ (by decide +kernel) (by decide +kernel) (by decide +kernel) st
@[simp] theorem q_numbers_by (st : Store) : dEq (.str "numbers") (.str "by") st = some (.bl false) := we _ _ _ (by decide +kernel) (by decide +kernel) (by decide +kernel) st
@[simp] theorem i_numbers_nsm (st : Store) : dIn (.str "numbers") (.tup [.str "numbers", .str "some", .str "more"]) st = some (.bl true) := wi "numbers" ["numbers", "some", "more"] _ (by decide +kernel) (by decide +kernel) (by decide +kernel) st
@[simp] theorem q_some_plan (st : Store) : dEq (.str "some") (.str "plan") st = some (.bl false) := we _ _ _ (by decide +kernel) (by decide +kernel) (by decide +kernel) st
@[simp] theorem q_some_rule (st : Store) : dEq (.str "some") (.str "rule") st = some (.bl false) := we _ _ _ (by decide +kernel) (by decide +kernel) (by decide +kernel) st
@[simp] theorem q_some_test (st : Store) : dEq (.str "some") (.str "test") st = some (.bl false) := we _ _ _ (by decide +kernel) (by decide +kernel) (by decide +kernel) st
@[simp] theorem q_some_word (st : Store) : dEq (.str "some") (.str "word") st = some (.bl false) := we _ _ _ (by decide +kernel) (by decide +kernel) (by decide +kernel) st
@[simp] theorem q_some_numbers (st : Store) : dEq (.str "some") (.str "numbers") st = some (.bl false) := we _ _ _ (by decide +kernel) (by decide +kernel) (by decide +kernel) st
@[simp] theorem q_some_more (st : Store) : dEq (.str "some") (.str "more") st = some (.bl false) := we _ _ _ (by decide +kernel) (by decide +kernel) (by decide +kernel) st
@[simp] theorem q_some_any (st : Store) : dEq (.str "some") (.str "any") st = some (.bl false) := we _ _ _ (by decide +kernel) (by decide +kernel) (by decide +kernel) st
@[simp] theorem q_some_by (st : Store) : dEq (.str "some") (.str "by") st = some (.bl false) := we _ _ _ (by decide +kernel) (by decide +kernel) (by decide +kernel) st
@[simp] theorem i_some_nsm (st : Store) : dIn (.str "some") (.tup [.str "numbers", .str "some", .str "more"]) st = some (.bl true) := wi "some" ["numbers", "some", "more"] _ (by decide +kernel) (by decide +kernel) (by decide +kernel) st
@[simp] theorem q_more_plan (st : Store) : dEq (.str "more") (.str "plan") st = some (.bl false) := we _ _ _ (by decide +kernel) (by decide +kernel) (by decide +kernel) st
@[simp] theorem q_more_rule (st : Store) : dEq (.str "more") (.str "rule") st = some (.bl false) := we _ _ _ (by decide +kernel) (by decide +kernel) (by decide +kernel) st
@[simp] theorem q_more_test (st : Store) : dEq (.str "more") (.str "test") st = some (.bl false) := we _ _ _ (by decide +kernel) (by decide +kernel) (by decide +kernel) st
@[simp] theorem q_more_word (st : Store) : dEq (.str "more") (.str "word") st = some (.bl false) := we _ _ _ (by decide +kernel) (by decide +kernel) (by decide +kernel) st
@[simp] theorem q_more_numbers (st : Store) : dEq (.str "more") (.str "numbers") st = some (.bl false) := we _ _ _ (by decide +kernel) (by decide +kernel) (by decide +kernel) st
@[simp] theorem q_more_more (st : Store) : dEq (.str "more") (.str "more") st = some (.bl true) := we _ _ _ (by decide +kernel) (by decide +kernel) (by decide +kernel) st
@[simp] theorem q_more_any (st : Store) : dEq (.str "more") (.str "any") st = some (.bl false) := we _ _ _ (by decide +kernel) (by decide +kernel) (by decide +kernel) st
@[simp] theorem q_more_by (st : Store) : dEq (.str "more") (.str "by") st = some (.bl false) := we _ _ _ (by decide +kernel) (by decide +kernel) (by decide +kernel) st
@[simp] theorem i_more_nsm (st : Store) : dIn (.str "more") (.tup [.str "numbers", .str "some", .str "more"]) st = some (.bl true) := wi "more" ["numbers", "some", "more"] _ (by decide +kernel) (by decide +kernel) (by decide +kernel) st
@[simp] theorem q_any_plan (st : Store) : dEq (.str "any") (.str "plan") st = some (.bl false) := we _ _ _ (by decide +kernel) (by decide +kernel) (by decide +kernel) st
@[simp] theorem q_any_rule (st : Store) : dEq (.str "any") (.str "rule") st = some (.bl false) := we _ _ _ (by decide +kernel) (by decide +kernel) (by decide +kernel) st
@[simp] theorem q_any_test (st : Store) : dEq (.str "any") (.str "test") st = some (.bl false) := we _ _ _ (by decide +kernel) (by decide +kernel) (by decide +kernel) st
@[simp] theorem q_any_word (st : Store) : dEq (.str "any") (.str "word") st = some (.bl false) := we _ _ _ (by decide +kernel) (by decide +kernel) (by decide +kernel) st
@[simp] theorem q_any_numbers (st : Store) : dEq (.str "any") (.str "numbers") st = some (.bl false) := we _ _ _ (by decide +kernel) (by decide +kernel) (by decide +kernel) st
@[simp] theorem q_any_more (st : Store) : dEq (.str "any") (.str "more") st = some (.bl false) := we _ _ _ (by decide +kernel) (by decide +kernel) (by decide +kernel) st
@[simp] theorem q_any_any (st : Store) : dEq (.str "any") (.str "any") st = some (.bl true) := we _ _ _ (by decide +kernel) (by decide +kernel) (by decide +kernel) st
@[simp] theorem q_any_by (st : Store) : dEq (.str "any") (.str "by") st = some (.bl false) := we _ _ _ (by decide +kernel) (by decide +kernel) (by decide +kernel) st
@[simp] theorem i_any_nsm (st : Store) : dIn (.str "any") (.tup [.str "numbers", .str "some", .str "more"]) st = some (.bl false) := wi "any" ["numbers", "some", "more"] _ (by decide +kernel) (by decide +kernel) (by decide +kernel) st
@[simp] theorem q_by_plan (st : Store) : dEq (.str "by") (.str "plan") st = some (.bl false) := we _ _ _ (by decide +kernel) (by decide +kernel) (by decide +kernel) st
@[simp] theorem q_by_rule (st : Store) : dEq (.str "by") (.str "rule") st = some (.bl false) := we _ _ _ (by decide +kernel) (by decide +kernel) (by decide +kernel) st
@[simp] theorem q_by_test (st : Store) : dEq (.str "by") (.str "test") st = some (.bl false) := we _ _ _ (by decide +kernel) (by decide +kernel) (by decide +kernel) st
@[simp] theorem q_by_word (st : Store) : dEq (.str "by") (.str "word") st = some (.bl false) := we _ _ _ (by decide +kernel) (by decide +kernel) (by decide +kernel) st
@[simp] theorem q_by_numbers (st : Store) : dEq (.str "by") (.str "numbers") st = some (.bl false) := we _ _ _ (by decide +kernel) (by decide +kernel) (by decide +kernel) st
@[simp] theorem q_by_more (st : Store) : dEq (.str "by") (.str "more") st = some (.bl false) := we _ _ _ (by decide +kernel) (by decide +kernel) (by decide +kernel) st
@[simp] theorem q_by_any (st : Store) : dEq (.str "by") (.str "any") st = some (.bl false) := we _ _ _ (by decide +kernel) (by decide +kernel) (by decide +kernel) st
@[simp] theorem q_by_by (st : Store) : dEq (.str "by") (.str "by") st = some (.bl true) := we _ _ _ (by decide +kernel) (by decide +kernel) (by decide +kernel) st
@[simp] theorem i_by_nsm (st : Store) : dIn (.str "by") (.tup [.str "numbers", .str "some", .str "more"]) st = some (.bl false) := wi "by" ["numbers", "some", "more"] _ (by decide +kernel) (by decide +kernel) (by decide +kernel) st
@[simp] theorem q_far_plan (st : Store) : dEq (.str "far") (.str "plan") st = some (.bl false) := we _ _ _ (by decide +kernel) (by decide +kernel) (by decide +kernel) st
@[simp] theorem q_far_rule (st : Store) : dEq (.str "far") (.str "rule") st = some (.bl false) := we _ _ _ (by decide +kernel) (by decide +kernel) (by decide +kernel) st
@[simp] theorem q_far_test (st : Store) : dEq (.str "far") (.str "test") st = some (.bl false) := we _ _ _ (by decide +kernel) (by decide +kernel) (by decide +kernel) st
@[simp] theorem q_far_word (st : Store) : dEq (.str "far") (.str "word") st = some (.bl false) := we _ _ _ (by decide +kernel) (by decide +kernel) (by decide +kernel) st
@[simp] theorem q_far_numbers (st : Store) : dEq (.str "far") (.str "numbers") st = some (.bl false) := we _ _ _ (by decide +kernel) (by decide +kernel) (by decide +kernel) st
@[simp] theorem q_far_more (st : Store) : dEq (.str "far") (.str "more") st = some (.bl false) := we _ _ _ (by decide +kernel) (by decide +kernel) (by decide +kernel) st
@[simp] theorem q_far_any (st : Store) : dEq (.str "far") (.str "any") st = some (.bl false) := we _ _ _ (by decide +kernel) (by decide +kernel) (by decide +kernel) st
@[simp] theorem q_far_by (st : Store) : dEq (.str "far") (.str "by") st = some (.bl false) := we _ _ _ (by decide +kernel) (by decide +kernel) (by decide +kernel) st
@[simp] theorem i_far_nsm (st : Store) : dIn (.str "far") (.tup [.str "numbers", .str "some", .str "more"]) st = some (.bl false) := wi "far" ["numbers", "some", "more"] _ (by decide +kernel) (by decide +kernel) (by decide +kernel) st
@[simp] theorem q_row_plan (st : Store) : dEq (.str "row") (.str "plan") st = some (.bl false) := we _ _ _ (by decide +kernel) (by decide +kernel) (by decide +kernel) st
@[simp] theorem q_row_rule (st : Store) : dEq (.str "row") (.str "rule") st = some (.bl false) := we _ _ _ (by decide +kernel) (by decide +kernel) (by decide +kernel) st
@[simp] theorem q_row_test (st : Store) : dEq (.str "row") (.str "test") st = some (.bl false) := we _ _ _ (by decide +kernel) (by decide +kernel) (by decide +kernel) st
@[simp] theorem q_row_word (st : Store) : dEq (.str "row") (.str "word") st = some (.bl false) := we _ _ _ (by decide +kernel) (by decide +kernel) (by decide +kernel) st
@[simp] theorem q_row_numbers (st : Store) : dEq (.str "row") (.str "numbers") st = some (.bl false) := we _ _ _ (by decide +kernel) (by decide +kernel) (by decide +kernel) st
@[simp] theorem q_row_more (st : Store) : dEq (.str "row") (.str "more") st = some (.bl false) := we _ _ _ (by decide +kernel) (by decide +kernel) (by decide +kernel) st
@[simp] theorem q_row_any (st : Store) : dEq (.str "row") (.str "any") st = some (.bl false) := we _ _ _ (by decide +kernel) (by decide +kernel) (by decide +kernel) st
@[simp] theorem q_row_by (st : Store) : dEq (.str "row") (.str "by") st = some (.bl false) := we _ _ _ (by decide +kernel) (by decide +kernel) (by decide +kernel) st
@[simp] theorem i_row_nsm (st : Store) : dIn (.str "row") (.tup [.str "numbers", .str "some", .str "more"]) st = some (.bl false) := wi "row" ["numbers", "some", "more"] _ (by decide +kernel) (by decide +kernel) (by decide +kernel) st
@[simp] theorem q_size_plan (st : Store) : dEq (.str "size") (.str "plan") st = some (.bl false) := we _ _ _ (by decide +kernel) (by decide +kernel) (by decide +kernel) st
@[simp] theorem q_size_rule (st : Store) : dEq (.str "size") (.str "rule") st = some (.bl false) := we _ _ _ (by decide +kernel) (by decide +kernel) (by decide +kernel) st
@[simp] theorem q_size_test (st : Store) : dEq (.str "size") (.str "test") st = some (.bl false) := we _ _ _ (by decide +kernel) (by decide +kernel) (by decide +kernel) st
@[simp] theorem q_size_word (st : Store) : dEq (.str "size") (.str "word") st = some (.bl false) := we _ _ _ (by decide +kernel) (by decide +kernel) (by decide +kernel) st
@[simp] theorem q_size_numbers (st : Store) : dEq (.str "size") (.str "numbers") st = some (.bl false) := we _ _ _ (by decide +kernel) (by decide +kernel) (by decide +kernel) st
@[simp] theorem q_size_more (st : Store) : dEq (.str "size") (.str "more") st = some (.bl false) := we _ _ _ (by decide +kernel) (by decide +kernel) (by decide +kernel) st
@[simp] theorem q_size_any (st : Store) : dEq (.str "size") (.str "any") st = some (.bl false) := we _ _ _ (by decide +kernel) (by decide +kernel) (by decide +kernel) st
@[simp] theorem q_size_by (st : Store) : dEq (.str "size") (.str "by") st = some (.bl false) := we _ _ _ (by decide +kernel) (by decide +kernel) (by decide +kernel) st
@[simp] theorem i_size_nsm (st : Store) : dIn (.str "size") (.tup [.str "numbers", .str "some", .str "more"]) st = some (.bl false) := wi "size" ["numbers", "some", "more"] _ (by decide +kernel) (by decide +kernel) (by decide +kernel) st
@[simp] theorem q_list_list (st : Store) : dEq (.str "list") (.str "list") st = some (.bl true) := we _ _ _ (by decide +kernel) (by decide +kernel) (by decide +kernel) st
@[simp] theorem q_list_broken (st : Store) : dEq (.str "list") (.str "broken") st = some (.bl false) := we _ _ _ (by decide +kernel) (by decide +kernel) (by decide +kernel) st
@[simp] theorem q_list_row (st : Store) : dEq (.str "list") (.str "row") st = some (.bl false) := we _ _ _ (by decide +kernel) (by decide +kernel) (by decide +kernel) st
@[simp] theorem q_list_ahead (st : Store) : dEq (.str "list") (.str "ahead") st = some (.bl false) := we _ _ _ (by decide +kernel) (by decide +kernel) (by decide +kernel) st
@[simp] theorem q_list_windows (st : Store) : dEq (.str "list") (.str "windows") st = some (.bl false) := we _ _ _ (by decide +kernel) (by decide +kernel) (by decide +kernel) st
@[simp] theorem q_list_wanted (st : Store) : dEq (.str "list") (.str "wanted") st = some (.bl false) := we _ _ _ (by decide +kernel) (by decide +kernel) (by decide +kernel) st
@[simp] theorem q_list_turn (st : Store) : dEq (.str "list") (.str "turn") st = some (.bl false) := we _ _ _ (by decide +kernel) (by decide +kernel) (by decide +kernel) st
@[simp] theorem q_list_marks (st : Store) : dEq (.str "list") (.str "marks") st = some (.bl false) := we _ _ _ (by decide +kernel) (by decide +kernel) (by decide +kernel) st
@[simp] theorem q_list_spare (st : Store) : dEq (.str "list") (.str "spare") st = some (.bl false) := we _ _ _ (by decide +kernel) (by decide +kernel) (by decide +kernel) st
@[simp] theorem q_list_chain (st : Store) : dEq (.str "list") (.str "chain") st = some (.bl false) := we _ _ _ (by decide +kernel) (by decide +kernel) (by decide +kernel) st
@[simp] theorem i_list_leaf (st : Store) : dIn (.str "list") (.tup [.str "list", .str "broken", .str "count", .str "row"]) st = some (.bl true) := wi "list" ["list", "broken", "count", "row"] _ (by decide +kernel) (by decide +kernel) (by decide +kernel) st
@[simp] theorem i_list_join (st : Store) : dIn (.str "list") (.tup [.str "chain", .str "beside"]) st = some (.bl false) := wi "list" ["chain", "beside"] _ (by decide +kernel) (by decide +kernel) (by decide +kernel) st
@[simp] theorem i_list_su (st : Store) : dIn (.str "list") (.tup [.str "sieve", .str "upto"]) st = some (.bl false) := wi "list" ["sieve", "upto"] _ (by decide +kernel) (by decide +kernel) (by decide +kernel) st
@[simp] theorem i_list_cl (st : Store) : dIn (.str "list") (.tup [.str "cut", .str "left"]) st = some (.bl false) := wi "list" ["cut", "left"] _ (by decide +kernel) (by decide +kernel) (by decide +kernel) st
@[simp] theorem q_broken_list (st : Store) : dEq (.str "broken") (.str "list") st = some (.bl false) := we _ _ _ (by decide +kernel) (by decide +kernel) (by decide +kernel) st
@[simp] theorem q_broken_broken (st : Store) : dEq (.str "broken") (.str "broken") st = some (.bl true) := we _ _ _ (by decide +kernel) (by decide +kernel) (by decide +kernel) st
@[simp] theorem q_broken_row (st : Store) : dEq (.str "broken") (.str "row") st = some (.bl false) := we _ _ _ (by decide +kernel) (by decide +kernel) (by decide +kernel) st
@[simp] theorem q_broken_ahead (st : Store) : dEq (.str "broken") (.str "ahead") st = some (.bl false) := we _ _ _ (by decide +kernel) (by decide +kernel) (by decide +kernel) st
@[simp] theorem q_broken_windows (st : Store) : dEq (.str "broken") (.str "windows") st = some (.bl false) := we _ _ _ (by decide +kernel) (by decide +kernel) (by decide +kernel) st
@[simp] theorem q_broken_wanted (st : Store) : dEq (.str "broken") (.str "wanted") st = some (.bl false) := we _ _ _ (by decide +kernel) (by decide +kernel) (by decide +kernel) st
@[simp] theorem q_broken_turn (st : Store) : dEq (.str "broken") (.str "turn") st = some (.bl false) := we _ _ _ (by decide +kernel) (by decide +kernel) (by decide +kernel) st
@[simp] theorem q_broken_marks (st : Store) : dEq (.str "broken") (.str "marks") st = some (.bl false) := we _ _ _ (by decide +kernel) (by decide +kernel) (by decide +kernel) st
@[simp] theorem q_broken_spare (st : Store) : dEq (.str "broken") (.str "spare") st = some (.bl false) := we _ _ _ (by decide +kernel) (by decide +kernel) (by decide +kernel) st
@[simp] theorem q_broken_chain (st : Store) : dEq (.str "broken") (.str "chain") st = some (.bl false) := we _ _ _ (by decide +kernel) (by decide +kernel) (by decide +kernel) st
@[simp] theorem i_broken_leaf (st : Store) : dIn (.str "broken") (.tup [.str "list", .str "broken", .str "count", .str "row"]) st = some (.bl true) := wi "broken" ["list", "broken", "count", "row"] _ (by decide +kernel) (by decide +kernel) (by decide +kernel) st
@[simp] theorem i_broken_join (st : Store) : dIn (.str "broken") (.tup [.str "chain", .str "beside"]) st = some (.bl false) := wi "broken" ["chain", "beside"] _ (by decide +kernel) (by decide +kernel) (by decide +kernel) st
@[simp] theorem i_broken_su (st : Store) : dIn (.str "broken") (.tup [.str "sieve", .str "upto"]) st = some (.bl false) := wi "broken" ["sieve", "upto"] _ (by decide +kernel) (by decide +kernel) (by decide +kernel) st
@[simp] theorem i_broken_cl (st : Store) : dIn (.str "broken") (.tup [.str "cut", .str "left"]) st = some (.bl false) := wi "broken" ["cut", "left"] _ (by decide +kernel) (by decide +kernel) (by decide +kernel) st
@[simp] theorem q_count_list (st : Store) : dEq (.str "count") (.str "list") st = some (.bl false) := we _ _ _ (by decide +kernel) (by decide +kernel) (by decide +kernel) st
@[simp] theorem q_count_broken (st : Store) : dEq (.str "count") (.str "broken") st = some (.bl false) := we _ _ _ (by decide +kernel) (by decide +kernel) (by decide +kernel) st
@[simp] theorem q_count_row (st : Store) : dEq (.str "count") (.str "row") st = some (.bl false) := we _ _ _ (by decide +kernel) (by decide +kernel) (by decide +kernel) st
@[simp] theorem q_count_ahead (st : Store) : dEq (.str "count") (.str "ahead") st = some (.bl false) := we _ _ _ (by decide +kernel) (by decide +kernel) (by decide +kernel) st
@[simp] theorem q_count_windows (st : Store) : dEq (.str "count") (.str "windows") st = some (.bl false) := we _ _ _ (by decide +kernel) (by decide +kernel) (by decide +kernel) st
@[simp] theorem q_count_wanted (st : Store) : dEq (.str "count") (.str "wanted") st = some (.bl false) := we _ _ _ (by decide +kernel) (by decide +kernel) (by decide +kernel) st
@[simp] theorem q_count_turn (st : Store) : dEq (.str "count") (.str "turn") st = some (.bl false) := we _ _ _ (by decide +kernel) (by decide +kernel) (by decide +kernel) st
@[simp] theorem q_count_marks (st : Store) : dEq (.str "count") (.str "marks") st = some (.bl false) := we _ _ _ (by decide +kernel) (by decide +kernel) (by decide +kernel) st
@[simp] theorem q_count_spare (st : Store) : dEq (.str "count") (.str "spare") st = some (.bl false) := we _ _ _ (by decide +kernel) (by decide +kernel) (by decide +kernel) st
@[simp] theorem q_count_chain (st : Store) : dEq (.str "count") (.str "chain") st = some (.bl false) := we _ _ _ (by decide +kernel) (by decide +kernel) (by decide +kernel) st
@[simp] theorem i_count_leaf (st : Store) : dIn (.str "count") (.tup [.str "list", .str "broken", .str "count", .str "row"]) st = some (.bl true) := wi "count" ["list", "broken", "count", "row"] _ (by decide +kernel) (by decide +kernel) (by decide +kernel) st
@[simp] theorem i_count_join (st : Store) : dIn (.str "count") (.tup [.str "chain", .str "beside"]) st = some (.bl false) := wi "count" ["chain", "beside"] _ (by decide +kernel) (by decide +kernel) (by decide +kernel) st
@[simp] theorem i_count_su (st : Store) : dIn (.str "count") (.tup [.str "sieve", .str "upto"]) st = some (.bl false) := wi "count" ["sieve", "upto"] _ (by decide +kernel) (by decide +kernel) (by decide +kernel) st
@[simp] theorem i_count_cl (st : Store) : dIn (.str "count") (.tup [.str "cut", .str "left"]) st = some (.bl false) := wi "count" ["cut", "left"] _ (by decide +kernel) (by decide +kernel) (by decide +kernel) st
@[simp] theorem q_row_list (st : Store) : dEq (.str "row") (.str "list") st = some (.bl false) := we _ _ _ (by decide +kernel) (by decide +kernel) (by decide +kernel) st
@[simp] theorem q_row_broken (st : Store) : dEq (.str "row") (.str "broken") st = some (.bl false) := we _ _ _ (by decide +kernel) (by decide +kernel) (by decide +kernel) st
@[simp] theorem q_row_row (st : Store) : dEq (.str "row") (.str "row") st = some (.bl true) := we _ _ _ (by decide +kernel) (by decide +kernel) (by decide +kernel) st
@[simp] theorem q_row_ahead (st : Store) : dEq (.str "row") (.str "ahead") st = some (.bl false) := we _ _ _ (by decide +kernel) (by decide +kernel) (by decide +kernel) st
@[simp] theorem q_row_windows (st : Store) : dEq (.str "row") (.str "windows") st = some (.bl false) := we _ _ _ (by decide +kernel) (by decide +kernel) (by decide +kernel) st
@[simp] theorem q_row_wanted (st : Store) : dEq (.str "row") (.str "wanted") st = some (.bl false) := we _ _ _ (by decide +kernel) (by decide +kernel) (by decide +kernel) st
@[simp] theorem q_row_turn (st : Store) : dEq (.str "row") (.str "turn") st = some (.bl false) := we _ _ _ (by decide +kernel) (by decide +kernel) (by decide +kernel) st
@[simp] theorem q_row_marks (st : Store) : dEq (.str "row") (.str "marks") st = some (.bl false) := we _ _ _ (by decide +kernel) (by decide +kernel) (by decide +kernel) st
@[simp] theorem q_row_spare (st : Store) : dEq (.str "row") (.str "spare") st = some (.bl false) := we _ _ _ (by decide +kernel) (by decide +kernel) (by decide +kernel) st
@[simp] theorem q_row_chain (st : Store) : dEq (.str "row") (.str "chain") st = some (.bl false) := we _ _ _ (by decide +kernel) (by decide +kernel) (by decide +kernel) st
@[simp] theorem i_row_leaf (st : Store) : dIn (.str "row") (.tup [.str "list", .str "broken", .str "count", .str "row"]) st = some (.bl true) := wi "row" ["list", "broken", "count", "row"] _ (by decide +kernel) (by decide +kernel) (by decide +kernel) st
@[simp] theorem i_row_join (st : Store) : dIn (.str "row") (.tup [.str "chain", .str "beside"]) st = some (.bl false) := wi "row" ["chain", "beside"] _ (by decide +kernel) (by decide +kernel) (by decide +kernel) st
@[simp] theorem i_row_su (st : Store) : dIn (.str "row") (.tup [.str "sieve", .str "upto"]) st = some (.bl false) := wi "row" ["sieve", "upto"] _ (by decide +kernel) (by decide +kernel) (by decide +kernel) st
@[simp] theorem i_row_cl (st : Store) : dIn (.str "row") (.tup [.str "cut", .str "left"]) st = some (.bl false) := wi "row" ["cut", "left"] _ (by decide +kernel) (by decide +kernel) (by decide +kernel) st
@[simp] theorem q_turn_list (st : Store) : dEq (.str "turn") (.str "list") st = some (.bl false) := we _ _ _ (by decide +kernel) (by decide +kernel) (by decide +kernel) st
@[simp] theorem q_turn_broken (st : Store) : dEq (.str "turn") (.str "broken") st = some (.bl false) := we _ _ _ (by decide +kernel) (by decide +kernel) (by decide +kernel) st
@[simp] theorem q_turn_row (st : Store) : dEq (.str "turn") (.str "row") st = some (.bl false) := we _ _ _ (by decide +kernel) (by decide +kernel) (by decide +kernel) st
@[simp] theorem q_turn_ahead (st : Store) : dEq (.str "turn") (.str "ahead") st = some (.bl false) := we _ _ _ (by decide +kernel) (by decide +kernel) (by decide +kernel) st
@[simp] theorem q_turn_windows (st : Store) : dEq (.str "turn") (.str "windows") st = some (.bl false) := we _ _ _ (by decide +kernel) (by decide +kernel) (by decide +kernel) st
@[simp] theorem q_turn_wanted (st : Store) : dEq (.str "turn") (.str "wanted") st = some (.bl false) := we _ _ _ (by decide +kernel) (by decide +kernel) (by decide +kernel) st
@[simp] theorem q_turn_turn (st : Store) : dEq (.str "turn") (.str "turn") st = some (.bl true) := we _ _ _ (by decide +kernel) (by decide +kernel) (by decide +kernel) st
@[simp] theorem q_turn_marks (st : Store) : dEq (.str "turn") (.str "marks") st = some (.bl false) := we _ _ _ (by decide +kernel) (by decide +kernel) (by decide +kernel) st
@[simp] theorem q_turn_spare (st : Store) : dEq (.str "turn") (.str "spare") st = some (.bl false) := we _ _ _ (by decide +kernel) (by decide +kernel) (by decide +kernel) st
@[simp] theorem q_turn_chain (st : Store) : dEq (.str "turn") (.str "chain") st = some (.bl false) := we _ _ _ (by decide +kernel) (by decide +kernel) (by decide +kernel) st
@[simp] theorem i_turn_leaf (st : Store) : dIn (.str "turn") (.tup [.str "list", .str "broken", .str "count", .str "row"]) st = some (.bl false) := wi "turn" ["list", "broken", "count", "row"] _ (by decide +kernel) (by decide +kernel) (by decide +kernel) st
@[simp] theorem i_turn_join (st : Store) : dIn (.str "turn") (.tup [.str "chain", .str "beside"]) st = some (.bl false) := wi "turn" ["chain", "beside"] _ (by decide +kernel) (by decide +kernel) (by decide +kernel) st
@[simp] theorem i_turn_su (st : Store) : dIn (.str "turn") (.tup [.str "sieve", .str "upto"]) st = some (.bl false) := wi "turn" ["sieve", "upto"] _ (by decide +kernel) (by decide +kernel) (by decide +kernel) st
@[simp] theorem i_turn_cl (st : Store) : dIn (.str "turn") (.tup [.str "cut", .str "left"]) st = some (.bl false) := wi "turn" ["cut", "left"] _ (by decide +kernel) (by decide +kernel) (by decide +kernel) st
@[simp] theorem q_sieve_list (st : Store) : dEq (.str "sieve") (.str "list") st = some (.bl false) := we _ _ _ (by decide +kernel) (by decide +kernel) (by decide +kernel) st
@[simp] theorem q_sieve_broken (st : Store) : dEq (.str "sieve") (.str "broken") st = some (.bl false) := we _ _ _ (by decide +kernel) (by decide +kernel) (by decide +kernel) st
@[simp] theorem q_sieve_row (st : Store) : dEq (.str "sieve") (.str "row") st = some (.bl false) := we _ _ _ (by decide +kernel) (by decide +kernel) (by decide +kernel) st
@[simp] theorem q_sieve_ahead (st : Store) : dEq (.str "sieve") (.str "ahead") st = some (.bl false) := we _ _ _ (by decide +kernel) (by decide +kernel) (by decide +kernel) st
@[simp] theorem q_sieve_windows (st : Store) : dEq (.str "sieve") (.str "windows") st = some (.bl false) := we _ _ _ (by decide +kernel) (by decide +kernel) (by decide +kernel) st
@[simp] theorem q_sieve_wanted (st : Store) : dEq (.str "sieve") (.str "wanted") st = some (.bl false) := we _ _ _ (by decide +kernel) (by decide +kernel) (by decide +kernel) st
@[simp] theorem q_sieve_turn (st : Store) : dEq (.str "sieve") (.str "turn") st = some (.bl false) := we _ _ _ (by decide +kernel) (by decide +kernel) (by decide +kernel) st
@[simp] theorem q_sieve_marks (st : Store) : dEq (.str "sieve") (.str "marks") st = some (.bl false) := we _ _ _ (by decide +kernel) (by decide +kernel) (by decide +kernel) st
@[simp] theorem q_sieve_spare (st : Store) : dEq (.str "sieve") (.str "spare") st = some (.bl false) := we _ _ _ (by decide +kernel) (by decide +kernel) (by decide +kernel) st
@[simp] theorem q_sieve_chain (st : Store) : dEq (.str "sieve") (.str "chain") st = some (.bl false) := we _ _ _ (by decide +kernel) (by decide +kernel) (by decide +kernel) st
@[simp] theorem i_sieve_leaf (st : Store) : dIn (.str "sieve") (.tup [.str "list", .str "broken", .str "count", .str "row"]) st = some (.bl false) := wi "sieve" ["list", "broken", "count", "row"] _ (by decide +kernel) (by decide +kernel) (by decide +kernel) st
@[simp] theorem i_sieve_join (st : Store) : dIn (.str "sieve") (.tup [.str "chain", .str "beside"]) st = some (.bl false) := wi "sieve" ["chain", "beside"] _ (by decide +kernel) (by decide +kernel) (by decide +kernel) st
@[simp] theorem i_sieve_su (st : Store) : dIn (.str "sieve") (.tup [.str "sieve", .str "upto"]) st = some (.bl true) := wi "sieve" ["sieve", "upto"] _ (by decide +kernel) (by decide +kernel) (by decide +kernel) st
@[simp] theorem i_sieve_cl (st : Store) : dIn (.str "sieve") (.tup [.str "cut", .str "left"]) st = some (.bl false) := wi "sieve" ["cut", "left"] _ (by decide +kernel) (by decide +kernel) (by decide +kernel) st
@[simp] theorem q_upto_list (st : Store) : dEq (.str "upto") (.str "list") st = some (.bl false) := we _ _ _ (by decide +kernel) (by decide +kernel) (by decide +kernel) st
@[simp] theorem q_upto_broken (st : Store) : dEq (.str "upto") (.str "broken") st = some (.bl false) := we _ _ _ (by decide +kernel) (by decide +kernel) (by decide +kernel) st
@[simp] theorem q_upto_row (st : Store) : dEq (.str "upto") (.str "row") st = some (.bl false) := we _ _ _ (by decide +kernel) (by decide +kernel) (by decide +kernel) st
@[simp] theorem q_upto_ahead (st : Store) : dEq (.str "upto") (.str "ahead") st = some (.bl false) := we _ _ _ (by decide +kernel) (by decide +kernel) (by decide +kernel) st
@[simp] theorem q_upto_windows (st : Store) : dEq (.str "upto") (.str "windows") st = some (.bl false) := we _ _ _ (by decide +kernel) (by decide +kernel) (by decide +kernel) st
@[simp] theorem q_upto_wanted (st : Store) : dEq (.str "upto") (.str "wanted") st = some (.bl false) := we _ _ _ (by decide +kernel) (by decide +kernel) (by decide +kernel) st
@[simp] theorem q_upto_turn (st : Store) : dEq (.str "upto") (.str "turn") st = some (.bl false) := we _ _ _ (by decide +kernel) (by decide +kernel) (by decide +kernel) st
@[simp] theorem q_upto_marks (st : Store) : dEq (.str "upto") (.str "marks") st = some (.bl false) := we _ _ _ (by decide +kernel) (by decide +kernel) (by decide +kernel) st
@[simp] theorem q_upto_spare (st : Store) : dEq (.str "upto") (.str "spare") st = some (.bl false) := we _ _ _ (by decide +kernel) (by decide +kernel) (by decide +kernel) st
@[simp] theorem q_upto_chain (st : Store) : dEq (.str "upto") (.str "chain") st = some (.bl false) := we _ _ _ (by decide +kernel) (by decide +kernel) (by decide +kernel) st
@[simp] theorem i_upto_leaf (st : Store) : dIn (.str "upto") (.tup [.str "list", .str "broken", .str "count", .str "row"]) st = some (.bl false) := wi "upto" ["list", "broken", "count", "row"] _ (by decide +kernel) (by decide +kernel) (by decide +kernel) st
@[simp] theorem i_upto_join (st : Store) : dIn (.str "upto") (.tup [.str "chain", .str "beside"]) st = some (.bl false) := wi "upto" ["chain", "beside"] _ (by decide +kernel) (by decide +kernel) (by decide +kernel) st
@[simp] theorem i_upto_su (st : Store) : dIn (.str "upto") (.tup [.str "sieve", .str "upto"]) st = some (.bl true) := wi "upto" ["sieve", "upto"] _ (by decide +kernel) (by decide +kernel) (by decide +kernel) st
@[simp] theorem i_upto_cl (st : Store) : dIn (.str "upto") (.tup [.str "cut", .str "left"]) st = some (.bl false) := wi "upto" ["cut", "left"] _ (by decide +kernel) (by decide +kernel) (by decide +kernel) st
@[simp] theorem q_cut_list (st : Store) : dEq (.str "cut") (.str "list") st = some (.bl false) := we _ _ _ (by decide +kernel) (by decide +kernel) (by decide +kernel) st
@[simp] theorem q_cut_broken (st : Store) : dEq (.str "cut") (.str "broken") st = some (.bl false) := we _ _ _ (by decide +kernel) (by decide +kernel) (by decide +kernel) st
@[simp] theorem q_cut_row (st : Store) : dEq (.str "cut") (.str "row") st = some (.bl false) := we _ _ _ (by decide +kernel) (by decide +kernel) (by decide +kernel) st
@[simp] theorem q_cut_ahead (st : Store) : dEq (.str "cut") (.str "ahead") st = some (.bl false) := we _ _ _ (by decide +kernel) (by decide +kernel) (by decide +kernel) st
@[simp] theorem q_cut_windows (st : Store) : dEq (.str "cut") (.str "windows") st = some (.bl false) := we _ _ _ (by decide +kernel) (by decide +kernel) (by decide +kernel) st
@[simp] theorem q_cut_wanted (st : Store) : dEq (.str "cut") (.str "wanted") st = some (.bl false) := we _ _ _ (by decide +kernel) (by decide +kernel) (by decide +kernel) st
@[simp] theorem q_cut_turn (st : Store) : dEq (.str "cut") (.str "turn") st = some (.bl false) := we _ _ _ (by decide +kernel) (by decide +kernel) (by decide +kernel) st
@[simp] theorem q_cut_marks (st : Store) : dEq (.str "cut") (.str "marks") st = some (.bl false) := we _ _ _ (by decide +kernel) (by decide +kernel) (by decide +kernel) st
@[simp] theorem q_cut_spare (st : Store) : dEq (.str "cut") (.str "spare") st = some (.bl false) := we _ _ _ (by decide +kernel) (by decide +kernel) (by decide +kernel) st
@[simp] theorem q_cut_chain (st : Store) : dEq (.str "cut") (.str "chain") st = some (.bl false) := we _ _ _ (by decide +kernel) (by decide +kernel) (by decide +kernel) st
@[simp] theorem i_cut_leaf (st : Store) : dIn (.str "cut") (.tup [.str "list", .str "broken", .str "count", .str "row"]) st = some (.bl false) := wi "cut" ["list", "broken", "count", "row"] _ (by decide +kernel) (by decide +kernel) (by decide +kernel) st
@[simp] theorem i_cut_join (st : Store) : dIn (.str "cut") (.tup [.str "chain", .str "beside"]) st = some (.bl false) := wi "cut" ["chain", "beside"] _ (by decide +kernel) (by decide +kernel) (by decide +kernel) st
@[simp] theorem i_cut_su (st : Store) : dIn (.str "cut") (.tup [.str "sieve", .str "upto"]) st = some (.bl false) := wi "cut" ["sieve", "upto"] _ (by decide +kernel) (by decide +kernel) (by decide +kernel) st
@[simp] theorem i_cut_cl (st : Store) : dIn (.str "cut") (.tup [.str "cut", .str "left"]) st = some (.bl true) := wi "cut" ["cut", "left"] _ (by decide +kernel) (by decide +kernel) (by decide +kernel) st
@[simp] theorem q_left_list (st : Store) : dEq (.str "left") (.str "list") st = some (.bl false) := we _ _ _ (by decide +kernel) (by decide +kernel) (by decide +kernel) st
@[simp] theorem q_left_broken (st : Store) : dEq (.str "left") (.str "broken") st = some (.bl false) := we _ _ _ (by decide +kernel) (by decide +kernel) (by decide +kernel) st
@[simp] theorem q_left_row (st : Store) : dEq (.str "left") (.str "row") st = some (.bl false) := we _ _ _ (by decide +kernel) (by decide +kernel) (by decide +kernel) st
@[simp] theorem q_left_ahead (st : Store) : dEq (.str "left") (.str "ahead") st = some (.bl false) := we _ _ _ (by decide +kernel) (by decide +kernel) (by decide +kernel) st
@[simp] theorem q_left_windows (st : Store) : dEq (.str "left") (.str "windows") st = some (.bl false) := we _ _ _ (by decide +kernel) (by decide +kernel) (by decide +kernel) st
@[simp] theorem q_left_wanted (st : Store) : dEq (.str "left") (.str "wanted") st = some (.bl false) := we _ _ _ (by decide +kernel) (by decide +kernel) (by decide +kernel) st
@[simp] theorem q_left_turn (st : Store) : dEq (.str "left") (.str "turn") st = some (.bl false) := we _ _ _ (by decide +kernel) (by decide +kernel) (by decide +kernel) st
@[simp] theorem q_left_marks (st : Store) : dEq (.str "left") (.str "marks") st = some (.bl false) := we _ _ _ (by decide +kernel) (by decide +kernel) (by decide +kernel) st
@[simp] theorem q_left_spare (st : Store) : dEq (.str "left") (.str "spare") st = some (.bl false) := we _ _ _ (by decide +kernel) (by decide +kernel) (by decide +kernel) st
@[simp] theorem q_left_chain (st : Store) : dEq (.str "left") (.str "chain") st = some (.bl false) := we _ _ _ (by decide +kernel) (by decide +kernel) (by decide +kernel) st
@[simp] theorem i_left_leaf (st : Store) : dIn (.str "left") (.tup [.str "list", .str "broken", .str "count", .str "row"]) st = some (.bl false) := wi "left" ["list", "broken", "count", "row"] _ (by decide +kernel) (by decide +kernel) (by decide +kernel) st
@[simp] theorem i_left_join (st : Store) : dIn (.str "left") (.tup [.str "chain", .str "beside"]) st = some (.bl false) := wi "left" ["chain", "beside"] _ (by decide +kernel) (by decide +kernel) (by decide +kernel) st
@[simp] theorem i_left_su (st : Store) : dIn (.str "left") (.tup [.str "sieve", .str "upto"]) st = some (.bl false) := wi "left" ["sieve", "upto"] _ (by decide +kernel) (by decide +kernel) (by decide +kernel) st
@[simp] theorem i_left_cl (st : Store) : dIn (.str "left") (.tup [.str "cut", .str "left"]) st = some (.bl true) := wi "left" ["cut", "left"] _ (by decide +kernel) (by decide +kernel) (by decide +kernel) st
@[simp] theorem q_chain_list (st : Store) : dEq (.str "chain") (.str "list") st = some (.bl false) := we _ _ _ (by decide +kernel) (by decide +kernel) (by decide +kernel) st
@[simp] theorem q_chain_broken (st : Store) : dEq (.str "chain") (.str "broken") st = some (.bl false) := we _ _ _ (by decide +kernel) (by decide +kernel) (by decide +kernel) st
@[simp] theorem q_chain_row (st : Store) : dEq (.str "chain") (.str "row") st = some (.bl false) := we _ _ _ (by decide +kernel) (by decide +kernel) (by decide +kernel) st
@[simp] theorem q_chain_ahead (st : Store) : dEq (.str "chain") (.str "ahead") st = some (.bl false) := we _ _ _ (by decide +kernel) (by decide +kernel) (by decide +kernel) st
@[simp] theorem q_chain_windows (st : Store) : dEq (.str "chain") (.str "windows") st = some (.bl false) := we _ _ _ (by decide +kernel) (by decide +kernel) (by decide +kernel) st
@[simp] theorem q_chain_wanted (st : Store) : dEq (.str "chain") (.str "wanted") st = some (.bl false) := we _ _ _ (by decide +kernel) (by decide +kernel) (by decide +kernel) st
@[simp] theorem q_chain_turn (st : Store) : dEq (.str "chain") (.str "turn") st = some (.bl false) := we _ _ _ (by decide +kernel) (by decide +kernel) (by decide +kernel) st
@[simp] theorem q_chain_marks (st : Store) : dEq (.str "chain") (.str "marks") st = some (.bl false) := we _ _ _ (by decide +kernel) (by decide +kernel) (by decide +kernel) st
@[simp] theorem q_chain_spare (st : Store) : dEq (.str "chain") (.str "spare") st = some (.bl false) := we _ _ _ (by decide +kernel) (by decide +kernel) (by decide +kernel) st
@[simp] theorem q_chain_chain (st : Store) : dEq (.str "chain") (.str "chain") st = some (.bl true) := we _ _ _ (by decide +kernel) (by decide +kernel) (by decide +kernel) st
@[simp] theorem i_chain_leaf (st : Store) : dIn (.str "chain") (.tup [.str "list", .str "broken", .str "count", .str "row"]) st = some (.bl false) := wi "chain" ["list", "broken", "count", "row"] _ (by decide +kernel) (by decide +kernel) (by decide +kernel) st
@[simp] theorem i_chain_join (st : Store) : dIn (.str "chain") (.tup [.str "chain", .str "beside"]) st = some (.bl true) := wi "chain" ["chain", "beside"] _ (by decide +kernel) (by decide +kernel) (by decide +kernel) st
@[simp] theorem i_chain_su (st : Store) : dIn (.str "chain") (.tup [.str "sieve", .str "upto"]) st = some (.bl false) := wi "chain" ["sieve", "upto"] _ (by decide +kernel) (by decide +kernel) (by decide +kernel) st
@[simp] theorem i_chain_cl (st : Store) : dIn (.str "chain") (.tup [.str "cut", .str "left"]) st = some (.bl false) := wi "chain" ["cut", "left"] _ (by decide +kernel) (by decide +kernel) (by decide +kernel) st
@[simp] theorem q_beside_list (st : Store) : dEq (.str "beside") (.str "list") st = some (.bl false) := we _ _ _ (by decide +kernel) (by decide +kernel) (by decide +kernel) st
@[simp] theorem q_beside_broken (st : Store) : dEq (.str "beside") (.str "broken") st = some (.bl false) := we _ _ _ (by decide +kernel) (by decide +kernel) (by decide +kernel) st
@[simp] theorem q_beside_row (st : Store) : dEq (.str "beside") (.str "row") st = some (.bl false) := we _ _ _ (by decide +kernel) (by decide +kernel) (by decide +kernel) st
@[simp] theorem q_beside_ahead (st : Store) : dEq (.str "beside") (.str "ahead") st = some (.bl false) := we _ _ _ (by decide +kernel) (by decide +kernel) (by decide +kernel) st
@[simp] theorem q_beside_windows (st : Store) : dEq (.str "beside") (.str "windows") st = some (.bl false) := we _ _ _ (by decide +kernel) (by decide +kernel) (by decide +kernel) st
@[simp] theorem q_beside_wanted (st : Store) : dEq (.str "beside") (.str "wanted") st = some (.bl false) := we _ _ _ (by decide +kernel) (by decide +kernel) (by decide +kernel) st
@[simp] theorem q_beside_turn (st : Store) : dEq (.str "beside") (.str "turn") st = some (.bl false) := we _ _ _ (by decide +kernel) (by decide +kernel) (by decide +kernel) st
@[simp] theorem q_beside_marks (st : Store) : dEq (.str "beside") (.str "marks") st = some (.bl false) := we _ _ _ (by decide +kernel) (by decide +kernel) (by decide +kernel) st
@[simp] theorem q_beside_spare (st : Store) : dEq (.str "beside") (.str "spare") st = some (.bl false) := we _ _ _ (by decide +kernel) (by decide +kernel) (by decide +kernel) st
@[simp] theorem q_beside_chain (st : Store) : dEq (.str "beside") (.str "chain") st = some (.bl false) := we _ _ _ (by decide +kernel) (by decide +kernel) (by decide +kernel) st
@[simp] theorem i_beside_leaf (st : Store) : dIn (.str "beside") (.tup [.str "list", .str "broken", .str "count", .str "row"]) st = some (.bl false) := wi "beside" ["list", "broken", "count", "row"] _ (by decide +kernel) (by decide +kernel) (by decide +kernel) st
@[simp] theorem i_beside_join (st : Store) : dIn (.str "beside") (.tup [.str "chain", .str "beside"]) st = some (.bl true) := wi "beside" ["chain", "beside"] _ (by decide +kernel) (by decide +kernel) (by decide +kernel) st
@[simp] theorem i_beside_su (st : Store) : dIn (.str "beside") (.tup [.str "sieve", .str "upto"]) st = some (.bl false) := wi "beside" ["sieve", "upto"] _ (by decide +kernel) (by decide +kernel) (by decide +kernel) st
@[simp] theorem i_beside_cl (st : Store) : dIn (.str "beside") (.tup [.str "cut", .str "left"]) st = some (.bl false) := wi "beside" ["cut", "left"] _ (by decide +kernel) (by decide +kernel) (by decide +kernel) st
@[simp] theorem q_ahead_list (st : Store) : dEq (.str "ahead") (.str "list") st = some (.bl false) := we _ _ _ (by decide +kernel) (by decide +kernel) (by decide +kernel) st
@[simp] theorem q_ahead_broken (st : Store) : dEq (.str "ahead") (.str "broken") st = some (.bl false) := we _ _ _ (by decide +kernel) (by decide +kernel) (by decide +kernel) st
@[simp] theorem q_ahead_row (st : Store) : dEq (.str "ahead") (.str "row") st = some (.bl false) := we _ _ _ (by decide +kernel) (by decide +kernel) (by decide +kernel) st
@[simp] theorem q_ahead_ahead (st : Store) : dEq (.str "ahead") (.str "ahead") st = some (.bl true) := we _ _ _ (by decide +kernel) (by decide +kernel) (by decide +kernel) st
@[simp] theorem q_ahead_windows (st : Store) : dEq (.str "ahead") (.str "windows") st = some (.bl false) := we _ _ _ (by decide +kernel) (by decide +kernel) (by decide +kernel) st
@[simp] theorem q_ahead_wanted (st : Store) : dEq (.str "ahead") (.str "wanted") st = some (.bl false) := we _ _ _ (by decide +kernel) (by decide +kernel) (by decide +kernel) st
@[simp] theorem q_ahead_turn (st : Store) : dEq (.str "ahead") (.str "turn") st = some (.bl false) := we _ _ _ (by decide +kernel) (by decide +kernel) (by decide +kernel) st
@[simp] theorem q_ahead_marks (st : Store) : dEq (.str "ahead") (.str "marks") st = some (.bl false) := we _ _ _ (by decide +kernel) (by decide +kernel) (by decide +kernel) st
@[simp] theorem q_ahead_spare (st : Store) : dEq (.str "ahead") (.str "spare") st = some (.bl false) := we _ _ _ (by decide +kernel) (by decide +kernel) (by decide +kernel) st
@[simp] theorem q_ahead_chain (st : Store) : dEq (.str "ahead") (.str "chain") st = some (.bl false) := we _ _ _ (by decide +kernel) (by decide +kernel) (by decide +kernel) st
@[simp] theorem i_ahead_leaf (st : Store) : dIn (.str "ahead") (.tup [.str "list", .str "broken", .str "count", .str "row"]) st = some (.bl false) := wi "ahead" ["list", "broken", "count", "row"] _ (by decide +kernel) (by decide +kernel) (by decide +kernel) st
@[simp] theorem i_ahead_join (st : Store) : dIn (.str "ahead") (.tup [.str "chain", .str "beside"]) st = some (.bl false) := wi "ahead" ["chain", "beside"] _ (by decide +kernel) (by decide +kernel) (by decide +kernel) st
@[simp] theorem i_ahead_su (st : Store) : dIn (.str "ahead") (.tup [.str "sieve", .str "upto"]) st = some (.bl false) := wi "ahead" ["sieve", "upto"] _ (by decide +kernel) (by decide +kernel) (by decide +kernel) st
@[simp] theorem i_ahead_cl (st : Store) : dIn (.str "ahead") (.tup [.str "cut", .str "left"]) st = some (.bl false) := wi "ahead" ["cut", "left"] _ (by decide +kernel) (by decide +kernel) (by decide +kernel) st
@[simp] theorem q_windows_list (st : Store) : dEq (.str "windows") (.str "list") st = some (.bl false) := we _ _ _ (by decide +kernel) (by decide +kernel) (by decide +kernel) st
@[simp] theorem q_windows_broken (st : Store) : dEq (.str "windows") (.str "broken") st = some (.bl false) := we _ _ _ (by decide +kernel) (by decide +kernel) (by decide +kernel) st
@[simp] theorem q_windows_row (st : Store) : dEq (.str "windows") (.str "row") st = some (.bl false) := we _ _ _ (by decide +kernel) (by decide +kernel) (by decide +kernel) st
@[simp] theorem q_windows_ahead (st : Store) : dEq (.str "windows") (.str "ahead") st = some (.bl false) := we _ _ _ (by decide +kernel) (by decide +kernel) (by decide +kernel) st
@[simp] theorem q_windows_windows (st : Store) : dEq (.str "windows") (.str "windows") st = some (.bl true) := we _ _ _ (by decide +kernel) (by decide +kernel) (by decide +kernel) st
@[simp] theorem q_windows_wanted (st : Store) : dEq (.str "windows") (.str "wanted") st = some (.bl false) := we _ _ _ (by decide +kernel) (by decide +kernel) (by decide +kernel) st
@[simp] theorem q_windows_turn (st : Store) : dEq (.str "windows") (.str "turn") st = some (.bl false) := we _ _ _ (by decide +kernel) (by decide +kernel) (by decide +kernel) st
@[simp] theorem q_windows_marks (st : Store) : dEq (.str "windows") (.str "marks") st = some (.bl false) := we _ _ _ (by decide +kernel) (by decide +kernel) (by decide +kernel) st
@[simp] theorem q_windows_spare (st : Store) : dEq (.str "windows") (.str "spare") st = some (.bl false) := we _ _ _ (by decide +kernel) (by decide +kernel) (by decide +kernel) st
@[simp] theorem q_windows_chain (st : Store) : dEq (.str "windows") (.str "chain") st = some (.bl false) := we _ _ _ (by decide +kernel) (by decide +kernel) (by decide +kernel) st
@[simp] theorem i_windows_leaf (st : Store) : dIn (.str "windows") (.tup [.str "list", .str "broken", .str "count", .str "row"]) st = some (.bl false) := wi "windows" ["list", "broken", "count", "row"] _ (by decide +kernel) (by decide +kernel) (by decide +kernel) st
@[simp] theorem i_windows_join (st : Store) : dIn (.str "windows") (.tup [.str "chain", .str "beside"]) st = some (.bl false) := wi "windows" ["chain", "beside"] _ (by decide +kernel) (by decide +kernel) (by decide +kernel) st
@[simp] theorem i_windows_su (st : Store) : dIn (.str "windows") (.tup [.str "sieve", .str "upto"]) st = some (.bl false) := wi "windows" ["sieve", "upto"] _ (by decide +kernel) (by decide +kernel) (by decide +kernel) st
@[simp] theorem i_windows_cl (st : Store) : dIn (.str "windows") (.tup [.str "cut", .str "left"]) st = some (.bl false) := wi "windows" ["cut", "left"] _ (by decide +kernel) (by decide +kernel) (by decide +kernel) st
@[simp] theorem q_marks_list (st : Store) : dEq (.str "marks") (.str "list") st = some (.bl false) := we _ _ _ (by decide +kernel) (by decide +kernel) (by decide +kernel) st
@[simp] theorem q_marks_broken (st : Store) : dEq (.str "marks") (.str "broken") st = some (.bl false) := we _ _ _ (by decide +kernel) (by decide +kernel) (by decide +kernel) st
@[simp] theorem q_marks_row (st : Store) : dEq (.str "marks") (.str "row") st = some (.bl false) := we _ _ _ (by decide +kernel) (by decide +kernel) (by decide +kernel) st
@[simp] theorem q_marks_ahead (st : Store) : dEq (.str "marks") (.str "ahead") st = some (.bl false) := we _ _ _ (by decide +kernel) (by decide +kernel) (by decide +kernel) st
@[simp] theorem q_marks_windows (st : Store) : dEq (.str "marks") (.str "windows") st = some (.bl false) := we _ _ _ (by decide +kernel) (by decide +kernel) (by decide +kernel) st
@[simp] theorem q_marks_wanted (st : Store) : dEq (.str "marks") (.str "wanted") st = some (.bl false) := we _ _ _ (by decide +kernel) (by decide +kernel) (by decide +kernel) st
@[simp] theorem q_marks_turn (st : Store) : dEq (.str "marks") (.str "turn") st = some (.bl false) := we _ _ _ (by decide +kernel) (by decide +kernel) (by decide +kernel) st
@[simp] theorem q_marks_marks (st : Store) : dEq (.str "marks") (.str "marks") st = some (.bl true) := we _ _ _ (by decide +kernel) (by decide +kernel) (by decide +kernel) st
@[simp] theorem q_marks_spare (st : Store) : dEq (.str "marks") (.str "spare") st = some (.bl false) := we _ _ _ (by decide +kernel) (by decide +kernel) (by decide +kernel) st
@[simp] theorem q_marks_chain (st : Store) : dEq (.str "marks") (.str "chain") st = some (.bl false) := we _ _ _ (by decide +kernel) (by decide +kernel) (by decide +kernel) st
@[simp] theorem i_marks_leaf (st : Store) : dIn (.str "marks") (.tup [.str "list", .str "broken", .str "count", .str "row"]) st = some (.bl false) := wi "marks" ["list", "broken", "count", "row"] _ (by decide +kernel) (by decide +kernel) (by decide +kernel) st
@[simp] theorem i_marks_join (st : Store) : dIn (.str "marks") (.tup [.str "chain", .str "beside"]) st = some (.bl false) := wi "marks" ["chain", "beside"] _ (by decide +kernel) (by decide +kernel) (by decide +kernel) st
@[simp] theorem i_marks_su (st : Store) : dIn (.str "marks") (.tup [.str "sieve", .str "upto"]) st = some (.bl false) := wi "marks" ["sieve", "upto"] _ (by decide +kernel) (by decide +kernel) (by decide +kernel) st
@[simp] theorem i_marks_cl (st : Store) : dIn (.str "marks") (.tup [.str "cut", .str "left"]) st = some (.bl false) := wi "marks" ["cut", "left"] _ (by decide +kernel) (by decide +kernel) (by decide +kernel) st
@[simp] theorem q_spare_list (st : Store) : dEq (.str "spare") (.str "list") st = some (.bl false) := we _ _ _ (by decide +kernel) (by decide +kernel) (by decide +kernel) st
@[simp] theorem q_spare_broken (st : Store) : dEq (.str "spare") (.str "broken") st = some (.bl false) := we _ _ _ (by decide +kernel) (by decide +kernel) (by decide +kernel) st
@[simp] theorem q_spare_row (st : Store) : dEq (.str "spare") (.str "row") st = some (.bl false) := we _ _ _ (by decide +kernel) (by decide +kernel) (by decide +kernel) st
@[simp] theorem q_spare_ahead (st : Store) : dEq (.str "spare") (.str "ahead") st = some (.bl false) := we _ _ _ (by decide +kernel) (by decide +kernel) (by decide +kernel) st
@[simp] theorem q_spare_windows (st : Store) : dEq (.str "spare") (.str "windows") st = some (.bl false) := we _ _ _ (by decide +kernel) (by decide +kernel) (by decide +kernel) st
@[simp] theorem q_spare_wanted (st : Store) : dEq (.str "spare") (.str "wanted") st = some (.bl false) := we _ _ _ (by decide +kernel) (by decide +kernel) (by decide +kernel) st
@[simp] theorem q_spare_turn (st : Store) : dEq (.str "spare") (.str "turn") st = some (.bl false) := we _ _ _ (by decide +kernel) (by decide +kernel) (by decide +kernel) st
@[simp] theorem q_spare_marks (st : Store) : dEq (.str "spare") (.str "marks") st = some (.bl false) := we _ _ _ (by decide +kernel) (by decide +kernel) (by decide +kernel) st
@[simp] theorem q_spare_spare (st : Store) : dEq (.str "spare") (.str "spare") st = some (.bl true) := we _ _ _ (by decide +kernel) (by decide +kernel) (by decide +kernel) st
@[simp] theorem q_spare_chain (st : Store) : dEq (.str "spare") (.str "chain") st = some (.bl false) := we _ _ _ (by decide +kernel) (by decide +kernel) (by decide +kernel) st
@[simp] theorem i_spare_leaf (st : Store) : dIn (.str "spare") (.tup [.str "list", .str "broken", .str "count", .str "row"]) st = some (.bl false) := wi "spare" ["list", "broken", "count", "row"] _ (by decide +kernel) (by decide +kernel) (by decide +kernel) st
@[simp] theorem i_spare_join (st : Store) : dIn (.str "spare") (.tup [.str "chain", .str "beside"]) st = some (.bl false) := wi "spare" ["chain", "beside"] _ (by decide +kernel) (by decide +kernel) (by decide +kernel) st
@[simp] theorem i_spare_su (st : Store) : dIn (.str "spare") (.tup [.str "sieve", .str "upto"]) st = some (.bl false) := wi "spare" ["sieve", "upto"] _ (by decide +kernel) (by decide +kernel) (by decide +kernel) st
@[simp] theorem i_spare_cl (st : Store) : dIn (.str "spare") (.tup [.str "cut", .str "left"]) st = some (.bl false) := wi "spare" ["cut", "left"] _ (by decide +kernel) (by decide +kernel) (by decide +kernel) st
@[simp] theorem q_wanted_list (st : Store) : dEq (.str "wanted") (.str "list") st = some (.bl false) := we _ _ _ (by decide +kernel) (by decide +kernel) (by decide +kernel) st
@[simp] theorem q_wanted_broken (st : Store) : dEq (.str "wanted") (.str "broken") st = some (.bl false) := we _ _ _ (by decide +kernel) (by decide +kernel) (by decide +kernel) st
@[simp] theorem q_wanted_row (st : Store) : dEq (.str "wanted") (.str "row") st = some (.bl false) := we _ _ _ (by decide +kernel) (by decide +kernel) (by decide +kernel) st
@[simp] theorem q_wanted_ahead (st : Store) : dEq (.str "wanted") (.str "ahead") st = some (.bl false) := we _ _ _ (by decide +kernel) (by decide +kernel) (by decide +kernel) st
@[simp] theorem q_wanted_windows (st : Store) : dEq (.str "wanted") (.str "windows") st = some (.bl false) := we _ _ _ (by decide +kernel) (by decide +kernel) (by decide +kernel) st
@[simp] theorem q_wanted_wanted (st : Store) : dEq (.str "wanted") (.str "wanted") st = some (.bl true) := we _ _ _ (by decide +kernel) (by decide +kernel) (by decide +kernel) st
@[simp] theorem q_wanted_turn (st : Store) : dEq (.str "wanted") (.str "turn") st = some (.bl false) := we _ _ _ (by decide +kernel) (by decide +kernel) (by decide +kernel) st
@[simp] theorem q_wanted_marks (st : Store) : dEq (.str "wanted") (.str "marks") st = some (.bl false) := we _ _ _ (by decide +kernel) (by decide +kernel) (by decide +kernel) st
@[simp] theorem q_wanted_spare (st : Store) : dEq (.str "wanted") (.str "spare") st = some (.bl false) := we _ _ _ (by decide +kernel) (by decide +kernel) (by decide +kernel) st
@[simp] theorem q_wanted_chain (st : Store) : dEq (.str "wanted") (.str "chain") st = some (.bl false) := we _ _ _ (by decide +kernel) (by decide +kernel) (by decide +kernel) st
@[simp] theorem i_wanted_leaf (st : Store) : dIn (.str "wanted") (.tup [.str "list", .str "broken", .str "count", .str "row"]) st = some (.bl false) := wi "wanted" ["list", "broken", "count", "row"] _ (by decide +kernel) (by decide +kernel) (by decide +kernel) st
@[simp] theorem i_wanted_join (st : Store) : dIn (.str "wanted") (.tup [.str "chain", .str "beside"]) st = some (.bl false) := wi "wanted" ["chain", "beside"] _ (by decide +kernel) (by decide +kernel) (by decide +kernel) st
@[simp] theorem i_wanted_su (st : Store) : dIn (.str "wanted") (.tup [.str "sieve", .str "upto"]) st = some (.bl false) := wi "wanted" ["sieve", "upto"] _ (by decide +kernel) (by decide +kernel) (by decide +kernel) st
@[simp] theorem i_wanted_cl (st : Store) : dIn (.str "wanted") (.tup [.str "cut", .str "left"]) st = some (.bl false) := wi "wanted" ["cut", "left"] _ (by decide +kernel) (by decide +kernel) (by decide +kernel) st
theorem cut_mid (x : D) (rest : List D) (h : rest ≠ []) : cut (x :: rest) (some 1) (some (-1)) = rest.dropLast := by
  have hl : 1 ≤ rest.length := by
    have : rest.length ≠ 0 := fun z => h (List.eq_nil_of_length_eq_zero z)
    omega
  unfold cut
  have e1 : HT.sIx (x :: rest).length 0 (some 1) = 1 := by
    simp only [HT.sIx, List.length_cons]
    rw [if_neg (by decide)]
    show min 1 (rest.length + 1) = 1
    omega
  have e2 : HT.sIx (x :: rest).length (x :: rest).length (some (-1)) = rest.length := by
    simp only [HT.sIx, List.length_cons]
    rw [if_pos (by decide)]
    omega
  rw [e1, e2, List.drop_one, List.tail_cons, List.dropLast_eq_take]
theorem dIdx_last {x y : D} {rest : List D} {st : Store} (h : rest.getLast? = some y) : dIdx (.tup (x :: rest)) (.int (-1)) st = some y := by
  have hl : 1 ≤ rest.length := by
    cases rest with
    | nil => cases h
    | cons a b => simp
  simp only [dIdx, atI, ixN, List.length_cons]
  rw [if_neg (by decide), if_pos (by omega)]
  have : (-1 + ((rest.length + 1 : Nat) : Int)).toNat = rest.length := by omega
  rw [this]
  simp only [Option.bind_some]
  rw [List.getLast?_eq_getElem?] at h
  obtain ⟨m, hm⟩ : ∃ m, rest.length = m + 1 := ⟨rest.length - 1, by omega⟩
  rw [hm, List.getElem?_cons_succ, ← h, hm]
  simp
end K91
end

section
set_option Elab.async false
set_option linter.all false
set_option maxRecDepth 100000
set_option maxHeartbeats 1000000
namespace K91
open PySem L2 G
section
variable {L k n : Nat} {rest bt : List D} {st : Store}
theorem len3 (r : List D) : ¬ ((r.length : Int) + 1 + 1 + 1 = 2) := by omega
theorem len31 (r : List D) : ¬ ((r.length : Int) + 1 + 1 + 1 = 1) := by omega
theorem sl_mid (x : D) (h : rest ≠ []) (hb : rest.dropLast = bt) (st : Store) : dSl (some 1) (some (-1)) (.tup (x :: rest)) st = some (.tup bt) := by
  simp only [dSl, cut_mid x rest h, hb]
theorem hn_ahead (h : rest ≠ []) (hb : rest.dropLast = bt) (hs : ∀ x ∈ bt, Sh L k x) (hk : k + 1 ≤ 64) (hl : bt.length ≤ L) : fns (n + 3) .has_numbers [.tup (.str "ahead" :: rest)] st = .ok (.bl (match bt with | [] => true | [a] => false | [a, b] => false | _ => false)) st := by
  have sm := sl_mid (.str "ahead") h hb
  have sb : Sh L (k + 1) (.tup bt) := by simp only [Sh]; exact ⟨hl, hs⟩
  have en := fun st => dEq_nilT (st := st) sb hk
  refine runF_ret ?_
  match bt, hs, sm, en with
  | [], hs, sm, en => simp [g_has_numbers, sm, en]
  | [a], hs, sm, en =>
    have ha := hs a (by simp)
    simp [g_has_numbers, sm, en]
  | [a, b], hs, sm, en =>
    have ha := hs a (by simp)
    have hb2 := hs b (by simp)
    simp [g_has_numbers, sm, en]
  | a :: b :: c :: r, hs, sm, en => simp [g_has_numbers, sm, en, len3, len31]
theorem hn_windows (h : rest ≠ []) (hb : rest.dropLast = bt) (hs : ∀ x ∈ bt, Sh L k x) (hk : k + 1 ≤ 64) (hl : bt.length ≤ L) : fns (n + 3) .has_numbers [.tup (.str "windows" :: rest)] st = .ok (.bl (match bt with | [] => false | [a] => false | [a, b] => betB a 1 20 && betB b 1 20 | _ => false)) st := by
  have sm := sl_mid (.str "windows") h hb
  have sb : Sh L (k + 1) (.tup bt) := by simp only [Sh]; exact ⟨hl, hs⟩
  have en := fun st => dEq_nilT (st := st) sb hk
  refine runF_ret ?_
  match bt, hs, sm, en with
  | [], hs, sm, en => simp [g_has_numbers, sm, en]
  | [a], hs, sm, en =>
    have ha := hs a (by simp)
    simp [g_has_numbers, sm, en]
  | [a, b], hs, sm, en =>
    have ha := hs a (by simp)
    have hb2 := hs b (by simp)
    have q1 := fun st => between_is (n := n) (lo := 1) (hi := 20) (st := st) ha
    have q2 := fun st => between_is (n := n) (lo := 1) (hi := 20) (st := st) hb2
    cases z : betB a 1 20 <;> simp [g_has_numbers, sm, en, q1, q2, z]
  | a :: b :: c :: r, hs, sm, en => simp [g_has_numbers, sm, en, len3, len31]
theorem hn_wanted (h : rest ≠ []) (hb : rest.dropLast = bt) (hs : ∀ x ∈ bt, Sh L k x) (hk : k + 1 ≤ 64) (hl : bt.length ≤ L) : fns (n + 3) .has_numbers [.tup (.str "wanted" :: rest)] st = .ok (.bl (match bt with | [] => false | [a] => false | [a, b] => betB a 0 200 && wordB b | _ => false)) st := by
  have sm := sl_mid (.str "wanted") h hb
  have sb : Sh L (k + 1) (.tup bt) := by simp only [Sh]; exact ⟨hl, hs⟩
  have en := fun st => dEq_nilT (st := st) sb hk
  refine runF_ret ?_
  match bt, hs, sm, en with
  | [], hs, sm, en => simp [g_has_numbers, sm, en]
  | [a], hs, sm, en =>
    have ha := hs a (by simp)
    simp [g_has_numbers, sm, en]
  | [a, b], hs, sm, en =>
    have ha := hs a (by simp)
    have hb2 := hs b (by simp)
    have q1 := fun st => between_is (n := n) (lo := 0) (hi := 200) (st := st) ha
    have q2 := fun st => word_is (n := n + 1) (st := st) hb2
    cases z : betB a 0 200 <;> simp [g_has_numbers, sm, en, q1, q2, z]
  | a :: b :: c :: r, hs, sm, en => simp [g_has_numbers, sm, en, len3, len31]
theorem hn_cut (h : rest ≠ []) (hb : rest.dropLast = bt) (hs : ∀ x ∈ bt, Sh L k x) (hk : k + 1 ≤ 64) (hl : bt.length ≤ L) : fns (n + 3) .has_numbers [.tup (.str "cut" :: rest)] st = .ok (.bl (match bt with | [] => false | [a] => betB a 0 200 | [a, b] => false | _ => false)) st := by
  have sm := sl_mid (.str "cut") h hb
  have sb : Sh L (k + 1) (.tup bt) := by simp only [Sh]; exact ⟨hl, hs⟩
  have en := fun st => dEq_nilT (st := st) sb hk
  refine runF_ret ?_
  match bt, hs, sm, en with
  | [], hs, sm, en => simp [g_has_numbers, sm, en]
  | [a], hs, sm, en =>
    have ha := hs a (by simp)
    have q1 := fun st => between_is (n := n) (lo := 0) (hi := 200) (st := st) ha
    simp [g_has_numbers, sm, en, q1]
  | [a, b], hs, sm, en =>
    have ha := hs a (by simp)
    have hb2 := hs b (by simp)
    simp [g_has_numbers, sm, en]
  | a :: b :: c :: r, hs, sm, en => simp [g_has_numbers, sm, en, len3, len31]
theorem hn_left (h : rest ≠ []) (hb : rest.dropLast = bt) (hs : ∀ x ∈ bt, Sh L k x) (hk : k + 1 ≤ 64) (hl : bt.length ≤ L) : fns (n + 3) .has_numbers [.tup (.str "left" :: rest)] st = .ok (.bl (match bt with | [] => false | [a] => betB a 0 200 | [a, b] => false | _ => false)) st := by
  have sm := sl_mid (.str "left") h hb
  have sb : Sh L (k + 1) (.tup bt) := by simp only [Sh]; exact ⟨hl, hs⟩
  have en := fun st => dEq_nilT (st := st) sb hk
  refine runF_ret ?_
  match bt, hs, sm, en with
  | [], hs, sm, en => simp [g_has_numbers, sm, en]
  | [a], hs, sm, en =>
    have ha := hs a (by simp)
    have q1 := fun st => between_is (n := n) (lo := 0) (hi := 200) (st := st) ha
    simp [g_has_numbers, sm, en, q1]
  | [a, b], hs, sm, en =>
    have ha := hs a (by simp)
    have hb2 := hs b (by simp)
    simp [g_has_numbers, sm, en]
  | a :: b :: c :: r, hs, sm, en => simp [g_has_numbers, sm, en, len3, len31]
theorem hn_marks (h : rest ≠ []) (hb : rest.dropLast = bt) (hs : ∀ x ∈ bt, Sh L k x) (hk : k + 1 ≤ 64) (hl : bt.length ≤ L) : fns (n + 3) .has_numbers [.tup (.str "marks" :: rest)] st = .ok (.bl (match bt with | [] => false | [a] => byB a | [a, b] => false | _ => false)) st := by
  have sm := sl_mid (.str "marks") h hb
  have sb : Sh L (k + 1) (.tup bt) := by simp only [Sh]; exact ⟨hl, hs⟩
  have en := fun st => dEq_nilT (st := st) sb hk
  refine runF_ret ?_
  match bt, hs, sm, en with
  | [], hs, sm, en => simp [g_has_numbers, sm, en]
  | [a], hs, sm, en =>
    have ha := hs a (by simp)
    have q1 := fun st => whole_is (n := n + 1) (st := st) ha
    by_cases hi' : ∃ i, a = .int i
    · obtain ⟨i, rfl⟩ := hi'
      simp [g_has_numbers, sm, en, q1, qInt, byB]
    · have z : qInt a = false := by cases a <;> first | rfl | exact absurd ⟨_, rfl⟩ hi'
      have z2 : byB a = false := by cases a <;> first | rfl | exact absurd ⟨_, rfl⟩ hi'
      simp [g_has_numbers, sm, en, q1, z, z2]
  | [a, b], hs, sm, en =>
    have ha := hs a (by simp)
    have hb2 := hs b (by simp)
    simp [g_has_numbers, sm, en]
  | a :: b :: c :: r, hs, sm, en => simp [g_has_numbers, sm, en, len3, len31]
theorem hn_turn (h : rest ≠ []) (hb : rest.dropLast = bt) (hs : ∀ x ∈ bt, Sh L k x) (hk : k + 1 ≤ 64) (hl : bt.length ≤ L) {g : D → Bool} (hr : ∀ x ∈ bt, fns (n + 2) .is_rule [x] st = .ok (.bl (g x)) st) : fns (n + 3) .has_numbers [.tup (.str "turn" :: rest)] st = .ok (.bl (match bt with | [] => false | [a] => g a | [a, b] => false | _ => false)) st := by
  have sm := sl_mid (.str "turn") h hb
  have sb : Sh L (k + 1) (.tup bt) := by simp only [Sh]; exact ⟨hl, hs⟩
  have en := fun st => dEq_nilT (st := st) sb hk
  refine runF_ret ?_
  match bt, hs, sm, en, hr with
  | [], hs, sm, en, hr => simp [g_has_numbers, sm, en]
  | [a], hs, sm, en, hr =>
    have ha := hs a (by simp)
    have q1 := hr a (by simp)
    simp [g_has_numbers, sm, en, q1]
  | [a, b], hs, sm, en, hr =>
    have ha := hs a (by simp)
    have hb2 := hs b (by simp)
    simp [g_has_numbers, sm, en]
  | a :: b :: c :: r, hs, sm, en, hr => simp [g_has_numbers, sm, en, len3, len31]
theorem hn_sieve (h : rest ≠ []) (hb : rest.dropLast = bt) (hs : ∀ x ∈ bt, Sh L k x) (hk : k + 1 ≤ 64) (hl : bt.length ≤ L) {g : D → Bool} (hr : ∀ x ∈ bt, fns (n + 2) .is_test [x] st = .ok (.bl (g x)) st) : fns (n + 3) .has_numbers [.tup (.str "sieve" :: rest)] st = .ok (.bl (match bt with | [] => false | [a] => g a | [a, b] => false | _ => false)) st := by
  have sm := sl_mid (.str "sieve") h hb
  have sb : Sh L (k + 1) (.tup bt) := by simp only [Sh]; exact ⟨hl, hs⟩
  have en := fun st => dEq_nilT (st := st) sb hk
  refine runF_ret ?_
  match bt, hs, sm, en, hr with
  | [], hs, sm, en, hr => simp [g_has_numbers, sm, en]
  | [a], hs, sm, en, hr =>
    have ha := hs a (by simp)
    have q1 := hr a (by simp)
    simp [g_has_numbers, sm, en, q1]
  | [a, b], hs, sm, en, hr =>
    have ha := hs a (by simp)
    have hb2 := hs b (by simp)
    simp [g_has_numbers, sm, en]
  | a :: b :: c :: r, hs, sm, en, hr => simp [g_has_numbers, sm, en, len3, len31]
theorem hn_upto (h : rest ≠ []) (hb : rest.dropLast = bt) (hs : ∀ x ∈ bt, Sh L k x) (hk : k + 1 ≤ 64) (hl : bt.length ≤ L) {g : D → Bool} (hr : ∀ x ∈ bt, fns (n + 2) .is_test [x] st = .ok (.bl (g x)) st) : fns (n + 3) .has_numbers [.tup (.str "upto" :: rest)] st = .ok (.bl (match bt with | [] => false | [a] => g a | [a, b] => false | _ => false)) st := by
  have sm := sl_mid (.str "upto") h hb
  have sb : Sh L (k + 1) (.tup bt) := by simp only [Sh]; exact ⟨hl, hs⟩
  have en := fun st => dEq_nilT (st := st) sb hk
  refine runF_ret ?_
  match bt, hs, sm, en, hr with
  | [], hs, sm, en, hr => simp [g_has_numbers, sm, en]
  | [a], hs, sm, en, hr =>
    have ha := hs a (by simp)
    have q1 := hr a (by simp)
    simp [g_has_numbers, sm, en, q1]
  | [a, b], hs, sm, en, hr =>
    have ha := hs a (by simp)
    have hb2 := hs b (by simp)
    simp [g_has_numbers, sm, en]
  | a :: b :: c :: r, hs, sm, en, hr => simp [g_has_numbers, sm, en, len3, len31]
theorem hn_spare (h : rest ≠ []) (hb : rest.dropLast = bt) (hs : ∀ x ∈ bt, Sh L k x) (hk : k + 1 ≤ 64) (hl : bt.length ≤ L) {g : D → Bool} (hr : ∀ x ∈ bt, fns (n + 2) .is_plan [x] st = .ok (.bl (g x)) st) : fns (n + 3) .has_numbers [.tup (.str "spare" :: rest)] st = .ok (.bl (match bt with | [] => false | [a] => g a | [a, b] => false | _ => false)) st := by
  have sm := sl_mid (.str "spare") h hb
  have sb : Sh L (k + 1) (.tup bt) := by simp only [Sh]; exact ⟨hl, hs⟩
  have en := fun st => dEq_nilT (st := st) sb hk
  refine runF_ret ?_
  match bt, hs, sm, en, hr with
  | [], hs, sm, en, hr => simp [g_has_numbers, sm, en]
  | [a], hs, sm, en, hr =>
    have ha := hs a (by simp)
    have q1 := hr a (by simp)
    simp [g_has_numbers, sm, en, q1]
  | [a, b], hs, sm, en, hr =>
    have ha := hs a (by simp)
    have hb2 := hs b (by simp)
    simp [g_has_numbers, sm, en]
  | a :: b :: c :: r, hs, sm, en, hr => simp [g_has_numbers, sm, en, len3, len31]
end
section
variable {L k n : Nat} {rest : List D} {st : Store}
theorem two_len (h : rest ≠ []) : ¬ ((rest.length : Int) + 1 < 2) := by
  have : rest.length ≠ 0 := fun z => h (List.eq_nil_of_length_eq_zero z)
  omega
theorem ip_ahead {y : D} {a b : Bool} (h : rest ≠ []) (hy : rest.getLast? = some y) (h1 : fns (n + 1) .has_numbers [.tup (.str "ahead" :: rest)] st = .ok (.bl a) st) (h2 : fns (n + 1) .is_plan [y] st = .ok (.bl b) st) : fns (n + 2) .is_plan [.tup (.str "ahead" :: rest)] st = .ok (.bl (a && b)) st := by
  have t1 : ∀ st, dIsT "tuple" (.tup (.str "ahead" :: rest)) st = some (.bl true) := fun st => rfl
  have t2 : ∀ st, dIsT "str" (.str "ahead") st = some (.bl true) := fun st => rfl
  have lx := fun st => dIdx_last (x := .str "ahead") (st := st) hy
  refine runF_ret ?_
  cases a <;> simp [g_is_plan, t1, t2, two_len h, h1, lx, h2]
theorem ip_windows {y : D} {a b : Bool} (h : rest ≠ []) (hy : rest.getLast? = some y) (h1 : fns (n + 1) .has_numbers [.tup (.str "windows" :: rest)] st = .ok (.bl a) st) (h2 : fns (n + 1) .is_plan [y] st = .ok (.bl b) st) : fns (n + 2) .is_plan [.tup (.str "windows" :: rest)] st = .ok (.bl (a && b)) st := by
  have t1 : ∀ st, dIsT "tuple" (.tup (.str "windows" :: rest)) st = some (.bl true) := fun st => rfl
  have t2 : ∀ st, dIsT "str" (.str "windows") st = some (.bl true) := fun st => rfl
  have lx := fun st => dIdx_last (x := .str "windows") (st := st) hy
  refine runF_ret ?_
  cases a <;> simp [g_is_plan, t1, t2, two_len h, h1, lx, h2]
theorem ip_wanted {y : D} {a b : Bool} (h : rest ≠ []) (hy : rest.getLast? = some y) (h1 : fns (n + 1) .has_numbers [.tup (.str "wanted" :: rest)] st = .ok (.bl a) st) (h2 : fns (n + 1) .is_plan [y] st = .ok (.bl b) st) : fns (n + 2) .is_plan [.tup (.str "wanted" :: rest)] st = .ok (.bl (a && b)) st := by
  have t1 : ∀ st, dIsT "tuple" (.tup (.str "wanted" :: rest)) st = some (.bl true) := fun st => rfl
  have t2 : ∀ st, dIsT "str" (.str "wanted") st = some (.bl true) := fun st => rfl
  have lx := fun st => dIdx_last (x := .str "wanted") (st := st) hy
  refine runF_ret ?_
  cases a <;> simp [g_is_plan, t1, t2, two_len h, h1, lx, h2]
theorem ip_turn {y : D} {a b : Bool} (h : rest ≠ []) (hy : rest.getLast? = some y) (h1 : fns (n + 1) .has_numbers [.tup (.str "turn" :: rest)] st = .ok (.bl a) st) (h2 : fns (n + 1) .is_plan [y] st = .ok (.bl b) st) : fns (n + 2) .is_plan [.tup (.str "turn" :: rest)] st = .ok (.bl (a && b)) st := by
  have t1 : ∀ st, dIsT "tuple" (.tup (.str "turn" :: rest)) st = some (.bl true) := fun st => rfl
  have t2 : ∀ st, dIsT "str" (.str "turn") st = some (.bl true) := fun st => rfl
  have lx := fun st => dIdx_last (x := .str "turn") (st := st) hy
  refine runF_ret ?_
  cases a <;> simp [g_is_plan, t1, t2, two_len h, h1, lx, h2]
theorem ip_sieve {y : D} {a b : Bool} (h : rest ≠ []) (hy : rest.getLast? = some y) (h1 : fns (n + 1) .has_numbers [.tup (.str "sieve" :: rest)] st = .ok (.bl a) st) (h2 : fns (n + 1) .is_plan [y] st = .ok (.bl b) st) : fns (n + 2) .is_plan [.tup (.str "sieve" :: rest)] st = .ok (.bl (a && b)) st := by
  have t1 : ∀ st, dIsT "tuple" (.tup (.str "sieve" :: rest)) st = some (.bl true) := fun st => rfl
  have t2 : ∀ st, dIsT "str" (.str "sieve") st = some (.bl true) := fun st => rfl
  have lx := fun st => dIdx_last (x := .str "sieve") (st := st) hy
  refine runF_ret ?_
  cases a <;> simp [g_is_plan, t1, t2, two_len h, h1, lx, h2]
theorem ip_upto {y : D} {a b : Bool} (h : rest ≠ []) (hy : rest.getLast? = some y) (h1 : fns (n + 1) .has_numbers [.tup (.str "upto" :: rest)] st = .ok (.bl a) st) (h2 : fns (n + 1) .is_plan [y] st = .ok (.bl b) st) : fns (n + 2) .is_plan [.tup (.str "upto" :: rest)] st = .ok (.bl (a && b)) st := by
  have t1 : ∀ st, dIsT "tuple" (.tup (.str "upto" :: rest)) st = some (.bl true) := fun st => rfl
  have t2 : ∀ st, dIsT "str" (.str "upto") st = some (.bl true) := fun st => rfl
  have lx := fun st => dIdx_last (x := .str "upto") (st := st) hy
  refine runF_ret ?_
  cases a <;> simp [g_is_plan, t1, t2, two_len h, h1, lx, h2]
theorem ip_cut {y : D} {a b : Bool} (h : rest ≠ []) (hy : rest.getLast? = some y) (h1 : fns (n + 1) .has_numbers [.tup (.str "cut" :: rest)] st = .ok (.bl a) st) (h2 : fns (n + 1) .is_plan [y] st = .ok (.bl b) st) : fns (n + 2) .is_plan [.tup (.str "cut" :: rest)] st = .ok (.bl (a && b)) st := by
  have t1 : ∀ st, dIsT "tuple" (.tup (.str "cut" :: rest)) st = some (.bl true) := fun st => rfl
  have t2 : ∀ st, dIsT "str" (.str "cut") st = some (.bl true) := fun st => rfl
  have lx := fun st => dIdx_last (x := .str "cut") (st := st) hy
  refine runF_ret ?_
  cases a <;> simp [g_is_plan, t1, t2, two_len h, h1, lx, h2]
theorem ip_left {y : D} {a b : Bool} (h : rest ≠ []) (hy : rest.getLast? = some y) (h1 : fns (n + 1) .has_numbers [.tup (.str "left" :: rest)] st = .ok (.bl a) st) (h2 : fns (n + 1) .is_plan [y] st = .ok (.bl b) st) : fns (n + 2) .is_plan [.tup (.str "left" :: rest)] st = .ok (.bl (a && b)) st := by
  have t1 : ∀ st, dIsT "tuple" (.tup (.str "left" :: rest)) st = some (.bl true) := fun st => rfl
  have t2 : ∀ st, dIsT "str" (.str "left") st = some (.bl true) := fun st => rfl
  have lx := fun st => dIdx_last (x := .str "left") (st := st) hy
  refine runF_ret ?_
  cases a <;> simp [g_is_plan, t1, t2, two_len h, h1, lx, h2]
theorem ip_marks {y : D} {a b : Bool} (h : rest ≠ []) (hy : rest.getLast? = some y) (h1 : fns (n + 1) .has_numbers [.tup (.str "marks" :: rest)] st = .ok (.bl a) st) (h2 : fns (n + 1) .is_plan [y] st = .ok (.bl b) st) : fns (n + 2) .is_plan [.tup (.str "marks" :: rest)] st = .ok (.bl (a && b)) st := by
  have t1 : ∀ st, dIsT "tuple" (.tup (.str "marks" :: rest)) st = some (.bl true) := fun st => rfl
  have t2 : ∀ st, dIsT "str" (.str "marks") st = some (.bl true) := fun st => rfl
  have lx := fun st => dIdx_last (x := .str "marks") (st := st) hy
  refine runF_ret ?_
  cases a <;> simp [g_is_plan, t1, t2, two_len h, h1, lx, h2]
theorem ip_spare {y : D} {a b : Bool} (h : rest ≠ []) (hy : rest.getLast? = some y) (h1 : fns (n + 1) .has_numbers [.tup (.str "spare" :: rest)] st = .ok (.bl a) st) (h2 : fns (n + 1) .is_plan [y] st = .ok (.bl b) st) : fns (n + 2) .is_plan [.tup (.str "spare" :: rest)] st = .ok (.bl (a && b)) st := by
  have t1 : ∀ st, dIsT "tuple" (.tup (.str "spare" :: rest)) st = some (.bl true) := fun st => rfl
  have t2 : ∀ st, dIsT "str" (.str "spare") st = some (.bl true) := fun st => rfl
  have lx := fun st => dIdx_last (x := .str "spare") (st := st) hy
  refine runF_ret ?_
  cases a <;> simp [g_is_plan, t1, t2, two_len h, h1, lx, h2]
end
section
variable {L k n : Nat} {rest : List D} {st : Store}
theorem l2 (r : List D) : ¬ ((r.length : Int) + 1 + 1 + 1 + 1 + 1 = 2) := by omega
theorem l3 (r : List D) : ¬ ((r.length : Int) + 1 + 1 + 1 + 1 + 1 = 3) := by omega
theorem l4 (r : List D) : ¬ ((r.length : Int) + 1 + 1 + 1 + 1 + 1 = 4) := by omega
def leafB (w : Str) : List D → Bool
  | [a] => if w = "list" then numsB a else if w = "row" then betB a 0 59 else false
  | [a, b] => if w = "broken" then numsB a && wordB b else false
  | [a, b, c] => if w = "count" then qInt a && (qInt b && betB c 0 200) else false
  | _ => false
theorem leaf_is (w : Str) (hw : w = "list" ∨ w = "row" ∨ w = "broken" ∨ w = "count") (h : rest ≠ []) (hs : ∀ x ∈ rest, Sh L k x) : fns (n + 4) .is_plan [.tup (.str w :: rest)] st = .ok (.bl (leafB w rest)) st := by
  have t1 : ∀ st, dIsT "tuple" (.tup (.str w :: rest)) st = some (.bl true) := fun st => rfl
  have t2 : ∀ st, dIsT "str" (.str w) st = some (.bl true) := fun st => rfl
  have key : fns (n + 3) .is_leaf [.tup (.str w :: rest)] st = .ok (.bl (leafB w rest)) st := by
    refine runF_ret ?_
    have d1 : ¬ (("list" : Str) = "row") := by decide +kernel
    have d2 : ¬ (("list" : Str) = "broken") := by decide +kernel
    have d3 : ¬ (("list" : Str) = "count") := by decide +kernel
    have d4 : ¬ (("row" : Str) = "list") := by decide +kernel
    have d5 : ¬ (("row" : Str) = "broken") := by decide +kernel
    have d6 : ¬ (("row" : Str) = "count") := by decide +kernel
    have d7 : ¬ (("broken" : Str) = "list") := by decide +kernel
    have d8 : ¬ (("broken" : Str) = "row") := by decide +kernel
    have d9 : ¬ (("broken" : Str) = "count") := by decide +kernel
    have da : ¬ (("count" : Str) = "list") := by decide +kernel
    have db : ¬ (("count" : Str) = "row") := by decide +kernel
    have dc : ¬ (("count" : Str) = "broken") := by decide +kernel
    match rest, hs, h with
    | [], hs, h => exact absurd rfl h
    | [a], hs, h =>
      have ha := hs a (by simp)
      have q1 := fun st => numbers_is (n := n) (st := st) ha
      have q2 := fun st => between_is (n := n) (lo := 0) (hi := 59) (st := st) ha
      rcases hw with rfl | rfl | rfl | rfl <;> simp [g_is_leaf, q1, q2, leafB, d1, d2, d3, d4, d5, d6, d7, d8, d9, da, db, dc]
    | [a, b], hs, h =>
      have ha := hs a (by simp)
      have hb := hs b (by simp)
      have q1 := fun st => numbers_is (n := n) (st := st) ha
      have q2 := fun st => word_is (n := n + 1) (st := st) hb
      rcases hw with rfl | rfl | rfl | rfl <;> cases z : numsB a <;> simp [g_is_leaf, q1, q2, z, leafB, d1, d2, d3, d4, d5, d6, d7, d8, d9, da, db, dc]
    | [a, b, c], hs, h =>
      have ha := hs a (by simp)
      have hb := hs b (by simp)
      have hc := hs c (by simp)
      have q1 := fun st => whole_is (n := n + 1) (st := st) ha
      have q2 := fun st => whole_is (n := n + 1) (st := st) hb
      have q3 := fun st => between_is (n := n) (lo := 0) (hi := 200) (st := st) hc
      have i3 : ∀ (w : Str) (st : Store), dIdx (.tup [.str w, a, b, c]) (.int 3) st = some c := fun w st => dIdx_tn (k := 3) rfl
      rcases hw with rfl | rfl | rfl | rfl <;> cases z : qInt a <;> cases z2 : qInt b <;> simp [g_is_leaf, i3, q1, q2, q3, z, z2, leafB, d1, d2, d3, d4, d5, d6, d7, d8, d9, da, db, dc]
    | a :: b :: c :: d :: r, hs, h =>
      rcases hw with rfl | rfl | rfl | rfl <;> simp [g_is_leaf, l2, l3, l4, leafB]
  refine runF_ret ?_
  rcases hw with rfl | rfl | rfl | rfl <;> simp [g_is_plan, t1, t2, two_len h, key]
end
section
variable {L k n : Nat} {rest : List D} {st : Store}
theorem joined_len (w : Str) (hw : w = "chain" ∨ w = "beside") (h : rest ≠ []) (h2 : rest.length ≠ 1) : fns (n + 2) .is_plan [.tup (.str w :: rest)] st = .ok (.bl false) st := by
  have t1 : ∀ st, dIsT "tuple" (.tup (.str w :: rest)) st = some (.bl true) := fun st => rfl
  have t2 : ∀ st, dIsT "str" (.str w) st = some (.bl true) := fun st => rfl
  have hl : ¬ ((rest.length : Int) + 1 = 2) := by omega
  have key : fns (n + 1) .is_joined [.tup (.str w :: rest)] st = .ok (.bl false) st := runF_ret (by simp [g_is_joined, hl])
  refine runF_ret ?_
  rcases hw with rfl | rfl <;> simp [g_is_plan, t1, t2, two_len h, key]
theorem joined_not (w : Str) (hw : w = "chain" ∨ w = "beside") {x : D} (hx : Sh L k x) (ht : ∀ l, x ≠ .tup l) : fns (n + 2) .is_plan [.tup [.str w, x]] st = .ok (.bl false) st := by
  have t1 : ∀ st, dIsT "tuple" (.tup [.str w, x]) st = some (.bl true) := fun st => rfl
  have t2 : ∀ st, dIsT "str" (.str w) st = some (.bl true) := fun st => rfl
  have z : qTup x = false := notTup hx ht
  have key : fns (n + 1) .is_joined [.tup [.str w, x]] st = .ok (.bl false) st := runF_ret (by simp [g_is_joined, dIsT_tuple hx, z])
  refine runF_ret ?_
  rcases hw with rfl | rfl <;> simp [g_is_plan, t1, t2, key]
theorem joined_is (w : Str) (hw : w = "chain" ∨ w = "beside") {l : List D} {f : D → Bool} (h : Sh L (k + 1) (.tup l)) (hk : k + 1 ≤ 64) (hf : ∀ y ∈ l, fns (n + 1) .is_plan [y] st = .ok (.bl (f y)) st) :
    fns (n + 3) .is_plan [.tup [.str w, .tup l]] st = .ok (.bl (decide (l.length ≤ 6) && ((decide (w = "chain") || !l.isEmpty) && l.all f))) st := by
  have t1 : ∀ st, dIsT "tuple" (.tup [.str w, .tup l]) st = some (.bl true) := fun st => rfl
  have t2 : ∀ st, dIsT "str" (.str w) st = some (.bl true) := fun st => rfl
  have t3 : ∀ st, dIsT "tuple" (.tup l) st = some (.bl true) := fun st => rfl
  have n1 : ¬ (("beside" : Str) = "chain") := by decide +kernel
  have ne := fun st => dNe_nilT (st := st) h hk
  have e : eComp [1] (iSeq (eOp dIdx (eVar 0) (eC (.int 1)))) (tgName 1) (fun _ => pure true) (eCall (fns (n + 1) .is_plan) [(eVar 1)]) [some (.tup [.str w, .tup l]), none] st = .ok (.lst (l.map fun d => .bl (f d))) st := by
    refine eComp_of (l := l) (st1 := st) (by simp) ?_
    rw [compGo_map fun d => .bl (f d)]
    · simp
    · intro d hd
      simp [evWipe, hf d hd]
  have key : fns (n + 2) .is_joined [.tup [.str w, .tup l]] st = .ok (.bl (decide (l.length ≤ 6) && ((decide (w = "chain") || !l.isEmpty) && l.all f))) st := by
    refine runF_ret ?_
    by_cases c1 : l.length ≤ 6
    · have c1' : ¬ (6 : Int) < l.length := by omega
      rcases hw with rfl | rfl
      · simp [g_is_joined, t3, c1', e, dAll, bools_map, c1]
      · cases q : l.isEmpty
        · rw [q] at ne
          simp [g_is_joined, t3, c1', ne, e, dAll, bools_map, c1]
        · rw [q] at ne
          simp [g_is_joined, t3, c1', ne, n1]
    · have c1' : (6 : Int) < l.length := by omega
      simp [g_is_joined, t3, c1', c1]
  refine runF_ret ?_
  rcases hw with rfl | rfl <;> simp [g_is_plan, t1, t2, key]
end
end K91
end

section
set_option Elab.async false
set_option linter.all false
set_option maxRecDepth 100000
set_option maxHeartbeats 1000000
namespace K91
open PySem L2 G PyProof.Rows
/-! ## the pot and the room -/
def PotC (c : Cell) : Prop := ∃ a b : Int, c = .lst [.int a, .int b] ∧ 0 ≤ b ∧ b < 2 ^ 40
def Pot (i : Nat) (st : Store) : Prop := ∃ c, st[i]? = some c ∧ PotC c
theorem take {i n : Nat} {m : Int} {st : Store} (h : Pot i st) (hm : 0 < m) (hm2 : divOk m = true) : ∃ r st', fns (n + 1) .l_take [.cell i, .int m] st = .ok (.int r) st' ∧ 0 ≤ r ∧ r < m ∧ Pot i st' ∧ st'.length = st.length ∧ ∀ k, k ≠ i → st'[k]? = st[k]? := by
  obtain ⟨c, hc, a, b, rfl, hb, hb2⟩ := h
  have hl : i < st.length := (List.getElem?_eq_some_iff.mp hc).1
  have cl : cellL st i = some [.int a, .int b] := by unfold cellL; rw [hc]
  have i0 := dIdx_cn (k := 0) cl rfl
  have i1 := dIdx_cn (k := 1) cl rfl
  simp only [Int.ofNat_eq_natCast, Int.natCast_zero] at i0
  have x0 : ixN 2 0 = some 0 := rfl
  have x1 : ixN 2 1 = some 1 := rfl
  by_cases ha : 0 < a
  · refine ⟨a % m, st.set i (.lst [.int (a / m), .int b]), runF_ret ?_, Int.emod_nonneg _ (by omega), Int.emod_lt_of_pos _ hm, ⟨_, by rw [List.getElem?_set_self hl], _, _, rfl, hb, hb2⟩, by simp, fun k hk => by rw [List.getElem?_set_ne (Ne.symm hk)]⟩
    simp [g_l_take, i0, ha, dDivmod_of hm2, putIdx, hc, x0]
  · have e1 : mulOk b 39373 = true := mulOk_of (a := 40) (b := 16) (by omega) (by decide) (by decide) (by decide)
    obtain ⟨b', hbe⟩ : ∃ b', (b * 39373 + 11) % 2147483647 = b' := ⟨_, rfl⟩
    have hb' : 0 ≤ b' := by rw [← hbe]; exact Int.emod_nonneg _ (by decide)
    have hb3 : b' < 2147483647 := by rw [← hbe]; exact Int.emod_lt_of_pos _ (by decide)
    have e2 : mulOk b' b' = true := mulOk_of (a := 31) (b := 31) (by omega) (by omega) (by decide) (by decide)
    have cl2 : cellL (st.set i (.lst [.int a, .int b'])) i = some [.int a, .int b'] := by unfold cellL; rw [List.getElem?_set_self hl]
    have j1 := dIdx_cn (k := 1) cl2 rfl
    refine ⟨(b' * b') % 2147483629 / 3 % m, st.set i (.lst [.int a, .int b']), runF_ret ?_, Int.emod_nonneg _ (by omega), Int.emod_lt_of_pos _ hm, ⟨_, by rw [List.getElem?_set_self hl], _, _, rfl, hb', by omega⟩, by simp, fun k hk => by rw [List.getElem?_set_ne (Ne.symm hk)]⟩
    have d7 : divOk 3 = true := by decide
    have m1 : ∀ (z : Int) (st : Store), dMod (.int z) (.int 2147483647) st = some (.int (z % 2147483647)) := fun z st => dMod_of (by decide)
    have m2 : ∀ (z : Int) (st : Store), dMod (.int z) (.int 2147483629) st = some (.int (z % 2147483629)) := fun z st => dMod_of (by decide)
    have m3 : ∀ (z : Int) (st : Store), dMod (.int z) (.int m) st = some (.int (z % m)) := fun z st => dMod_of hm
    simp only [Int.ofNat_eq_natCast, Int.natCast_one] at i1 j1
    simp [g_l_take, i0, ha, i1, dMul_of e1, m1, putIdx, hc, x1, hbe, j1, dMul_of e2, m2, m3, dDiv_of d7]

structure PI (i : Nat) (s0 st : Store) : Prop where
  pot : Pot i st
  len : st.length = s0.length
  rest : ∀ k, k ≠ i → st[k]? = s0[k]?
theorem takeP {i n : Nat} {m : Int} {s0 st : Store} (h : PI i s0 st) (hm : 0 < m) (hm2 : divOk m = true) : ∃ r st', fns (n + 1) .l_take [.cell i, .int m] st = .ok (.int r) st' ∧ 0 ≤ r ∧ r < m ∧ PI i s0 st' := by
  obtain ⟨r, st', e, a, b, p, l, q⟩ := take (n := n) h.pot hm hm2
  exact ⟨r, st', e, a, b, p, l.trans h.len, fun k hk => (q k hk).trans (h.rest k hk)⟩
theorem dPow_of {i j : Int} {st : Store} (h : powOk i j = true) : dPow (.int i) (.int j) st = some (.int (i ^ j.toNat)) := by simp only [dPow, if_pos h]
theorem p10 {st : Store} : dPow (.int 10) (.int 10) st = some (.int 10000000000) := dPow_of (by decide)
theorem p29 {st : Store} : dPow (.int 10) (.int 29) st = some (.int 100000000000000000000000000000) := dPow_of (by decide)
theorem p18 {st : Store} : dPow (.int 10) (.int 18) st = some (.int 1000000000000000000) := dPow_of (by decide)
theorem p30 {st : Store} : dPow (.int 10) (.int 30) st = some (.int 1000000000000000000000000000000) := dPow_of (by decide)
/-! ## how much a thing shows -/
mutual
def bk : D → Nat
  | .str x => x.cps.size
  | .tup l => bkL l
  | .lst l => bkL l
  | _ => 0
def bkL : List D → Nat
  | [] => 0
  | x :: l => bk x + 1 + bkL l
end
theorem bkL_app (a b : List D) : bkL (a ++ b) = bkL a + bkL b := by
  induction a with
  | nil => simp [bkL]
  | cons x a ih => simp only [List.cons_append, bkL, ih]; omega
theorem bkL_le {B : Nat} : ∀ (l : List D), (∀ x ∈ l, bk x ≤ B) → bkL l ≤ l.length * (B + 1)
  | [], _ => by simp [bkL]
  | x :: l, h => by
    have h1 := h x (by simp)
    have h2 := bkL_le l fun y hy => h y (by simp [hy])
    simp only [bkL, List.length_cons, Nat.succ_mul]; omega
mutual
theorem bk_data : ∀ (d : D) (p : PyData), d.data = some p → p.bulk = bk d
  | .non, p, e => by cases e; rfl
  | .bl _, p, e => by cases e; rfl
  | .int _, p, e => by cases e; rfl
  | .str x, p, e => by cases e; simp [PyData.bulk, bk]
  | .tup l, p, e => by
    simp only [D.data] at e
    cases q : D.datas l with
    | none => rw [q] at e; cases e
    | some ps => rw [q] at e; cases e; simp only [PyData.bulk, bk]; exact bkL_data l ps q
  | .lst l, p, e => by
    simp only [D.data] at e
    cases q : D.datas l with
    | none => rw [q] at e; cases e
    | some ps => rw [q] at e; cases e; simp only [PyData.bulk, bk]; exact bkL_data l ps q
  | .cell _, p, e => by cases e
  | .dct0, p, e => by cases e
  | .exc _, p, e => by cases e
  | .con _, p, e => by cases e
theorem bkL_data : ∀ (l : List D) (ps : List PyData), D.datas l = some ps → PyData.bulkAll ps = bkL l
  | [], ps, e => by cases e; rfl
  | x :: l, ps, e => by
    simp only [D.datas] at e
    cases q : x.data with
    | none => rw [q] at e; cases e
    | some p =>
      rw [q] at e
      cases r : D.datas l with
      | none => rw [r] at e; cases e
      | some qs =>
        rw [r] at e
        cases e
        simp only [PyData.bulkAll, bkL, bk_data x p q, bkL_data l qs r]
end
structure Shw (p : PyData) : Prop where
  lay : p.canLay0 = true
  shw : p.showable = true
  lvs : p.intsShort 32 = true
theorem shw_list : ∀ (l : List D), (∀ x ∈ l, ∃ p, x.data = some p ∧ Shw p) → ∃ ps, D.datas l = some ps ∧ PyData.canLayAll0 ps = true ∧ PyData.showableAll ps = true ∧ PyData.intsShortAll 32 ps = true
  | [], _ => ⟨[], rfl, rfl, rfl, rfl⟩
  | x :: l, h => by
    obtain ⟨p, e, q⟩ := h x (by simp)
    obtain ⟨ps, es, c, s, v⟩ := shw_list l fun y hy => h y (by simp [hy])
    exact ⟨p :: ps, by simp only [D.datas, e, es], by simp only [PyData.canLayAll0, q.lay, c, Bool.and_self], by simp only [PyData.showableAll, q.shw, s, Bool.and_self], by simp only [PyData.intsShortAll, q.lvs, v, Bool.and_self]⟩
theorem sh_shw {L : Nat} : ∀ {k : Nat} {d : D}, Sh L k d → ∃ p, d.data = some p ∧ Shw p
  | _, .non, h => ⟨_, rfl, rfl, rfl, rfl⟩
  | _, .bl _, h => ⟨_, rfl, rfl, rfl, rfl⟩
  | k, .int i, h => by
    simp only [Sh] at h
    refine ⟨_, rfl, rfl, ?_, ?_⟩
    · simp only [PyData.showable, decide_eq_true_eq]
      by_cases z : i.natAbs = 0
      · rw [z]; decide
      · exact Nat.lt_of_lt_of_le ((Nat.log2_lt z).mpr (Nat.lt_of_lt_of_le h (by decide +kernel : 10 ^ 31 ≤ 2 ^ 420))) (by decide)
    · simp only [PyData.intsShort, decide_eq_true_eq]
      have e := int_text_length_le10 (k := 31) (by decide) h
      show (Str.ofString (toString i)).length ≤ 32
      rw [PySem.ofString_length]; exact e
  | k, .str x, h => by
    simp only [Sh] at h
    exact ⟨_, rfl, by simpa only [PyData.canLay0] using h.1, rfl, rfl⟩
  | 0, .tup l, h => by simp [Sh] at h
  | 0, .lst l, h => by simp [Sh] at h
  | k + 1, .tup l, h => by
    simp only [Sh] at h
    obtain ⟨ps, e, c, s, v⟩ := shw_list l fun x hx => sh_shw (h.2 x hx)
    exact ⟨.tuple ps, by simp [D.data, e], by simpa [PyData.canLay0] using c, by simpa [PyData.showable] using s, by simpa [PyData.intsShort] using v⟩
  | k + 1, .lst l, h => by
    simp only [Sh] at h
    obtain ⟨ps, e, c, s, v⟩ := shw_list l fun x hx => sh_shw (h.2 x hx)
    exact ⟨.list ps, by simp [D.data, e], by simpa [PyData.canLay0] using c, by simpa [PyData.showable] using s, by simpa [PyData.intsShort] using v⟩
  | _, .cell _, h => by simp [Sh] at h
  | _, .dct0, h => by simp [Sh] at h
  | _, .exc _, h => by simp [Sh] at h
  | _, .con _, h => by simp [Sh] at h
theorem repr_ok {L k : Nat} {d : D} (h : Sh L k d) (hk : k ≤ 60) (hb : bk d ≤ 400000) : ∃ p, d.data = some p ∧ reprOk p = true := by
  obtain ⟨p, e, q⟩ := sh_shw h
  obtain ⟨p', e', _, dep, nod⟩ := h.data
  cases e.symm.trans e'
  refine ⟨p, e, ?_⟩
  have hb' := bk_data d p e
  have hl := PyData.shown_le_bulk 32 (by decide) p (PyData.leavesShort_of_canLay0 32 p q.lay q.lvs)
  unfold reprOk
  simp only [q.shw, nod, Bool.true_and, Bool.not_false, Bool.and_true, Bool.and_eq_true, decide_eq_true_eq]
  refine ⟨?_, by omega⟩
  have : sizeLine = 16777216 := by decide
  have : (32 + 2) * p.bulk ≤ 34 * 400000 := Nat.mul_le_mul_left _ (by omega)
  omega
/-- the text of a datum -/
def txt (d : D) (s : Str) : Prop := ∀ st, dReprA [d] st = some (.str s)
theorem repr_txt {L k : Nat} {d : D} (h : Sh L k d) (hk : k ≤ 60) (hb : bk d ≤ 400000) : ∃ s, txt d s := by
  obtain ⟨p, e, q⟩ := repr_ok h hk hb
  cases d with
  | non => exact ⟨_, fun st => rfl⟩
  | bl b => exact ⟨_, fun st => rfl⟩
  | int i =>
    obtain ⟨p', e', q'⟩ := sh_shw h
    have := q'.shw
    simp only [D.data] at e'
    cases e'
    simp only [PyData.showable, decide_eq_true_eq] at this
    exact ⟨toString i, fun st => by simp only [dReprA, dRepr, if_pos this]⟩
  | str x =>
    cases e
    have := q
    unfold reprOk at this
    simp only [Bool.and_eq_true, decide_eq_true_eq] at this
    have l : (reprText x).length ≤ sizeLine := this.1.1.2
    exact ⟨reprText x, fun st => by simp only [dReprA, if_pos l]⟩
  | tup l => exact ⟨p.shown, fun st => by simp only [dReprA, dRepr, e, q, if_true]⟩
  | lst l => exact ⟨p.shown, fun st => by simp only [dReprA, dRepr, e, q, if_true]⟩
  | cell _ => cases e
  | dct0 => cases e
  | exc _ => cases e
  | con _ => cases e
end K91
end

section
set_option Elab.async false
set_option linter.all false
set_option maxRecDepth 100000
set_option maxHeartbeats 1000000
namespace K91
open PySem L2 G
/-! ## lists in cells -/
section
variable {env : Ev} {st e : Store} {fo : Ev → M D} {fs : List (Ev → M D)} {a a' : List D}
@[simp] theorem eLm_app {g : List D → List D → Option (List D)} : eLm g fo fs env st = (fo env st).bnd fun o st => (chkL o st).bnd fun _ st => (aSeq fs env st).bnd fun ds st => updL o (fun l => g l ds) st := rfl
@[simp] theorem eFree_app : eFree fo env st = (fo env st).bnd freeL := rfl
theorem at_mid {x : Cell} : (st ++ x :: e)[st.length]? = some x := by rw [List.getElem?_append_right (Nat.le_refl _)]; simp
theorem set_mid {x y : Cell} : (st ++ x :: e).set st.length y = st ++ y :: e := by
  induction st with
  | nil => rfl
  | cons a l ih => simp [ih]
theorem chk_mid : chkL (.cell st.length) (st ++ .lst a :: e) = .ok () (st ++ .lst a :: e) := by
  have : isLst (.cell st.length) (st ++ .lst a :: e) = true := by simp only [isLst]; rw [at_mid]
  unfold chkL
  rw [if_pos this]
theorem upd_mid {f : List D → Option (List D)} (h : f a = some a') : updL (.cell st.length) f (st ++ .lst a :: e) = .ok .non (st ++ .lst a' :: e) := by
  simp only [updL]
  rw [at_mid]
  simp only [h, set_mid]
theorem free_mid : freeL (.cell st.length) (st ++ .lst a :: e) = .ok (.lst a) (st ++ .dead :: e) := by
  simp only [freeL]
  rw [at_mid]
  simp only [set_mid]
theorem gApp (y : D) (h : a.length < 16777216) : gAppend a [y] = some (a ++ [y]) := by simp only [gAppend]; rw [if_pos (by simpa [sizeLine] using h)]
end
theorem app_mid {st e : Store} {a : List D} (y : D) (h : a.length < 16777216) : updL (.cell st.length) (fun l => gAppend l [y]) (st ++ .lst a :: e) = .ok .non (st ++ .lst (a ++ [y]) :: e) := upd_mid (gApp y h)
theorem ext_mid {st e : Store} {a : List D} (ys : List D) (h : a.length + ys.length ≤ 16777216) : updL (.cell st.length) (fun l => gExtend l [.lst ys]) (st ++ .lst a :: e) = .ok .non (st ++ .lst (a ++ ys) :: e) := upd_mid (by simp only [gExtend]; rw [if_pos (by simpa [sizeLine] using h)])
/-! ## things by their sorts, and their words -/
inductive So where
  | num | wrd | nums | rule | test | plans | chg | lok | pln
  deriving DecidableEq
def So.nm : So → Str
  | .num => "number" | .wrd => "word" | .nums => "numbers" | .rule => "rule" | .test => "test" | .plans => "plans" | .chg => "change" | .lok => "look" | .pln => "plan"
/-- the law's letter -/
def So.ch : So → Nat
  | .num => 110 | .wrd => 119 | .nums => 78 | .rule => 82 | .test => 84 | .plans => 80 | .chg => 99 | .lok => 108 | .pln => 112
def el : So → Option So
  | .nums => some .num | .rule => some .chg | .test => some .lok | .plans => some .pln | _ => none
def entL : So → List (Str × List So)
  | .chg => [("add", [.num]), ("times", [.num]), ("rest", [.num]), ("one", []), ("sum", [])]
  | .lok => [("rest", [.num, .num]), ("below", [.num]), ("after", [.rule, .test])]
  | .pln => [("list", [.nums]), ("broken", [.nums, .wrd]), ("count", [.num, .num, .num]), ("row", [.num]), ("turn", [.rule, .pln]), ("sieve", [.test, .pln]), ("upto", [.test, .pln]), ("cut", [.num, .pln]), ("left", [.num, .pln]), ("chain", [.plans]), ("beside", [.plans]), ("ahead", [.pln]), ("windows", [.num, .num, .pln]), ("marks", [.num, .pln]), ("spare", [.pln, .pln]), ("wanted", [.num, .wrd, .pln])]
  | _ => []
def nS (i : Int) : Str := Str.ofString (toString i)
def Ths (T : So → D → List Str → Prop) : List So → List D → List Str → Prop
  | [], [], ws => ws = []
  | s :: ss, d :: ds, ws => ∃ w1 w2, ws = w1 ++ w2 ∧ T s d w1 ∧ Ths T ss ds w2
  | _, _, _ => False
def Lf (s : So) (d : D) (ws : List Str) : Prop := (s = .num ∧ ∃ i : Int, d = .int i ∧ i.natAbs ≤ 10 ^ 30 ∧ ws = [nS i]) ∨ (s = .wrd ∧ ∃ z : Str, d = .str z ∧ wordB (.str z) = true ∧ ws = [z])
def Sv (T : So → D → List Str → Prop) (s : So) (d : D) (ws : List Str) : Prop := ∃ (e : So) (l : List D) (w : List Str), el s = some e ∧ d = .tup l ∧ l.length ≤ 60 ∧ Ths T (List.replicate l.length e) l w ∧ ws = nS l.length :: w
def Hd (T : So → D → List Str → Prop) (s : So) (d : D) (ws : List Str) : Prop := ∃ (x : Str) (ss : List So) (ds : List D) (w : List Str), (x, ss) ∈ entL s ∧ d = .tup (.str x :: ds) ∧ Ths T ss ds w ∧ ws = x :: w
def Th : Nat → So → D → List Str → Prop
  | 0 => Lf
  | h + 1 => fun s d ws => Lf s d ws ∨ Sv (Th h) s d ws ∨ Hd (Th h) s d ws
theorem Ths.imp {T U : So → D → List Str → Prop} (h : ∀ s d ws, T s d ws → U s d ws) : ∀ {ss : List So} {ds : List D} {ws : List Str}, Ths T ss ds ws → Ths U ss ds ws
  | [], [], ws, t => t
  | s :: ss, d :: ds, ws, t => by
    obtain ⟨w1, w2, e, t1, t2⟩ := t
    exact ⟨w1, w2, e, h _ _ _ t1, Ths.imp h t2⟩
  | [], _ :: _, _, t => t.elim
  | _ :: _, [], _, t => t.elim
theorem Th.succ : ∀ {h : Nat} {s : So} {d : D} {ws : List Str}, Th h s d ws → Th (h + 1) s d ws
  | 0, s, d, ws, t => .inl t
  | h + 1, s, d, ws, t => by
    rcases t with t | ⟨e, l, w, e1, e2, e3, e4, e5⟩ | ⟨x, ss, ds, w, e1, e2, e3, e4⟩
    · exact .inl t
    · exact .inr (.inl ⟨e, l, w, e1, e2, e3, e4.imp fun _ _ _ t => t.succ, e5⟩)
    · exact .inr (.inr ⟨x, ss, ds, w, e1, e2, e3.imp fun _ _ _ t => t.succ, e4⟩)
theorem Th.mono {h h' : Nat} (hh : h ≤ h') {s : So} {d : D} {ws : List Str} (t : Th h s d ws) : Th h' s d ws := by
  induction hh with
  | refl => exact t
  | step _ ih => exact ih.succ
theorem Ths.len {T : So → D → List Str → Prop} : ∀ {ss : List So} {ds : List D} {ws : List Str}, Ths T ss ds ws → ds.length = ss.length
  | [], [], ws, t => rfl
  | s :: ss, d :: ds, ws, t => by
    obtain ⟨w1, w2, e, t1, t2⟩ := t
    simp [t2.len]
  | [], _ :: _, _, t => t.elim
  | _ :: _, [], _, t => t.elim
theorem Ths.all {T : So → D → List Str → Prop} : ∀ {ss : List So} {ds : List D} {ws : List Str}, Ths T ss ds ws → ∀ d ∈ ds, ∃ s ∈ ss, ∃ w, T s d w
  | [], [], ws, t => by simp
  | s :: ss, d :: ds, ws, t => by
    obtain ⟨w1, w2, e, t1, t2⟩ := t
    intro x hx
    rcases List.mem_cons.mp hx with rfl | hx
    · exact ⟨s, by simp, w1, t1⟩
    · obtain ⟨s', hs, w, t⟩ := t2.all x hx
      exact ⟨s', by simp [hs], w, t⟩
  | [], _ :: _, _, t => t.elim
  | _ :: _, [], _, t => t.elim
theorem ent_len {s : So} {x : Str} {ss : List So} (h : (x, ss) ∈ entL s) : ss.length ≤ 3 ∧ PyData.strOk x = true ∧ x.length ≤ 8 ∧ x.cps.size ≤ 8 ∧ 32 ∉ x.cps.toList := by
  cases s <;> simp only [entL, List.mem_cons, List.not_mem_nil, or_false, Prod.mk.injEq] at h
  · rcases h with h | h | h | h | h <;> (obtain ⟨rfl, rfl⟩ := h; exact ⟨by decide, by decide +kernel, by decide +kernel, by decide +kernel, by decide +kernel⟩)
  · rcases h with h | h | h <;> (obtain ⟨rfl, rfl⟩ := h; exact ⟨by decide, by decide +kernel, by decide +kernel, by decide +kernel, by decide +kernel⟩)
  · rcases h with h | h | h | h | h | h | h | h | h | h | h | h | h | h | h | h <;> (obtain ⟨rfl, rfl⟩ := h; exact ⟨by decide, by decide +kernel, by decide +kernel, by decide +kernel, by decide +kernel⟩)
theorem word_ok {z : Str} (h : wordB (.str z) = true) : PyData.strOk z = true ∧ z.length ≤ 8 ∧ 1 ≤ z.length ∧ 32 ∉ z.cps.toList := by
  simp only [wordB, Bool.and_eq_true, decide_eq_true_eq] at h
  have al : ∀ c ∈ z.cps.toList, c ∈ abc.cps.toList := fun c hc => by
    have q := List.all_eq_true.mp h.2.2 (.str ⟨#[c]⟩) (List.mem_map.mpr ⟨c, hc, rfl⟩)
    simp only [chB, sign_of, decide_eq_true_eq] at q
    exact q
  have ab : ∀ c ∈ abc.cps.toList, 97 ≤ c ∧ c ≤ 122 := by decide +kernel
  refine ⟨?_, h.2.1, h.1, fun hc => ?_⟩
  · unfold PyData.strOk
    rw [← Array.all_toList, List.all_eq_true]
    intro c hc
    have := ab c (al c hc)
    exact decide_eq_true (by omega)
  · have := ab 32 (al 32 hc); omega
end K91
end

section
set_option Elab.async false
set_option linter.all false
set_option maxRecDepth 100000
set_option maxHeartbeats 1000000
namespace K91
open PySem L2 G PyProof.Rows
theorem sh_i {L k : Nat} {i : Int} (h : i.natAbs ≤ 10 ^ 30) : Sh L k (.int i) := by
  simp only [Sh]
  exact Nat.lt_of_le_of_lt h (by decide +kernel)
theorem sh_t {L k : Nat} {l : List D} (hl : l.length ≤ L) (h : ∀ x ∈ l, Sh L k x) : Sh L (k + 1) (.tup l) := by simp only [Sh]; exact ⟨hl, h⟩
theorem Th.sh : ∀ {h : Nat} {s : So} {d : D} {ws : List Str}, Th h s d ws → Sh 61 h d
  | h, s, d, ws, t => by
    have lf : ∀ k, Lf s d ws → Sh 61 k d := fun k t => by
      rcases t with ⟨_, i, rfl, hi, _⟩ | ⟨_, z, rfl, hz, _⟩
      · exact sh_i hi
      · have := word_ok hz
        simp only [Sh]
        exact ⟨this.1, by omega⟩
    cases h with
    | zero => exact lf 0 t
    | succ h =>
      rcases t with t | ⟨e, l, w, e1, rfl, e3, e4, e5⟩ | ⟨x, ss, ds, w, e1, rfl, e3, e4⟩
      · exact lf _ t
      · exact sh_t (by omega) fun y hy => by
          obtain ⟨s', _, w', t'⟩ := e4.all y hy
          exact t'.sh
      · have := ent_len e1
        refine sh_t (by have := e3.len; simp; omega) fun y hy => ?_
        rcases List.mem_cons.mp hy with rfl | hy
        · simp only [Sh]
          exact ⟨this.2.1, by omega⟩
        · obtain ⟨s', _, w', t'⟩ := e3.all y hy
          exact t'.sh
/-! ## how long -/
@[simp] theorem bk_int (i : Int) : bk (.int i) = 0 := by simp [bk]
@[simp] theorem bk_tup (l : List D) : bk (.tup l) = bkL l := by simp [bk]
@[simp] theorem bk_str (x : Str) : bk (.str x) = x.cps.size := by simp [bk]
@[simp] theorem bk_nil : bkL [] = 0 := by simp [bkL]
@[simp] theorem bk_cons (x : D) (l : List D) : bkL (x :: l) = bk x + 1 + bkL l := by simp [bkL]
theorem nS_len {i : Int} (h : i.natAbs ≤ 10 ^ 30) : (nS i).length ≤ 32 := by
  have e := int_text_length_le10 (k := 31) (a := i) (by decide) (Nat.lt_of_le_of_lt h (by decide +kernel))
  unfold nS
  rw [PySem.ofString_length]; exact e
theorem nS_free (i : Int) : 32 ∉ (nS i).cps.toList := fun h => (intText_free_32 i).mp h
/-- what is known of each word -/
def WdOk (z : Str) : Prop := z.length ≤ 32 ∧ 32 ∉ z.cps.toList
theorem Ths.wd {T : So → D → List Str → Prop} (h : ∀ s d ws, T s d ws → ws.length ≤ bk d + 1 ∧ ∀ z ∈ ws, WdOk z) : ∀ {ss : List So} {ds : List D} {ws : List Str}, Ths T ss ds ws → ws.length ≤ bkL ds ∧ ∀ z ∈ ws, WdOk z
  | [], [], ws, t => by cases (show ws = [] from t); exact ⟨by simp, by simp⟩
  | s :: ss, d :: ds, ws, t => by
    obtain ⟨w1, w2, rfl, t1, t2⟩ := t
    obtain ⟨a1, a2⟩ := h _ _ _ t1
    obtain ⟨b1, b2⟩ := Ths.wd h t2
    refine ⟨by simp; omega, fun z hz => ?_⟩
    rcases List.mem_append.mp hz with hz | hz
    · exact a2 z hz
    · exact b2 z hz
  | [], _ :: _, _, t => t.elim
  | _ :: _, [], _, t => t.elim
theorem Th.wd : ∀ {h : Nat} {s : So} {d : D} {ws : List Str}, Th h s d ws → ws.length ≤ bk d + 1 ∧ ∀ z ∈ ws, WdOk z
  | h, s, d, ws, t => by
    have lf : Lf s d ws → ws.length ≤ bk d + 1 ∧ ∀ z ∈ ws, WdOk z := fun t => by
      rcases t with ⟨_, i, rfl, hi, rfl⟩ | ⟨_, z, rfl, hz, rfl⟩
      · exact ⟨by simp, fun z hz => by rw [List.mem_singleton.mp hz]; exact ⟨nS_len hi, nS_free i⟩⟩
      · have := word_ok hz
        exact ⟨by simp, fun y hy => by rw [List.mem_singleton.mp hy]; exact ⟨by omega, this.2.2.2⟩⟩
    cases h with
    | zero => exact lf t
    | succ h =>
      rcases t with t | ⟨e, l, w, e1, rfl, e3, e4, rfl⟩ | ⟨x, ss, ds, w, e1, rfl, e3, rfl⟩
      · exact lf t
      · obtain ⟨b1, b2⟩ := e4.wd fun _ _ _ t => t.wd
        refine ⟨by simp; omega, fun z hz => ?_⟩
        rcases List.mem_cons.mp hz with rfl | hz
        · exact ⟨nS_len (by omega), nS_free _⟩
        · exact b2 z hz
      · obtain ⟨b1, b2⟩ := e3.wd fun _ _ _ t => t.wd
        have := ent_len e1
        refine ⟨by simp; omega, fun z hz => ?_⟩
        rcases List.mem_cons.mp hz with rfl | hz
        · exact ⟨by omega, this.2.2.2.2⟩
        · exact b2 z hz
/-! ## words_for -/
theorem log_ok {i : Int} (h : i.natAbs ≤ 10 ^ 30) : i.natAbs.log2 < 1920 := by
  by_cases z : i.natAbs = 0
  · rw [z]; decide
  · exact Nat.lt_of_lt_of_le ((Nat.log2_lt z).mpr (Nat.lt_of_le_of_lt h (by decide +kernel : 10 ^ 30 < 2 ^ 120))) (by decide)
theorem str_int {i : Int} (h : i.natAbs ≤ 10 ^ 30) (st : Store) : dStr2 [.int i] st = some (.str (nS i)) := by
  simp only [dStr2, if_pos (log_ok h)]; rfl
def wfB (F : Fn → List D → M D) : Ev → M Fl := (sExpr (eLm gExtend (eVar 1) [(eCall (F .words_for) [(eVar 2)])]))
theorem g_wf (F : Fn → List D → M D) : g_words_for F = (sSeq (sIf (tVal (eUn (dIsT "int") (eVar 0))) (sRet (eLst [(eB dStr2 [(eVar 0)])])) sNop) (sSeq (sIf (tVal (eUn (dIsT "str") (eVar 0))) (sRet (eLst [(eVar 0)])) sNop) (sSeq (sAsg 1 (eNewL [])) (sSeq (sIf (tOr' (tVal (eOp dEq (eVar 0) (eTup []))) (tNot' (tVal (eUn (dIsT "str") (eOp dIdx (eVar 0) (eC (.int 0))))))) (sExpr (eLm gAppend (eVar 1) [(eB dStr2 [(eB dLen [(eVar 0)])])])) sNop) (sSeq (sFor (iSeq (eVar 0)) (tgName 2) (wfB F)) (sRet (eFree (eVar 1)))))))) := rfl
theorem wf_loop {T : So → D → List Str → Prop} {n : Nat} {d0 : D} {s0 : Store} (ih : ∀ s d ws, T s d ws → ws.length ≤ 1000000 → ∀ st, ∃ e, fns n .words_for [d] st = .ok (.lst (ws.map .str)) (st ++ e)) : ∀ {ss : List So} {ds : List D} {ws : List Str}, Ths T ss ds ws → ∀ (a : List D) (e : Store) (o : Option D), a.length + ws.length ≤ 1000000 →
    ∃ e' o', forGo (tgName 2) (wfB (fns n)) ds [some d0, some (.cell s0.length), o] (s0 ++ .lst a :: e) = .ok (.nx [some d0, some (.cell s0.length), o']) (s0 ++ .lst (a ++ ws.map .str) :: e')
  | [], [], ws, t, a, e, o, hl => by cases (show ws = [] from t); exact ⟨e, o, by simp [forGo]⟩
  | s :: ss, d :: ds, ws, t, a, e, o, hl => by
    obtain ⟨w1, w2, rfl, t1, t2⟩ := t
    simp only [List.length_append] at hl
    obtain ⟨e1, h1⟩ := ih _ _ _ t1 (by omega) (s0 ++ .lst a :: e)
    obtain ⟨e2, o2, h2⟩ := wf_loop (d0 := d0) (s0 := s0) ih t2 (a ++ w1.map .str) (e ++ e1) (some d) (by simp; omega)
    refine ⟨e2, o2, ?_⟩
    unfold forGo
    have ex := ext_mid (st := s0) (e := e ++ e1) (a := a) (w1.map .str) (by simp; omega)
    have step : wfB (fns n) [some d0, some (.cell s0.length), some d] (s0 ++ .lst a :: e) = .ok (.nx [some d0, some (.cell s0.length), some d]) (s0 ++ .lst (a ++ w1.map .str) :: (e ++ e1)) := by
      simp only [List.append_assoc, List.cons_append] at h1
      simp [wfB, chk_mid, h1, ex]
    simp only [tgName, List.set_cons_succ, List.set_cons_zero, bind_app, step, bnd_ok]
    simpa using h2
  | [], _ :: _, _, t, _, _, _, _ => t.elim
  | _ :: _, [], _, t, _, _, _, _ => t.elim
theorem Lf.words {s : So} {d : D} {ws : List Str} (t : Lf s d ws) (n : Nat) (st : Store) : fns (n + 1) .words_for [d] st = .ok (.lst (ws.map .str)) st := by
  rcases t with ⟨_, i, rfl, hi, rfl⟩ | ⟨_, z, rfl, hz, rfl⟩
  · have t1 : ∀ st, dIsT "int" (.int i) st = some (.bl true) := fun st => rfl
    exact runF_ret (by simp [g_wf, t1, str_int hi])
  · have t1 : ∀ st, dIsT "int" (.str z) st = some (.bl false) := fun st => rfl
    have t2 : ∀ st, dIsT "str" (.str z) st = some (.bl true) := fun st => rfl
    exact runF_ret (by simp [g_wf, t1, t2])
/-- a member of a row is no text -/
theorem Th.noStr {h : Nat} {s e : So} (he : el s = some e) {d : D} {ws : List Str} (t : Th h e d ws) : ∀ st, dIsT "str" d st = some (.bl false) := by
  have lf : Lf e d ws → ∀ st, dIsT "str" d st = some (.bl false) := fun t => by
    rcases t with ⟨_, i, rfl, hi, _⟩ | ⟨rfl, z, rfl, hz, _⟩
    · exact fun st => rfl
    · cases s <;> cases he
  cases h with
  | zero => exact lf t
  | succ h =>
    rcases t with t | ⟨e, l, w, e1, rfl, e3, e4, e5⟩ | ⟨x, ss, ds, w, e1, rfl, e3, e4⟩
    · exact lf t
    · exact fun st => rfl
    · exact fun st => rfl
theorem words_for_is : ∀ {h : Nat} {s : So} {d : D} {ws : List Str}, h ≤ 60 → Th h s d ws → ws.length ≤ 1000000 → ∀ (n : Nat) (st : Store), h + 1 ≤ n → ∃ e, fns n .words_for [d] st = .ok (.lst (ws.map .str)) (st ++ e)
  | 0, s, d, ws, hh, t, hl, n, st, hn => by
    obtain ⟨m, rfl⟩ : ∃ m, n = m + 1 := ⟨n - 1, by omega⟩
    exact ⟨[], by rw [List.append_nil]; exact Lf.words t m st⟩
  | h + 1, s, d, ws, hh, t, hl, n, st, hn => by
    obtain ⟨m, rfl⟩ : ∃ m, n = m + 1 := ⟨n - 1, by omega⟩
    have sh := Th.sh t
    rcases t with t | ⟨e, l, w, e1, rfl, e3, e4, rfl⟩ | ⟨x, ss, ds, w, e1, rfl, e3, rfl⟩
    · exact ⟨[], by rw [List.append_nil]; exact Lf.words t m st⟩
    · have t1 : ∀ st, dIsT "int" (.tup l) st = some (.bl false) := fun st => rfl
      have t2 : ∀ st, dIsT "str" (.tup l) st = some (.bl false) := fun st => rfl
      have ql := fun st => dEq_nilT (st := st) sh (by omega)
      simp only [List.length_cons] at hl
      obtain ⟨e', o', lp⟩ := wf_loop (n := m) (d0 := .tup l) (s0 := st) (fun s d ws t hl st => words_for_is (by omega) t hl m st (by omega)) e4 [.str (nS l.length)] [] none (by simp; omega)
      have ap := app_mid (st := st) (e := []) (a := []) (.str (nS l.length)) (by simp)
      refine ⟨.dead :: e', runF_ret ?_⟩
      have sl := str_int (i := (l.length : Int)) (by omega)
      have cm := chk_mid (st := st) (e := []) (a := [])
      cases l with
      | nil =>
        simp only [List.isEmpty_nil] at ql
        simp only [List.nil_append] at ap
        simp only [List.length_nil, Int.natCast_zero] at sl lp ap
        simp [g_wf, t1, t2, ql, cm, sl, ap, lp, free_mid]
      | cons y l =>
        simp only [List.isEmpty_cons] at ql
        simp only [List.length_cons, List.replicate_succ, Ths] at e4
        obtain ⟨w1, w2, ew, ty, _⟩ := e4
        have ns := Th.noStr e1 ty
        simp only [List.nil_append] at ap
        simp only [List.length_cons, Int.natCast_add, Int.natCast_one] at sl lp ap ⊢
        simp [g_wf, t1, t2, ql, cm, ns, sl, ap, lp, free_mid]
    · have t1 : ∀ st, dIsT "int" (.tup (.str x :: ds)) st = some (.bl false) := fun st => rfl
      have t2 : ∀ st, dIsT "str" (.tup (.str x :: ds)) st = some (.bl false) := fun st => rfl
      have t3 : ∀ st, dIsT "str" (.str x) st = some (.bl true) := fun st => rfl
      have ql := fun st => dEq_nilT (st := st) sh (by omega)
      simp only [List.isEmpty_cons] at ql
      simp only [List.length_cons] at hl
      have hx : fns m .words_for [.str x] (st ++ [.lst []]) = .ok (.lst [.str x]) (st ++ [.lst []]) := by
        obtain ⟨k, rfl⟩ : ∃ k, m = k + 1 := ⟨m - 1, by omega⟩
        have t4 : ∀ st, dIsT "int" (.str x) st = some (.bl false) := fun st => rfl
        exact runF_ret (by simp [g_wf, t4, t3])
      obtain ⟨e', o', lp⟩ := wf_loop (n := m) (d0 := .tup (.str x :: ds)) (s0 := st) (fun s d ws t hl st => words_for_is (by omega) t hl m st (by omega)) e3 [.str x] [] (some (.str x)) (by simp; omega)
      have ex := ext_mid (st := st) (e := []) (a := []) [.str x] (by simp)
      have cm := chk_mid (st := st) (e := []) (a := [])
      have first : wfB (fns m) [some (.tup (.str x :: ds)), some (.cell st.length), some (.str x)] (st ++ [.lst []]) = .ok (.nx [some (.tup (.str x :: ds)), some (.cell st.length), some (.str x)]) (st ++ [.lst [.str x]]) := by
        simp only [List.nil_append] at ex
        simp [wfB, cm, hx, ex]
      refine ⟨.dead :: e', runF_ret ?_⟩
      have lp2 : forGo (tgName 2) (wfB (fns m)) (.str x :: ds) [some (.tup (.str x :: ds)), some (.cell st.length), none] (st ++ [.lst []]) = .ok (.nx [some (.tup (.str x :: ds)), some (.cell st.length), o']) (st ++ .lst (.str x :: w.map .str) :: e') := by
        unfold forGo
        simp only [tgName, List.set_cons_succ, List.set_cons_zero, bind_app, first, bnd_ok]
        simpa using lp
      simp [g_wf, t1, t2, ql, t3, lp2, free_mid]
end K91
end

section
set_option Elab.async false
set_option linter.all false
set_option maxRecDepth 100000
set_option maxHeartbeats 1000000
namespace K91
open PySem L2 G
/-! ## the law's words -/
abbrev So.l (s : So) : D := .str ⟨#[s.ch]⟩
def So.isL : So → Bool
  | .num => true | .wrd => true | _ => false
def So.isS : So → Bool
  | .nums => true | .rule => true | .test => true | .plans => true | _ => false
theorem in_nw (s : So) (st : Store) : dInS s.l (.str "nw") st = some (.bl s.isL) := by cases s <;> kernel_rfl
theorem in_NR (s : So) (st : Store) : dInS s.l (.str "NRTP") st = some (.bl s.isS) := by cases s <;> kernel_rfl
theorem disp_el {s e : So} (h : el s = some e) : ((keyOf s.l).bind fun key => valD (List.zip [.inr "N", .inr "R", .inr "T", .inr "P"] [D.str "n", .str "c", .str "l", .str "p"]) key) = some e.l := by
  cases s <;> cases h <;> kernel_rfl
/-- the letters of some sorts -/
def Lts (ss : List So) : Str := ⟨(ss.map So.ch).toArray⟩
theorem chars_lts (ss : List So) : chars (Lts ss) = ss.map So.l := by
  unfold chars Lts
  simp
@[simp] theorem eDUpd_app {fa fb : Ev → M D} {env : Ev} {st : Store} : eDUpd fa fb env st = (fa env st).bnd fun o st => (chkDct o st).bnd fun _ st => (fb env st).bnd fun d st => updDct o d st := rfl
theorem at_mid1 {st e : Store} {x y : Cell} : (st ++ x :: y :: e)[st.length + 1]? = some y := by
  rw [List.getElem?_append_right (by omega)]; simp
theorem dctAt_of {st : Store} {i : Nat} {l : List (Key × D)} (h : st[i]? = some (.dct l)) : dctAt st (.cell i) = some (i, l) := by simp only [dctAt, h]
theorem chkD_mid {st e : Store} {l : List (Key × D)} : chkDct (.cell st.length) (st ++ .dct l :: e) = .ok () (st ++ .dct l :: e) := by
  unfold chkDct
  rw [dctAt_of at_mid]
theorem updD_mid {st e : Store} {l m : List (Key × D)} {k : Nat} (hk : (st ++ .dct l :: e)[st.length + (k + 1)]? = some (.dct m)) (hl : l.length + m.length ≤ 1000) : updDct (.cell st.length) (.cell (st.length + (k + 1))) (st ++ .dct l :: e) = .ok .non (st ++ .dct (mergeD l m) :: e) := by
  unfold updDct
  have e1 : dctAt (st ++ .dct l :: e) (.cell st.length) = some (st.length, l) := dctAt_of at_mid
  have e2 : dctAt (st ++ .dct l :: e) (.cell (st.length + (k + 1))) = some (st.length + (k + 1), m) := dctAt_of hk
  rw [e1, e2]
  simp only
  rw [if_pos ⟨by omega, hl⟩, set_mid]
def dP1 : List (Key × D) := [(.inr "list", .str "N"), (.inr "broken", .str "Nw"), (.inr "count", .str "nnn"), (.inr "row", .str "n"), (.inr "turn", .str "Rp"), (.inr "sieve", .str "Tp"), (.inr "upto", .str "Tp")]
def dP2 : List (Key × D) := [(.inr "cut", .str "np"), (.inr "left", .str "np"), (.inr "chain", .str "P"), (.inr "beside", .str "P"), (.inr "ahead", .str "p"), (.inr "windows", .str "nnp")]
def dP3 : List (Key × D) := [(.inr "marks", .str "np"), (.inr "spare", .str "pp"), (.inr "wanted", .str "nwp")]
def dCh : List (Key × D) := [(.inr "add", .str "n"), (.inr "times", .str "n"), (.inr "rest", .str "n"), (.inr "one", .str ""), (.inr "sum", .str "")]
def dLk : List (Key × D) := [(.inr "rest", .str "nn"), (.inr "below", .str "n"), (.inr "after", .str "RT")]
def soD : So → List (Key × D)
  | .chg => dCh | .pln => mergeD (mergeD dP1 dP2) dP3 | _ => dLk
theorem so_ent {s : So} {x : Str} {ss : List So} (h : (x, ss) ∈ entL s) : valD (soD s) (.inr x) = some (.str (Lts ss)) := by
  cases s <;> simp only [entL, List.mem_cons, List.not_mem_nil, or_false, Prod.mk.injEq] at h
  · rcases h with h | h | h | h | h <;> (obtain ⟨rfl, rfl⟩ := h; kernel_rfl)
  · rcases h with h | h | h <;> (obtain ⟨rfl, rfl⟩ := h; kernel_rfl)
  · rcases h with h | h | h | h | h | h | h | h | h | h | h | h | h | h | h | h <;> (obtain ⟨rfl, rfl⟩ := h; kernel_rfl)
theorem eq_p (s : So) (st : Store) : dEqS s.l (.str "p") st = some (.bl (decide (s = .pln))) := by cases s <;> kernel_rfl
theorem eq_c (s : So) (st : Store) : dEqS s.l (.str "c") st = some (.bl (decide (s = .chg))) := by cases s <;> kernel_rfl
def srT : Ev → M Fl := (sSeq (sIf (tVal (eOp dEqS (eVar 0) (eC (.str "p")))) (sRet (eVar 1)) sNop) (sSeq (sIf (tVal (eOp dEqS (eVar 0) (eC (.str "c")))) (sRet (eNewD [.inr "add", .inr "times", .inr "rest", .inr "one", .inr "sum"] [(eC (.str "n")), (eC (.str "n")), (eC (.str "n")), (eC (.str "")), (eC (.str ""))])) sNop) (sRet (eNewD [.inr "rest", .inr "below", .inr "after"] [(eC (.str "nn")), (eC (.str "n")), (eC (.str "RT"))]))))
def nd1 : Ev → M D := (eNewD [.inr "list", .inr "broken", .inr "count", .inr "row", .inr "turn", .inr "sieve", .inr "upto"] [(eC (.str "N")), (eC (.str "Nw")), (eC (.str "nnn")), (eC (.str "n")), (eC (.str "Rp")), (eC (.str "Tp")), (eC (.str "Tp"))])
def nd2 : Ev → M D := (eNewD [.inr "cut", .inr "left", .inr "chain", .inr "beside", .inr "ahead", .inr "windows"] [(eC (.str "np")), (eC (.str "np")), (eC (.str "P")), (eC (.str "P")), (eC (.str "p")), (eC (.str "nnp"))])
def nd3 : Ev → M D := (eNewD [.inr "marks", .inr "spare", .inr "wanted"] [(eC (.str "np")), (eC (.str "pp")), (eC (.str "nwp"))])
theorem g_sr (F : Fn → List D → M D) : g_l_sorts F = (sSeq (sAsg 1 nd1) (sSeq (sExpr (eDUpd (eVar 1) nd2)) (sSeq (sExpr (eDUpd (eVar 1) nd3)) srT))) := rfl
theorem sorts_is (s : So) (n : Nat) (st : Store) : ∃ c e, fns (n + 1) .l_sorts [s.l] st = .ok (.cell c) (st ++ e) ∧ (st ++ e)[c]? = some (.dct (soD s)) := by
  have a1 : ∀ env st, nd1 env st = .ok (.cell st.length) (st ++ [.dct dP1]) := fun _ _ => rfl
  have a2 : ∀ env st, nd2 env st = .ok (.cell st.length) (st ++ [.dct dP2]) := fun _ _ => rfl
  have a3 : ∀ env st, nd3 env st = .ok (.cell st.length) (st ++ [.dct dP3]) := fun _ _ => rfl
  have u1 : eDUpd (eVar 1) nd2 [some s.l, some (.cell st.length)] (st ++ [.dct dP1]) = .ok .non (st ++ [.dct (mergeD dP1 dP2), .dct dP2]) := by
    have h := updD_mid (st := st) (l := dP1) (m := dP2) (e := [.dct dP2]) (k := 0) at_mid1 (by decide)
    rw [eDUpd_app, eVar_at 1 (d := .cell st.length) (by rfl), bnd_ok, chkD_mid, bnd_ok, a2, bnd_ok]
    simp only [List.length_append, List.length_cons, List.length_nil, List.append_assoc, List.cons_append, List.nil_append] at h ⊢
    exact h
  have u2 : eDUpd (eVar 1) nd3 [some s.l, some (.cell st.length)] (st ++ [.dct (mergeD dP1 dP2), .dct dP2]) = .ok .non (st ++ [.dct (mergeD (mergeD dP1 dP2) dP3), .dct dP2, .dct dP3]) := by
    have h := updD_mid (st := st) (l := mergeD dP1 dP2) (m := dP3) (e := [.dct dP2, .dct dP3]) (k := 1) (by rw [List.getElem?_append_right (by omega)]; simp) (by decide +kernel)
    rw [eDUpd_app, eVar_at 1 (d := .cell st.length) (by rfl), bnd_ok, chkD_mid, bnd_ok, a3, bnd_ok]
    simp only [List.length_append, List.length_cons, List.length_nil, List.append_assoc, List.cons_append, List.nil_append] at h ⊢
    exact h
  have head : ∀ c st', srT [some s.l, some (.cell st.length)] (st ++ [.dct (mergeD (mergeD dP1 dP2) dP3), .dct dP2, .dct dP3]) = .ok (.ret (.cell c)) st' → fns (n + 1) .l_sorts [s.l] st = .ok (.cell c) st' := fun c st' h => by
    refine runF_ret ?_
    show g_l_sorts (fns n) [some s.l, none] st = _
    rw [g_sr, sSeq_app, sAsg_app, a1, sb_ok, bnd_ok, nxt_nx]
    show (sSeq _ _) [some s.l, some (.cell st.length)] (st ++ [.dct dP1]) = _
    rw [sSeq_app, sExpr_app, u1, sb_ok, bnd_ok, nxt_nx, sSeq_app, sExpr_app, u2, sb_ok, bnd_ok, nxt_nx, h]
  by_cases hp : s = .pln
  · subst hp
    have q := eq_p .pln
    refine ⟨st.length, [.dct (mergeD (mergeD dP1 dP2) dP3), .dct dP2, .dct dP3], head _ _ ?_, ?_⟩
    · simp only [So.l] at *
      simp [srT, q]
    · exact at_mid
  · by_cases hc : s = .chg
    · subst hc
      have q := eq_p .chg
      have q2 := eq_c .chg
      refine ⟨st.length + 3, [.dct (mergeD (mergeD dP1 dP2) dP3), .dct dP2, .dct dP3, .dct dCh], head _ _ ?_, ?_⟩
      · simp only [So.l] at *
        simp [srT, q, q2]
        rfl
      · rw [List.getElem?_append_right (by omega)]; simp [soD]
    · have q := eq_p s
      have q2 := eq_c s
      simp only [hp, hc, decide_false] at q q2
      refine ⟨st.length + 3, [.dct (mergeD (mergeD dP1 dP2) dP3), .dct dP2, .dct dP3, .dct dLk], head _ _ ?_, ?_⟩
      · simp only [So.l] at *
        simp [srT, q, q2]
        rfl
      · rw [List.getElem?_append_right (by omega)]
        cases s <;> first | exact absurd rfl hp | exact absurd rfl hc | simp [soD]
/-! ## the two loops -/
def lwA (F : Fn → List D → M D) : Ev → M Fl := (sExpr (eLm gExtend (eVar 2) [(eCall (F .l_words) [(eDispGet [.inr "N", .inr "R", .inr "T", .inr "P"] [(eC (.str "n")), (eC (.str "c")), (eC (.str "l")), (eC (.str "p"))] (eVar 0)), (eVar 3)])]))
def lwH (F : Fn → List D → M D) : Ev → M Fl := (sExpr (eLm gExtend (eVar 2) [(eCall (F .l_words) [(eVar 4), (eVar 3)])]))
def lwI (F : Fn → List D → M D) : Ev → M (List D) := (iZip (eOp dGet (eCall (F .l_sorts) [(eVar 0)]) (eOp dIdx (eVar 1) (eC (.int 0)))) (eSl (eVar 1) (pAt (eC (.int 1))) pNo))
theorem g_lw (F : Fn → List D → M D) : g_l_words F = (sSeq (sIf (tVal (eOp dInS (eVar 0) (eC (.str "nw")))) (sRet (eLst [(eB dStr2 [(eVar 1)])])) sNop) (sSeq (sIf (tVal (eOp dInS (eVar 0) (eC (.str "NRTP")))) (sSeq (sAsg 2 (eNewL [(eB dStr2 [(eB dLen [(eVar 1)])])])) (sSeq (sFor (iSeq (eVar 1)) (tgName 3) (lwA F)) (sRet (eFree (eVar 2))))) sNop) (sSeq (sAsg 2 (eNewL [(eOp dIdx (eVar 1) (eC (.int 0)))])) (sSeq (sFor (lwI F) (tgPair 4 3) (lwH F)) (sRet (eFree (eVar 2))))))) := rfl
section
variable {T : So → D → List Str → Prop} {n : Nat} {d0 : D} {s0 : Store} {s e0 : So}
theorem lwA_loop (he : el s = some e0) (ih : ∀ s d ws, T s d ws → ws.length ≤ 1000000 → ∀ st, ∃ e, fns n .l_words [s.l, d] st = .ok (.lst (ws.map .str)) (st ++ e)) : ∀ {ds : List D} {ws : List Str}, Ths T (List.replicate ds.length e0) ds ws → ∀ (a : List D) (e : Store) (o : Option D), a.length + ws.length ≤ 1000000 →
    ∃ e' o', forGo (tgName 3) (lwA (fns n)) ds [some s.l, some d0, some (.cell s0.length), o, none] (s0 ++ .lst a :: e) = .ok (.nx [some s.l, some d0, some (.cell s0.length), o', none]) (s0 ++ .lst (a ++ ws.map .str) :: e')
  | [], ws, t, a, e, o, hl => by cases (show ws = [] from t); exact ⟨e, o, by simp [forGo]⟩
  | d :: ds, ws, t, a, e, o, hl => by
    simp only [List.length_cons, List.replicate_succ, Ths] at t
    obtain ⟨w1, w2, rfl, t1, t2⟩ := t
    simp only [List.length_append] at hl
    obtain ⟨e1, h1⟩ := ih _ _ _ t1 (by omega) (s0 ++ .lst a :: e)
    obtain ⟨e2, o2, h2⟩ := lwA_loop he ih t2 (a ++ w1.map .str) (e ++ e1) (some d) (by simp; omega)
    refine ⟨e2, o2, ?_⟩
    unfold forGo
    have ex := ext_mid (st := s0) (e := e ++ e1) (a := a) (w1.map .str) (by simp; omega)
    have dg := disp_el he
    have step : lwA (fns n) [some s.l, some d0, some (.cell s0.length), some d, none] (s0 ++ .lst a :: e) = .ok (.nx [some s.l, some d0, some (.cell s0.length), some d, none]) (s0 ++ .lst (a ++ w1.map .str) :: (e ++ e1)) := by
      simp only [List.append_assoc, List.cons_append] at h1
      have c1 : eDispGet [.inr "N", .inr "R", .inr "T", .inr "P"] [(eC (.str "n")), (eC (.str "c")), (eC (.str "l")), (eC (.str "p"))] (eVar 0) [some s.l, some d0, some (.cell s0.length), some d, none] (s0 ++ .lst a :: e) = .ok e0.l (s0 ++ .lst a :: e) := by
        rw [eDispGet_app, aSeq_cons, eC_app, bnd_ok, aSeq_cons, eC_app, bnd_ok, aSeq_cons, eC_app, bnd_ok, aSeq_cons, eC_app, bnd_ok, aSeq_nil, bnd_ok, bnd_ok, bnd_ok, bnd_ok, bnd_ok, eVar_at 0 (d := s.l) (by rfl), bnd_ok, dg, lif_some]
      unfold lwA
      rw [sExpr_app, eLm_app, eVar_at 2 (d := .cell s0.length) (by rfl), bnd_ok, chk_mid, bnd_ok, aSeq_cons, eCall_app, aSeq_cons, c1, bnd_ok, aSeq_cons, eVar_at 3 (d := d) (by rfl), bnd_ok, aSeq_nil, bnd_ok, bnd_ok, bnd_ok, h1, bnd_ok, aSeq_nil, bnd_ok, bnd_ok, ex, sb_ok]
    simp only [tgName, List.set_cons_succ, List.set_cons_zero, bind_app, step, bnd_ok]
    simpa using h2
theorem lwH_loop {l0 : D} (ih : ∀ s d ws, T s d ws → ws.length ≤ 1000000 → ∀ st, ∃ e, fns n .l_words [s.l, d] st = .ok (.lst (ws.map .str)) (st ++ e)) : ∀ {ss : List So} {ds : List D} {ws : List Str}, Ths T ss ds ws → ∀ (a : List D) (e : Store) (o o4 : Option D), a.length + ws.length ≤ 1000000 →
    ∃ e' o' o4', forGo (tgPair 4 3) (lwH (fns n)) (((ss.map So.l).zip ds).map fun p => .tup [p.1, p.2]) [some l0, some d0, some (.cell s0.length), o, o4] (s0 ++ .lst a :: e) = .ok (.nx [some l0, some d0, some (.cell s0.length), o', o4']) (s0 ++ .lst (a ++ ws.map .str) :: e')
  | [], [], ws, t, a, e, o, o4, hl => by cases (show ws = [] from t); exact ⟨e, o, o4, by simp [forGo]⟩
  | s :: ss, d :: ds, ws, t, a, e, o, o4, hl => by
    obtain ⟨w1, w2, rfl, t1, t2⟩ := t
    simp only [List.length_append] at hl
    obtain ⟨e1, h1⟩ := ih _ _ _ t1 (by omega) (s0 ++ .lst a :: e)
    obtain ⟨e2, o2, o3, h2⟩ := lwH_loop (l0 := l0) ih t2 (a ++ w1.map .str) (e ++ e1) (some d) (some s.l) (by simp; omega)
    refine ⟨e2, o2, o3, ?_⟩
    simp only [List.map_cons, List.zip_cons_cons]
    unfold forGo
    have ex := ext_mid (st := s0) (e := e ++ e1) (a := a) (w1.map .str) (by simp; omega)
    have step : lwH (fns n) [some l0, some d0, some (.cell s0.length), some d, some s.l] (s0 ++ .lst a :: e) = .ok (.nx [some l0, some d0, some (.cell s0.length), some d, some s.l]) (s0 ++ .lst (a ++ w1.map .str) :: (e ++ e1)) := by
      simp only [List.append_assoc, List.cons_append] at h1
      unfold lwH
      rw [sExpr_app, eLm_app, eVar_at 2 (d := .cell s0.length) (by rfl), bnd_ok, chk_mid, bnd_ok, aSeq_cons, eCall_app, aSeq_cons, eVar_at 4 (d := s.l) (by rfl), bnd_ok, aSeq_cons, eVar_at 3 (d := d) (by rfl), bnd_ok, aSeq_nil, bnd_ok, bnd_ok, bnd_ok, h1, bnd_ok, aSeq_nil, bnd_ok, bnd_ok, ex, sb_ok]
    simp only [tgPair, List.set_cons_succ, List.set_cons_zero, bind_app, step, bnd_ok]
    simpa using h2
  | [], _ :: _, _, t, _, _, _, _, _ => t.elim
  | _ :: _, [], _, t, _, _, _, _, _ => t.elim
end
theorem cut_tail (x : D) (l : List D) : cut (x :: l) (some 1) none = l := by
  unfold cut
  have e : HT.sIx (x :: l).length 0 (some 1) = 1 := by
    simp only [HT.sIx, List.length_cons]
    rw [if_neg (by decide)]
    show min 1 (l.length + 1) = 1
    omega
  rw [e]
  show ((x :: l).drop 1).take ((l.length + 1) - 1) = l
  simp
theorem iZip_app {fa fb : Ev → M D} {env : Ev} {st : Store} : iZip fa fb env st = (fa env st).bnd fun d st => (fb env st).bnd fun e st => (asS d st).bnd fun z st => (itemsT e st).bnd fun l st => (if z.length ≤ sizeLine then (pure (zipD z l) : M (List D)) else M.stuck) st := rfl
theorem l_words_is : ∀ {h : Nat} {s : So} {d : D} {ws : List Str}, Th h s d ws → ws.length ≤ 1000000 → ∀ (n : Nat) (st : Store), h + 2 ≤ n → ∃ e, fns n .l_words [s.l, d] st = .ok (.lst (ws.map .str)) (st ++ e)
  | h, s, d, ws, t, hl, n, st, hn => by
    obtain ⟨m, rfl⟩ : ∃ m, n = m + 2 := ⟨n - 2, by omega⟩
    have i1 := in_nw s
    have i2 := in_NR s
    have lf : Lf s d ws → ∃ e, fns (m + 2) .l_words [s.l, d] st = .ok (.lst (ws.map .str)) (st ++ e) := fun t => by
      refine ⟨[], runF_ret ?_⟩
      rw [List.append_nil]
      show g_l_words (fns (m + 1)) [some s.l, some d, none, none, none] st = _
      rcases t with ⟨rfl, i, rfl, hi, rfl⟩ | ⟨rfl, z, rfl, hz, rfl⟩
      · simp only [So.isL, So.l] at *
        simp [g_lw, i1, str_int hi]
      · have sz : ∀ st, dStr2 [.str z] st = some (.str z) := fun st => rfl
        simp only [So.isL, So.l] at *
        simp [g_lw, i1, sz]
    cases h with
    | zero => exact lf t
    | succ h =>
      rcases t with t | ⟨e0, l, w, e1, rfl, e3, e4, rfl⟩ | ⟨x, ss, ds, w, e1, rfl, e3, rfl⟩
      · exact lf t
      · simp only [List.length_cons] at hl
        obtain ⟨e', o', lp⟩ := lwA_loop (n := m + 1) (d0 := .tup l) (s0 := st) e1 (fun s d ws t hl st => l_words_is t hl (m + 1) st (by omega)) e4 [.str (nS l.length)] [] none (by simp; omega)
        have n1 : s.isL = false := by cases s <;> first | rfl | cases e1
        have n2 : s.isS = true := by cases s <;> first | rfl | cases e1
        rw [n1] at i1
        rw [n2] at i2
        have sl := str_int (i := (l.length : Int)) (by omega)
        refine ⟨.dead :: e', runF_ret ?_⟩
        show g_l_words (fns (m + 1)) [some s.l, some (.tup l), none, none, none] st = _
        generalize s.l = sl0 at *
        simp [g_lw, i1, i2, sl, lp, free_mid]
      · simp only [List.length_cons] at hl
        have n1 : s.isL = false := by cases s <;> first | rfl | cases e1
        have n2 : s.isS = false := by cases s <;> first | rfl | cases e1
        rw [n1] at i1
        rw [n2] at i2
        obtain ⟨c, ec, hs, hc⟩ := sorts_is s m (st ++ [.lst [.str x]])
        have en := so_ent e1
        have gt : ∀ y, dGet (.cell c) (.str x) (st ++ .lst [.str x] :: ec) = some y ↔ valD (soD s) (.inr x) = some y := fun y => by
          have hc2 : (st ++ .lst [.str x] :: ec)[c]? = some (.dct (soD s)) := by simpa using hc
          simp only [dGet, keyOf, hc2]
        have gt := (gt _).mpr en
        have ln : (Lts ss).length ≤ sizeLine := by
          have := (ent_len e1).1
          show (ss.map So.ch).toArray.size ≤ _
          simp
          have : sizeLine = 16777216 := by decide
          omega
        have li : lwI (fns (m + 1)) [some s.l, some (.tup (.str x :: ds)), some (.cell st.length), none, none] (st ++ [.lst [.str x]]) = .ok (zipD (Lts ss) ds) (st ++ .lst [.str x] :: ec) := by
          unfold lwI
          rw [iZip_app, eOp_app, eCall_app, aSeq_cons, eVar_at 0 (d := s.l) (by rfl), bnd_ok, aSeq_nil, bnd_ok, bnd_ok, hs, bnd_ok]
          simp only [List.append_assoc, List.cons_append, List.nil_append]
          rw [eOp_app, eVar_at 1 (d := .tup (.str x :: ds)) (by rfl), bnd_ok, eC_app, bnd_ok, dIdx_t0, lif_some, bnd_ok, gt, lif_some, bnd_ok, eSl_app, eVar_at 1 (d := .tup (.str x :: ds)) (by rfl), bnd_ok, pAt_app, eC_app, bnd_ok, asI_int, bnd_ok, bnd_ok, pNo_app, bnd_ok]
          have sl : dSl (some 1) none (.tup (.str x :: ds)) (st ++ .lst [.str x] :: ec) = some (.tup ds) := by
            show some (D.tup (cut (.str x :: ds) (some 1) none)) = _
            rw [cut_tail]
          rw [sl, lif_some, bnd_ok, asS_str, bnd_ok]
          show (itemsT (.tup ds) _).bnd _ = _
          show (if (Lts ss).length ≤ sizeLine then (pure (zipD (Lts ss) ds) : M (List D)) else M.stuck) _ = _
          rw [if_pos ln]
          rfl
        obtain ⟨e', o', o4', lp⟩ := lwH_loop (n := m + 1) (d0 := .tup (.str x :: ds)) (s0 := st) (l0 := s.l) (fun s d ws t hl st => l_words_is t hl (m + 1) st (by omega)) e3 [.str x] ec none none (by simp; omega)
        have zd : zipD (Lts ss) ds = ((ss.map So.l).zip ds).map fun p => .tup [p.1, p.2] := by unfold zipD; rw [chars_lts]
        rw [← zd] at lp
        refine ⟨.dead :: e', runF_ret ?_⟩
        show g_l_words (fns (m + 1)) [some s.l, some (.tup (.str x :: ds)), none, none, none] st = _
        generalize s.l = sl0 at *
        simp [g_lw, i1, i2, li, lp, free_mid]
end K91
end

section
set_option Elab.async false
set_option linter.all false
set_option maxRecDepth 100000
set_option maxHeartbeats 1000000
namespace K91
open PySem L2 G PyProof.Rows TL
/-! ## numbers in figures -/
theorem nS_pos (n : Nat) : tl (nS (n : Int)) = numL n := tl_num n
theorem nS_neg {n : Nat} (h : 0 < n) : tl (nS (-(n : Int))) = 45 :: numL n := by
  obtain ⟨m, rfl⟩ : ∃ m, n = m + 1 := ⟨n - 1, by omega⟩
  have e : (-((m + 1 : Nat) : Int)) = Int.negSucc m := rfl
  unfold nS
  rw [e]
  show (Str.ofString (toString (Int.negSucc m))).cps.toList = _
  rw [signs_ofString]
  show (("-" ++ Nat.repr (m + 1) : String).toList).map Char.toNat = _
  rw [String.toList_append, List.map_append, Nat.toList_repr]
  rfl
theorem numL_head {n : Nat} (h : 0 < n) : ∃ c r, numL n = c :: r ∧ 49 ≤ c ∧ c ≤ 57 := by
  induction n using Nat.strongRecOn with
  | _ n ih =>
    by_cases hn : n < 10
    · exact ⟨48 + n, [], numL_lt hn, by omega, by omega⟩
    · obtain ⟨c, r, e, h1, h2⟩ := ih (n / 10) (by omega) (by omega)
      exact ⟨c, r ++ [48 + n % 10], by rw [numL_step (by omega), e]; rfl, h1, h2⟩
theorem int_back {i : Int} (h : i.natAbs ≤ 10 ^ 30) : PySem.intText? (nS i) = some i := by
  have ln := nS_len h
  by_cases hi : 0 ≤ i
  · obtain ⟨n, rfl⟩ := Int.eq_ofNat_of_zero_le hi
    have e : (numL n).length ≤ 4300 := by
      have : (nS (n : Int)).length = (numL n).length := by rw [len_tl, nS_pos]
      omega
    exact int_num e
  · obtain ⟨n, rfl, hn⟩ : ∃ n : Nat, i = -(n : Int) ∧ 0 < n := ⟨i.natAbs, by omega, by omega⟩
    have e := intText_neg (x := nS (-(n : Int))) (cs := numL n) (nS_neg hn) (numL_digits n) (numL_ne n) (by omega)
    rw [numL_val] at e
    exact e
theorem sline : sizeLine = 16777216 := by decide
def fgC : Ev → M D := (eComp [1] (iChars (eVar 0)) (tgName 1) (fun _ => pure true) (eOp dInS (eVar 1) (eC (.str "0123456789"))))
theorem g_fg (F : Fn → List D → M D) : g_is_figures F = (sSeq (sIf (tVal (eOp dEqS (eSl (eVar 0) pNo (pAt (eC (.int 1)))) (eC (.str "-")))) (sRet (eAnd (eOp dNeS (eVar 0) (eC (.str "-0"))) (eAnd (eOp dNeS (eSl (eVar 0) (pAt (eC (.int 1))) (pAt (eC (.int 2)))) (eC (.str "-"))) (eCall (F .is_figures) [(eSl (eVar 0) (pAt (eC (.int 1))) pNo)])))) sNop) (sRet (eAnd (eOp dNeS (eVar 0) (eC (.str ""))) (eAnd (eB dAll [fgC]) (eOr (eOp dNeS (eOp dIdx (eVar 0) (eC (.int 0))) (eC (.str "0"))) (eOp dEqS (eVar 0) (eC (.str "0")))))))) := rfl
theorem tl_cut {z : Str} {cs : List Nat} (ht : tl z = cs) (lo hi : Option Int) : tl (cutS z lo hi) = (cs.drop (HT.sIx cs.length 0 lo)).take (HT.sIx cs.length cs.length hi - HT.sIx cs.length 0 lo) := by
  have e : z.length = cs.length := by rw [len_tl, ht]
  have ht' : z.cps.toList = cs := ht
  show (((z.cps.toList.drop (HT.sIx z.length 0 lo)).take (HT.sIx z.length z.length hi - HT.sIx z.length 0 lo)).toArray).toList = _
  rw [List.toList_toArray, ht', e]
theorem six (n d k : Nat) : HT.sIx n d (some (k : Int)) = min k n := HT.sIx_nat n d k
theorem cut_01 {z : Str} {c : Nat} {r : List Nat} (ht : tl z = c :: r) : cutS z none (some 1) = ⟨#[c]⟩ := by
  refine ext_tl ?_
  have e := six (c :: r).length (c :: r).length 1
  simp only [Int.natCast_one] at e
  rw [tl_cut ht, e, HT.sIx_none]
  show ((c :: r).drop 0).take (min 1 (r.length + 1) - 0) = [c]
  rw [show min 1 (r.length + 1) - 0 = 1 by omega]
  rfl
theorem cut_1n {z : Str} {c : Nat} {r : List Nat} (ht : tl z = c :: r) : tl (cutS z (some 1) none) = r := by
  have e := six (c :: r).length 0 1
  simp only [Int.natCast_one] at e
  rw [tl_cut ht, e, HT.sIx_none]
  show ((c :: r).drop (min 1 (r.length + 1))).take ((r.length + 1) - min 1 (r.length + 1)) = r
  rw [show min 1 (r.length + 1) = 1 by omega]
  simp
theorem cut_12 {z : Str} {c d : Nat} {r : List Nat} (ht : tl z = c :: d :: r) : cutS z (some 1) (some 2) = ⟨#[d]⟩ := by
  refine ext_tl ?_
  have e := six (c :: d :: r).length 0 1
  have e2 := six (c :: d :: r).length (c :: d :: r).length 2
  simp only [Int.natCast_one] at e
  have e2 : HT.sIx (c :: d :: r).length (c :: d :: r).length (some 2) = min 2 (c :: d :: r).length := e2
  rw [tl_cut ht, e, e2]
  show ((c :: d :: r).drop (min 1 (r.length + 1 + 1))).take (min 2 (r.length + 1 + 1) - min 1 (r.length + 1 + 1)) = [d]
  rw [show min 1 (r.length + 1 + 1) = 1 by omega, show min 2 (r.length + 1 + 1) = 2 by omega]
  rfl
theorem tl_lit1 (c : Nat) : tl (⟨#[c]⟩ : Str) = [c] := rfl
theorem fg_pos (n m : Nat) (st : Store) (hl : (numL n).length ≤ 60) : fns (m + 1) .is_figures [.str (nS (n : Int))] st = .ok (.bl true) st := by
  have ht := nS_pos n
  have hz : (nS (n : Int)).length ≤ sizeLine := by rw [len_tl, ht, sline]; omega
  generalize nS (n : Int) = z at *
  obtain ⟨c, r, e⟩ : ∃ c r, numL n = c :: r := by
    cases q : numL n with
    | nil => exact absurd q (numL_ne n)
    | cons c r => exact ⟨c, r, rfl⟩
  have hd := numL_digits n
  rw [e] at hd ht
  have hc := hd c (by simp)
  have s1 : ∀ st, dSl none (some 1) (.str z) st = some (.str ⟨#[c]⟩) := fun st => by
    simp only [dSl, if_pos hz, cut_01 ht]
  have q1 : ∀ st, dEqS (.str ⟨#[c]⟩) (.str "-") st = some (.bl false) := fun st => by
    have : ((⟨#[c]⟩ : Str) == ("-" : Str)) = false := by
      simp only [beq_eq_false_iff_ne, ne_eq]
      intro h
      have := congrArg tl h
      have e2 : tl ("-" : Str) = [45] := by decide +kernel
      rw [tl_lit1, e2] at this
      cases this
      omega
    simp only [dEqS, this]
  have ne : ∀ st, dNeS (.str z) (.str "") st = some (.bl true) := fun st => by
    have : (z == ("" : Str)) = false := by
      simp only [beq_eq_false_iff_ne, ne_eq]
      intro h
      have := congrArg tl h
      have e2 : tl ("" : Str) = [] := by decide +kernel
      rw [ht, e2] at this
      cases this
    simp only [dNeS, this, Bool.not_false]
  have cm : fgC [some (.str z), none] st = .ok (.lst ((chars z).map fun _ => .bl true)) st := by
    refine eComp_of (l := chars z) (st1 := st) (iChars_at (by simp) hz) ?_
    rw [compGo_map fun d => .bl true]
    · simp
    · intro d hd'
      obtain ⟨x, hx, rfl⟩ := List.mem_map.mp hd'
      have hx : x ∈ tl z := hx
      rw [ht] at hx
      have hx := hd x hx
      have mem : x ∈ ("0123456789" : Str).cps.toList := by
        have e2 : ("0123456789" : Str).cps.toList = [48, 49, 50, 51, 52, 53, 54, 55, 56, 57] := by decide +kernel
        rw [e2]
        simp only [List.mem_cons, List.not_mem_nil, or_false]
        omega
      have i1 : ∀ st, dInS (.str ⟨#[x]⟩) (.str "0123456789") st = some (.bl true) := fun st => by
        simp only [dInS, sign_of, decide_eq_true mem]
      simp [evWipe, i1]
  have al : ∀ st, dAll [.lst ((chars z).map fun _ => .bl true)] st = some (.bl true) := fun st => by
    have b := bools_map (chars z) fun _ => true
    simp only [dAll, b, Option.map_some]
    simp
  have ix : ∀ st, dIdx (.str z) (.int 0) st = some (.str ⟨#[c]⟩) := fun st => by
    simp only [dIdx, if_pos hz]
    have : atI z.cps.toList 0 = some c := by
      have ht : z.cps.toList = c :: r := ht
      rw [ht]
      unfold atI ixN
      simp
    rw [this]; rfl
  refine runF_ret ?_
  by_cases h0 : c = 48
  · have z0 : z = "0" := by
      refine ext_tl ?_
      have e2 : tl ("0" : Str) = [48] := by decide +kernel
      rw [e2, ht]
      by_cases hn : n = 0
      · subst hn
        rw [numL_lt (by decide)] at e
        cases e; rfl
      · obtain ⟨c', r', e', h1, _⟩ := numL_head (n := n) (by omega)
        rw [e'] at e
        cases e
        omega
    have n0 : ∀ st, dNeS (.str ⟨#[c]⟩) (.str "0") st = some (.bl false) := fun st => by
      subst h0
      kernel_rfl
    have e0 : ∀ st, dEqS (.str z) (.str "0") st = some (.bl true) := fun st => by
      rw [z0]
      kernel_rfl
    simp [g_fg, s1, q1, ne, cm, al, ix, n0, e0]
  · have n0 : ∀ st, dNeS (.str ⟨#[c]⟩) (.str "0") st = some (.bl true) := fun st => by
      have : ((⟨#[c]⟩ : Str) == ("0" : Str)) = false := by
        simp only [beq_eq_false_iff_ne, ne_eq]
        intro h
        have := congrArg tl h
        have e2 : tl ("0" : Str) = [48] := by decide +kernel
        rw [tl_lit1, e2] at this
        cases this
        exact h0 rfl
      simp only [dNeS, this, Bool.not_false]
    simp [g_fg, s1, q1, ne, cm, al, ix, n0]
theorem fg_is {i : Int} (h : i.natAbs ≤ 10 ^ 30) (m : Nat) (st : Store) : fns (m + 2) .is_figures [.str (nS i)] st = .ok (.bl true) st := by
  have ln := nS_len h
  by_cases hi : 0 ≤ i
  · obtain ⟨n, rfl⟩ := Int.eq_ofNat_of_zero_le hi
    exact fg_pos n (m + 1) st (by
      have : (nS (n : Int)).length = (numL n).length := by rw [len_tl, nS_pos]
      have ln : (nS (n : Int)).length ≤ 32 := ln
      omega)
  · obtain ⟨n, rfl, hn⟩ : ∃ n : Nat, i = -(n : Int) ∧ 0 < n := ⟨i.natAbs, by omega, by omega⟩
    have ht := nS_neg hn
    have hl : (numL n).length ≤ 60 := by
      have : (nS (-(n : Int))).length = (numL n).length + 1 := by rw [len_tl, ht]; rfl
      omega
    have hz : (nS (-(n : Int))).length ≤ sizeLine := by rw [sline]; omega
    obtain ⟨c, r, e, h1, h2⟩ := numL_head hn
    have rest := fg_pos n m st hl
    have back : cutS (nS (-(n : Int))) (some 1) none = nS (n : Int) := ext_tl (by rw [cut_1n ht, nS_pos])
    generalize nS (-(n : Int)) = z at *
    rw [e] at ht
    have s1 : ∀ st, dSl none (some 1) (.str z) st = some (.str ⟨#[45]⟩) := fun st => by simp only [dSl, if_pos hz, cut_01 ht]
    have s2 : ∀ st, dSl (some 1) (some 2) (.str z) st = some (.str ⟨#[c]⟩) := fun st => by simp only [dSl, if_pos hz, cut_12 ht]
    have s3 : ∀ st, dSl (some 1) none (.str z) st = some (.str (nS (n : Int))) := fun st => by simp only [dSl, if_pos hz, back]
    have q1 : ∀ st, dEqS (.str ⟨#[45]⟩) (.str "-") st = some (.bl true) := fun st => by kernel_rfl
    have q2 : ∀ st, dNeS (.str z) (.str "-0") st = some (.bl true) := fun st => by
      have : (z == ("-0" : Str)) = false := by
        simp only [beq_eq_false_iff_ne, ne_eq]
        intro h
        have := congrArg tl h
        have e2 : tl ("-0" : Str) = [45, 48] := by decide +kernel
        rw [ht, e2] at this
        cases this
        omega
      simp only [dNeS, this, Bool.not_false]
    have q3 : ∀ st, dNeS (.str ⟨#[c]⟩) (.str "-") st = some (.bl true) := fun st => by
      have : ((⟨#[c]⟩ : Str) == ("-" : Str)) = false := by
        simp only [beq_eq_false_iff_ne, ne_eq]
        intro h
        have := congrArg tl h
        have e2 : tl ("-" : Str) = [45] := by decide +kernel
        rw [tl_lit1, e2] at this
        cases this
        omega
      simp only [dNeS, this, Bool.not_false]
    exact runF_ret (by simp [g_fg, s1, q1, q2, s2, q3, s3, rest])
theorem int_is {i : Int} (h : i.natAbs ≤ 10 ^ 30) (st : Store) : dInt [.str (nS i)] st = some (.int i) := by
  have ln := nS_len h
  simp only [dInt]
  rw [if_pos (by omega), int_back h]
  rfl
end K91
end

section
set_option Elab.async false
set_option linter.all false
set_option maxRecDepth 100000
set_option maxHeartbeats 1000000
namespace K91
open PySem L2 G
/-! ## the words that are read -/
abbrev wFs (W : List Str) (p : Int) : List (Str × D) := [("all_words", .lst (W.map .str)), ("many_read", .int p)]
abbrev insW (W : List Str) (p : Int) : Cell := .ins "Words" (wFs W p)
section
variable {env : Ev} {st : Store} {fo fa fb : Ev → M D} {fs : List (Ev → M D)} {c : Nat} {W : List Str} {p : Int}
@[simp] theorem eMeth_app {C m : Str} {F : List D → M D} : eMeth C m F fo fs env st = (fo env st).bnd fun o st => (chkIns C m o st).bnd fun _ st => (aSeq fs env st).bnd fun ds st => F (o :: ds) st := rfl
@[simp] theorem sAddF_app {C f : Str} : sAddF C f fa fb env st = (fa env st).sb env fun o st => (lif (dFld C f o st) st).sb env fun x st => (fb env st).sb env fun y st => (lif (dAddI x y st) st).sb env fun z st => (setFld C f o z st).sb env fun _ st => .ok (.nx env) st := by
  show stx (fa env) env _ st = _
  simp only [stx_app, lift_app]
  rfl
@[simp] theorem sSetF_app {C f : Str} : sSetF C f fa fb env st = (fb env st).sb env fun d st => (fa env st).sb env fun o st => (setFld C f o d st).sb env fun _ st => .ok (.nx env) st := rfl
theorem insAt_of (h : st[c]? = some (insW W p)) : insAt st "Words" (.cell c) = some (c, wFs W p) := by
  simp only [insAt, h, if_true]
theorem chk_of {m : Str} (h : st[c]? = some (insW W p)) (hm : (wFs W p).lookup m = none) : chkIns "Words" m (.cell c) st = .ok () st := by
  unfold chkIns
  rw [insAt_of h]
  simp only [hm, if_true]
theorem fld_w (h : st[c]? = some (insW W p)) : dFld "Words" "all_words" (.cell c) st = some (.lst (W.map .str)) := by
  unfold dFld
  rw [insAt_of h]
  rfl
theorem fld_m (h : st[c]? = some (insW W p)) : dFld "Words" "many_read" (.cell c) st = some (.int p) := by
  unfold dFld
  rw [insAt_of h]
  rfl
theorem put_m (h : st[c]? = some (insW W p)) (q : Int) : setFld "Words" "many_read" (.cell c) (.int q) st = .ok () (st.set c (insW W q)) := by
  unfold setFld
  rw [insAt_of h]
  rfl
theorem lk_is_read : (wFs W p).lookup ("is_read" : Str) = none := by kernel_rfl
theorem lk_next_word : (wFs W p).lookup ("next_word" : Str) = none := by kernel_rfl
theorem lk_next_number : (wFs W p).lookup ("next_number" : Str) = none := by kernel_rfl
theorem lk_headed : (wFs W p).lookup ("headed" : Str) = none := by kernel_rfl
theorem lk_several : (wFs W p).lookup ("several" : Str) = none := by kernel_rfl
theorem lk_thing_of : (wFs W p).lookup ("thing_of" : Str) = none := by kernel_rfl
end
section
variable {st : Store} {c p n : Nat} {W : List Str}
theorem is_read_is (h : st[c]? = some (insW W p)) : fns (n + 1) .Words_is_read [.cell c] st = .ok (.bl (decide (p = W.length))) st := by
  have f1 := fld_w h
  have f2 := fld_m h
  refine runF_ret ?_
  have e : decide ((p : Int) = (W.length : Int)) = decide (p = W.length) := by
    by_cases q : p = W.length
    · simp [q]
    · have : ¬ ((p : Int) = (W.length : Int)) := by omega
      simp [q, this]
  simp [g_Words_is_read, f1, f2, e]
theorem next_word_is (h : st[c]? = some (insW W p)) {z : Str} (hz : W[p]? = some z) : fns (n + 2) .Words_next_word [.cell c] st = .ok (.str z) (st.set c (insW W (p + 1 : Nat))) := by
  have hl : c < st.length := (List.getElem?_eq_some_iff.mp h).1
  have hp : p < W.length := (List.getElem?_eq_some_iff.mp hz).1
  have ck := chk_of h lk_is_read
  have ir := is_read_is (n := n) h
  have nr : ¬ p = W.length := by omega
  simp only [nr, decide_false] at ir
  have fm := fld_m h
  have pm := put_m h ((p : Int) + 1)
  have h2 : (st.set c (insW W ((p : Int) + 1)))[c]? = some (insW W ((p : Int) + 1)) := by rw [List.getElem?_set_self hl]
  have f1 := fld_w h2
  have f2 := fld_m h2
  have ix : dIdx (.lst (W.map .str)) (.int (p : Nat)) (st.set c (insW W ((p : Int) + 1))) = some (.str z) := dIdx_ln (by rw [List.getElem?_map, hz]; rfl)
  have e1 : (p : Int) + 1 - 1 = p := by omega
  refine runF_ret ?_
  simp [g_Words_next_word, ck, ir, fm, dAddI, pm, f1, f2, e1, ix]
theorem next_number_is (h : st[c]? = some (insW W p)) {i : Int} (hi : i.natAbs ≤ 10 ^ 30) (hz : W[p]? = some (nS i)) : fns (n + 3) .Words_next_number [.cell c] st = .ok (.int i) (st.set c (insW W (p + 1 : Nat))) := by
  have ck := chk_of h lk_next_word
  have nw := next_word_is (n := n) h hz
  have fg := fun st => fg_is (m := n) hi st
  have ii := int_is hi
  refine runF_ret ?_
  simp only [insW, wFs] at *
  simp [g_Words_next_number, ck, nw, fg, ii]
end
/-! ## a thing is read -/
def tabN : So → Str
  | .chg => "CHANGES" | .lok => "LOOKS" | _ => "PLANS"
theorem hd_con {s : So} {x : Str} {ss : List So} (h : (x, ss) ∈ entL s) (st : Store) : dGetK tabs (.con "HEADS") (.str s.nm) st = some (.con (tabN s)) ∧ dNotInK tabs (.str x) (.con (tabN s)) st = some (.bl false) ∧ dGetK tabs (.con (tabN s)) (.str x) st = some (.tup (ss.map fun s => .str s.nm)) ∧ dInK tabs (.str s.nm) (.con "SEVERAL") st = some (.bl false) ∧ dEqS (.str s.nm) (.str "number") st = some (.bl false) ∧ dEqS (.str s.nm) (.str "word") st = some (.bl false) := by
  cases s <;> simp only [entL, List.mem_cons, List.not_mem_nil, or_false, Prod.mk.injEq] at h
  · refine ⟨by kernel_rfl, ?_, ?_, by kernel_rfl, by kernel_rfl, by kernel_rfl⟩ <;> rcases h with h | h | h | h | h <;> (obtain ⟨rfl, rfl⟩ := h; kernel_rfl)
  · refine ⟨by kernel_rfl, ?_, ?_, by kernel_rfl, by kernel_rfl, by kernel_rfl⟩ <;> rcases h with h | h | h <;> (obtain ⟨rfl, rfl⟩ := h; kernel_rfl)
  · refine ⟨by kernel_rfl, ?_, ?_, by kernel_rfl, by kernel_rfl, by kernel_rfl⟩ <;> rcases h with h | h | h | h | h | h | h | h | h | h | h | h | h | h | h | h <;> (obtain ⟨rfl, rfl⟩ := h; kernel_rfl)
theorem sv_con {s e : So} (h : el s = some e) (st : Store) : dInK tabs (.str s.nm) (.con "SEVERAL") st = some (.bl true) ∧ dGetK tabs (.con "SEVERAL") (.str s.nm) st = some (.str e.nm) ∧ dEqS (.str s.nm) (.str "number") st = some (.bl false) ∧ dEqS (.str s.nm) (.str "word") st = some (.bl false) := by
  cases s <;> cases h <;> exact ⟨by kernel_rfl, by kernel_rfl, by kernel_rfl, by kernel_rfl⟩
/-- a part of the words -/
def At (W : List Str) (p : Nat) (ws : List Str) : Prop := ∀ k z, ws[k]? = some z → W[p + k]? = some z
theorem At.tail {W : List Str} {p : Nat} {x : Str} {ws : List Str} (h : At W p (x :: ws)) : At W (p + 1) ws := fun k z hz => by
  have := h (k + 1) z (by simpa using hz)
  rw [← this]
  congr 1
  omega
theorem At.left {W : List Str} {p : Nat} {u v : List Str} (h : At W p (u ++ v)) : At W p u := fun k z hz => h k z (by
  have := (List.getElem?_eq_some_iff.mp hz).1
  rw [List.getElem?_append_left this]; exact hz)
theorem At.right {W : List Str} {p : Nat} {u v : List Str} (h : At W p (u ++ v)) : At W (p + u.length) v := fun k z hz => by
  have := h (u.length + k) z (by rw [List.getElem?_append_right (by omega)]; simpa using hz)
  rw [← this]
  congr 1
  omega
def thM (F : Fn → List D → M D) (a b : Ev → M D) : Ev → M D := (eMeth "Words" "thing_of" (F .Words_thing_of) (eVar 0) [a, b])
section
variable {T : So → D → List Str → Prop} {n : Nat} {W : List Str} {c : Nat}
/-- what reading a thing does -/
def Reads1 (n : Nat) (W : List Str) (c : Nat) (dp : Int) (s : So) (d : D) (ws : List Str) : Prop := ∀ (p : Nat) (st : Store), At W p ws → st[c]? = some (insW W p) → fns n .Words_thing_of [.cell c, .str s.nm, .int dp] st = .ok d (st.set c (insW W (p + ws.length : Nat)))
theorem set_same {st : Store} {x y : Cell} : (st.set c x).set c y = st.set c y := by simp
theorem rd_hd {dp : Int} {o1 o3 : D} (ih : ∀ s d ws, T s d ws → Reads1 n W c (dp + 1) s d ws) : ∀ {ss : List So} {ds : List D} {ws : List Str}, Ths T ss ds ws → ∀ (acc : List D) (p : Nat) (st : Store) (o : Option D), At W p ws → st[c]? = some (insW W p) →
    compGo (tgName 4) (fun _ => pure true) (thM (fns n) (eVar 4) (eOp dAdd (eVar 2) (eC (.int 1)))) [some (.cell c), some o1, some (.int dp), some o3, o] (ss.map fun s => .str s.nm) acc st = .ok (acc ++ ds) (st.set c (insW W (p + ws.length : Nat)))
  | [], [], ws, t, acc, p, st, o, ha, h => by
    cases (show ws = [] from t)
    have hl := (List.getElem?_eq_some_iff.mp h)
    simp only [List.map_nil, compGo, List.append_nil, List.length_nil, Nat.add_zero]
    have : st.set c (insW W (p : Nat)) = st := by
      obtain ⟨h1, h2⟩ := hl
      rw [← h2]
      exact List.set_getElem_self h1
    rw [this]
    rfl
  | s :: ss, d :: ds, ws, t, acc, p, st, o, ha, h => by
    obtain ⟨w1, w2, rfl, t1, t2⟩ := t
    have hl : c < st.length := (List.getElem?_eq_some_iff.mp h).1
    have h1 := ih _ _ _ t1 p st ha.left h
    have h2' : (st.set c (insW W (p + w1.length : Nat)))[c]? = some (insW W (p + w1.length : Nat)) := by rw [List.getElem?_set_self hl]
    have h2 := rd_hd (dp := dp) (o1 := o1) (o3 := o3) ih t2 (acc ++ [d]) (p + w1.length) _ o ha.right h2'
    have ck := chk_of (p := p) h lk_thing_of
    have e1 : thM (fns n) (eVar 4) (eOp dAdd (eVar 2) (eC (.int 1))) [some (.cell c), some o1, some (.int dp), some o3, some (.str s.nm)] st = .ok d (st.set c (insW W (p + w1.length : Nat))) := by
      unfold thM
      rw [eMeth_app, eVar_at 0 (d := .cell c) (by rfl), bnd_ok, ck, bnd_ok, aSeq_cons, eVar_at 4 (d := .str s.nm) (by rfl), bnd_ok, aSeq_cons, eOp_app, eVar_at 2 (d := .int dp) (by rfl), bnd_ok, eC_app, bnd_ok, dAdd_int, lif_some, bnd_ok, aSeq_nil, bnd_ok, bnd_ok, bnd_ok, h1]
    rw [List.map_cons]
    unfold compGo
    simp only [tgName, List.set_cons_succ, List.set_cons_zero, bind_app, noErr_app, pure_app', noe_ok, bnd_ok, if_true, e1]
    rw [h2, set_same]
    simp only [List.append_assoc, List.singleton_append, List.length_append, Nat.add_assoc]
  | [], _ :: _, _, t, _, _, _, _, _, _ => t.elim
  | _ :: _, [], _, t, _, _, _, _, _, _ => t.elim
theorem rd_sv {dp : Int} {e0 : So} {o3 : D} (ih : ∀ s d ws, T s d ws → Reads1 n W c (dp + 1) s d ws) : ∀ {ds : List D} {ws : List Str}, Ths T (List.replicate ds.length e0) ds ws → ∀ (r : List D) (acc : List D) (p : Nat) (st : Store) (o : Option D), r.length = ds.length → At W p ws → st[c]? = some (insW W p) →
    compGo (tgName 4) (fun _ => pure true) (thM (fns n) (eVar 1) (eOp dAdd (eVar 2) (eC (.int 1)))) [some (.cell c), some (.str e0.nm), some (.int dp), some o3, o] r acc st = .ok (acc ++ ds) (st.set c (insW W (p + ws.length : Nat)))
  | [], ws, t, r, acc, p, st, o, hr, ha, h => by
    cases (show ws = [] from t)
    cases (List.length_eq_zero_iff.mp hr)
    have hl := (List.getElem?_eq_some_iff.mp h)
    simp only [compGo, List.append_nil, List.length_nil, Nat.add_zero]
    have : st.set c (insW W (p : Nat)) = st := by
      obtain ⟨h1, h2⟩ := hl
      rw [← h2]
      exact List.set_getElem_self h1
    rw [this]
    rfl
  | d :: ds, ws, t, r, acc, p, st, o, hr, ha, h => by
    simp only [List.length_cons, List.replicate_succ, Ths] at t
    obtain ⟨w1, w2, rfl, t1, t2⟩ := t
    cases r with
    | nil => cases hr
    | cons x r =>
      have hl : c < st.length := (List.getElem?_eq_some_iff.mp h).1
      have h1 := ih _ _ _ t1 p st ha.left h
      have h2' : (st.set c (insW W (p + w1.length : Nat)))[c]? = some (insW W (p + w1.length : Nat)) := by rw [List.getElem?_set_self hl]
      have h2 := rd_sv (dp := dp) (e0 := e0) (o3 := o3) ih t2 r (acc ++ [d]) (p + w1.length) _ o (by simpa using hr) ha.right h2'
      have ck := chk_of (p := p) h lk_thing_of
      have e1 : thM (fns n) (eVar 1) (eOp dAdd (eVar 2) (eC (.int 1))) [some (.cell c), some (.str e0.nm), some (.int dp), some o3, some x] st = .ok d (st.set c (insW W (p + w1.length : Nat))) := by
        unfold thM
        rw [eMeth_app, eVar_at 0 (d := .cell c) (by rfl), bnd_ok, ck, bnd_ok, aSeq_cons, eVar_at 1 (d := .str e0.nm) (by rfl), bnd_ok, aSeq_cons, eOp_app, eVar_at 2 (d := .int dp) (by rfl), bnd_ok, eC_app, bnd_ok, dAdd_int, lif_some, bnd_ok, aSeq_nil, bnd_ok, bnd_ok, bnd_ok, h1]
      unfold compGo
      simp only [tgName, List.set_cons_succ, List.set_cons_zero, bind_app, noErr_app, pure_app', noe_ok, bnd_ok, if_true, e1]
      rw [h2, set_same]
      simp only [List.append_assoc, List.singleton_append, List.length_append, Nat.add_assoc]
end
theorem g_hd (F : Fn → List D → M D) : g_Words_headed F = (sSeq (sAsg 3 (eMeth "Words" "next_word" (F .Words_next_word) (eVar 0) [])) (sSeq (sIf (tVal (eOp (dNotInK tabs) (eVar 3) (eVar 1))) (sRaise "NoText" (eC (.str "no such word"))) sNop) (sRet (eOp dAdd (eTup [(eVar 3)]) (eB dTuple [(eComp [4] (iSeq (eOp (dGetK tabs) (eVar 1) (eVar 3))) (tgName 4) (fun _ => pure true) (thM F (eVar 4) (eOp dAdd (eVar 2) (eC (.int 1)))))]))))) := rfl
theorem g_sv (F : Fn → List D → M D) : g_Words_several F = (sSeq (sAsg 3 (eMeth "Words" "next_number" (F .Words_next_number) (eVar 0) [])) (sSeq (sIf (tVal (eOp dLt (eVar 3) (eC (.int 0)))) (sRaise "NoText" (eC (.str "no such many"))) sNop) (sRet (eB dTuple [(eComp [4] (iRange (eVar 3)) (tgName 4) (fun _ => pure true) (thM F (eVar 1) (eOp dAdd (eVar 2) (eC (.int 1)))))])))) := rfl
theorem read_is : ∀ {h : Nat} {s : So} {d : D} {ws : List Str}, Th h s d ws → ∀ (n : Nat) (W : List Str) (c : Nat) (dp : Int), 2 * h + 5 ≤ n → 0 ≤ dp → dp + h ≤ 150 → Reads1 n W c dp s d ws
  | h, s, d, ws, t, n, W, c, dp, hn, d0, d1, p, st, ha, hc => by
    obtain ⟨m, rfl⟩ : ∃ m, n = m + 1 := ⟨n - 1, by omega⟩
    have nd : ¬ (150 : Int) < dp := by omega
    have hl : c < st.length := (List.getElem?_eq_some_iff.mp hc).1
    have lf : Lf s d ws → fns (m + 1) .Words_thing_of [.cell c, .str s.nm, .int dp] st = .ok d (st.set c (insW W (p + ws.length : Nat))) := fun t => by
      rcases t with ⟨rfl, i, rfl, hi, rfl⟩ | ⟨rfl, z, rfl, hz, rfl⟩
      · obtain ⟨k, rfl⟩ : ∃ k, m = k + 3 := ⟨m - 3, by omega⟩
        have ck := chk_of hc lk_next_number
        have nn := next_number_is (n := k) hc hi (by simpa using ha 0 (nS i) rfl)
        have q : ∀ st, dEqS (.str So.num.nm) (.str "number") st = some (.bl true) := fun st => by kernel_rfl
        refine runF_ret ?_
        simp only [So.nm, insW, wFs] at *
        simp [g_Words_thing_of, nd, q, ck, nn]
      · obtain ⟨k, rfl⟩ : ∃ k, m = k + 2 := ⟨m - 2, by omega⟩
        have ck := chk_of hc lk_next_word
        have nn := next_word_is (n := k) hc (z := z) (by simpa using ha 0 z rfl)
        have q : ∀ st, dEqS (.str So.wrd.nm) (.str "number") st = some (.bl false) := fun st => by kernel_rfl
        have q2 : ∀ st, dEqS (.str So.wrd.nm) (.str "word") st = some (.bl true) := fun st => by kernel_rfl
        refine runF_ret ?_
        simp only [So.nm, insW, wFs] at *
        simp [g_Words_thing_of, nd, q, q2, ck, nn]
    cases h with
    | zero => exact lf t
    | succ h =>
      rcases t with t | ⟨e0, l, w, e1, rfl, e3, e4, rfl⟩ | ⟨x, ss, ds, w, e1, rfl, e3, rfl⟩
      · exact lf t
      · obtain ⟨k, rfl⟩ : ∃ k, m = k + 4 := ⟨m - 4, by omega⟩
        have ck := chk_of hc lk_several
        have ck2 := chk_of hc lk_next_number
        have nn := next_number_is (n := k) hc (i := (l.length : Int)) (by omega) (by simpa using ha 0 _ rfl)
        have hc2 : (st.set c (insW W (p + 1 : Nat)))[c]? = some (insW W (p + 1 : Nat)) := by rw [List.getElem?_set_self hl]
        have cp := rd_sv (n := k + 3) (W := W) (c := c) (dp := dp) (e0 := e0) (o3 := .int l.length) (fun s d ws t => read_is t (k + 3) W c (dp + 1) (by omega) (by omega) (by omega)) e4 (rangeD l.length) [] (p + 1) _ none (by simp [rangeD]) ha.tail hc2
        rw [set_same] at cp
        have rg := iRange_at (fa := eVar 3) (env := [some (.cell c), some (.str e0.nm), some (.int dp), some (.int (l.length : Int)), none]) (st := st.set c (insW W (p + 1 : Nat))) (st' := st.set c (insW W (p + 1 : Nat))) (i := (l.length : Int)) (eVar_at 3 rfl) (by omega) (by omega)
        rw [show ((l.length : Nat) : Int).toNat = l.length by omega] at rg
        have cm := eComp_of (vs := [4]) (tg := tgName 4) (tt := fun _ => pure true) rg cp
        have sv : fns (k + 4) .Words_several [.cell c, .str e0.nm, .int dp] st = .ok (.tup l) (st.set c (insW W (p + (w.length + 1) : Nat))) := by
          refine runF_ret ?_
          show g_Words_several (fns (k + 3)) [some (.cell c), some (.str e0.nm), some (.int dp), none, none] st = _
          have c1 : eMeth "Words" "next_number" (fns (k + 3) .Words_next_number) (eVar 0) [] [some (.cell c), some (.str e0.nm), some (.int dp), none, none] st = .ok (.int l.length) (st.set c (insW W (p + 1 : Nat))) := by
            rw [eMeth_app, eVar_at 0 (d := .cell c) (by rfl), bnd_ok, ck2, bnd_ok, aSeq_nil, bnd_ok, nn]
          have ng : ¬ ((l.length : Int) < 0) := by omega
          rw [g_sv, sSeq_app, sAsg_app, c1, sb_ok, bnd_ok, nxt_nx]
          show (sSeq _ _) [some (.cell c), some (.str e0.nm), some (.int dp), some (.int l.length), none] _ = _
          rw [sSeq_app, sIf_app, tVal_app, eOp_app, eVar_at 3 (d := .int l.length) (by rfl), bnd_ok, eC_app, bnd_ok, dLt_int, lif_some, bnd_ok, asB_bl, sb_ok, decide_eq_false ng]
          simp only [Bool.false_eq_true, if_false]
          rw [sNop_app, bnd_ok, nxt_nx, sRet_app, eB_app, aSeq_cons, cm, bnd_ok, aSeq_nil, bnd_ok, bnd_ok]
          simp only [List.nil_append, dTuple_lst, lif_some, sb_ok]
          rw [show p + 1 + w.length = p + (w.length + 1) by omega]
        refine runF_ret ?_
        show g_Words_thing_of (fns (k + 4)) [some (.cell c), some (.str s.nm), some (.int dp)] st = _
        have f1 := fun st => (sv_con e1 st).1
        have f2 := fun st => (sv_con e1 st).2.1
        have f3 := fun st => (sv_con e1 st).2.2.1
        have f4 := fun st => (sv_con e1 st).2.2.2
        simp only [List.length_cons]
        generalize s.nm = sn at *
        simp only [insW, wFs] at *
        simp [g_Words_thing_of, nd, f3, f4, f1, f2, ck, sv]
      · obtain ⟨k, rfl⟩ : ∃ k, m = k + 3 := ⟨m - 3, by omega⟩
        have ck := chk_of hc lk_headed
        have ck2 := chk_of hc lk_next_word
        have nn := next_word_is (n := k) hc (z := x) (by simpa using ha 0 _ rfl)
        have hc2 : (st.set c (insW W (p + 1 : Nat)))[c]? = some (insW W (p + 1 : Nat)) := by rw [List.getElem?_set_self hl]
        have cp := rd_hd (n := k + 2) (W := W) (c := c) (dp := dp) (o1 := .con (tabN s)) (o3 := .str x) (fun s d ws t => read_is t (k + 2) W c (dp + 1) (by omega) (by omega) (by omega)) e3 [] (p + 1) _ none ha.tail hc2
        rw [set_same] at cp
        have f1 := fun st => (hd_con e1 st).1
        have f2 := fun st => (hd_con e1 st).2.1
        have f3 := fun st => (hd_con e1 st).2.2.1
        have f4 := fun st => (hd_con e1 st).2.2.2.1
        have f5 := fun st => (hd_con e1 st).2.2.2.2.1
        have f6 := fun st => (hd_con e1 st).2.2.2.2.2
        have it : iSeq (eOp (dGetK tabs) (eVar 1) (eVar 3)) [some (.cell c), some (.con (tabN s)), some (.int dp), some (.str x), none] (st.set c (insW W (p + 1 : Nat))) = .ok (ss.map fun s => .str s.nm) (st.set c (insW W (p + 1 : Nat))) := by
          rw [iSeq_app, eOp_app, eVar_at 1 (d := .con (tabN s)) (by rfl), bnd_ok, eVar_at 3 (d := .str x) (by rfl), bnd_ok, f3, lif_some, bnd_ok, items_tup]
        have cm := eComp_of (vs := [4]) (tg := tgName 4) (tt := fun _ => pure true) it cp
        have dl : ds.length ≤ 3 := by rw [e3.len]; exact (ent_len e1).1
        have hd : fns (k + 3) .Words_headed [.cell c, .con (tabN s), .int dp] st = .ok (.tup (.str x :: ds)) (st.set c (insW W (p + (w.length + 1) : Nat))) := by
          refine runF_ret ?_
          show g_Words_headed (fns (k + 2)) [some (.cell c), some (.con (tabN s)), some (.int dp), none, none] st = _
          have c1 : eMeth "Words" "next_word" (fns (k + 2) .Words_next_word) (eVar 0) [] [some (.cell c), some (.con (tabN s)), some (.int dp), none, none] st = .ok (.str x) (st.set c (insW W (p + 1 : Nat))) := by
            rw [eMeth_app, eVar_at 0 (d := .cell c) (by rfl), bnd_ok, ck2, bnd_ok, aSeq_nil, bnd_ok, nn]
          have ad : ∀ st, dAdd (.tup [.str x]) (.tup ds) st = some (.tup (.str x :: ds)) := fun st => by
            simp only [dAdd]
            rw [if_pos (by rw [sline]; simp; omega)]
            rfl
          rw [g_hd, sSeq_app, sAsg_app, c1, sb_ok, bnd_ok, nxt_nx]
          show (sSeq _ _) [some (.cell c), some (.con (tabN s)), some (.int dp), some (.str x), none] _ = _
          rw [sSeq_app, sIf_app, tVal_app, eOp_app, eVar_at 3 (d := .str x) (by rfl), bnd_ok, eVar_at 1 (d := .con (tabN s)) (by rfl), bnd_ok, f2, lif_some, bnd_ok, asB_bl, sb_ok]
          simp only [Bool.false_eq_true, if_false]
          rw [sNop_app, bnd_ok, nxt_nx, sRet_app, eOp_app, eTup_app, aSeq_cons, eVar_at 3 (d := .str x) (by rfl), bnd_ok, aSeq_nil, bnd_ok, bnd_ok, bnd_ok, eB_app, aSeq_cons, cm, bnd_ok, aSeq_nil, bnd_ok, bnd_ok]
          simp only [List.nil_append, dTuple_lst, lif_some, bnd_ok, ad, sb_ok]
          rw [show p + 1 + w.length = p + (w.length + 1) by omega]
        refine runF_ret ?_
        show g_Words_thing_of (fns (k + 3)) [some (.cell c), some (.str s.nm), some (.int dp)] st = _
        simp only [List.length_cons]
        generalize s.nm = sn at *
        simp only [insW, wFs] at *
        simp [g_Words_thing_of, nd, f5, f6, f4, f1, ck, hd]
end K91
end

section
set_option Elab.async false
set_option linter.all false
set_option maxRecDepth 100000
set_option maxHeartbeats 1000000
namespace K91
open PySem L2 G
def HasT (h : Nat) (s : So) (d : D) : Prop := ∃ ws, Th h s d ws
theorem HasT.mono {h h' : Nat} {s : So} {d : D} (t : HasT h s d) (hh : h ≤ h') : HasT h' s d := let ⟨w, t⟩ := t; ⟨w, t.mono hh⟩
theorem HasT.sh {h : Nat} {s : So} {d : D} (t : HasT h s d) : Sh 61 h d := let ⟨_, t⟩ := t; t.sh
theorem ht_num {h : Nat} {i : Int} (hi : i.natAbs ≤ 10 ^ 30) : HasT h .num (.int i) := ⟨[nS i], Th.mono (Nat.zero_le h) (.inl ⟨rfl, i, rfl, hi, rfl⟩)⟩
theorem ht_wrd {h : Nat} {z : Str} (hz : wordB (.str z) = true) : HasT h .wrd (.str z) := ⟨[z], Th.mono (Nat.zero_le h) (.inr ⟨rfl, z, rfl, hz, rfl⟩)⟩
section
variable {h : Nat} {s s1 s2 s3 : So} {x : Str} {a b c : D}
theorem ht_hd0 (he : (x, []) ∈ entL s) : HasT (h + 1) s (.tup [.str x]) := ⟨_, .inr (.inr ⟨x, [], [], [], he, rfl, rfl, rfl⟩)⟩
theorem ht_hd1 (he : (x, [s1]) ∈ entL s) (ta : HasT h s1 a) : HasT (h + 1) s (.tup [.str x, a]) := by
  obtain ⟨w1, t1⟩ := ta
  exact ⟨_, .inr (.inr ⟨x, [s1], [a], w1 ++ [], he, rfl, ⟨w1, [], rfl, t1, rfl⟩, rfl⟩)⟩
theorem ht_hd2 (he : (x, [s1, s2]) ∈ entL s) (ta : HasT h s1 a) (tb : HasT h s2 b) : HasT (h + 1) s (.tup [.str x, a, b]) := by
  obtain ⟨w1, t1⟩ := ta
  obtain ⟨w2, t2⟩ := tb
  exact ⟨_, .inr (.inr ⟨x, [s1, s2], [a, b], w1 ++ (w2 ++ []), he, rfl, ⟨w1, _, rfl, t1, w2, [], rfl, t2, rfl⟩, rfl⟩)⟩
theorem ht_hd3 (he : (x, [s1, s2, s3]) ∈ entL s) (ta : HasT h s1 a) (tb : HasT h s2 b) (tc : HasT h s3 c) : HasT (h + 1) s (.tup [.str x, a, b, c]) := by
  obtain ⟨w1, t1⟩ := ta
  obtain ⟨w2, t2⟩ := tb
  obtain ⟨w3, t3⟩ := tc
  exact ⟨_, .inr (.inr ⟨x, [s1, s2, s3], [a, b, c], w1 ++ (w2 ++ (w3 ++ [])), he, rfl, ⟨w1, _, rfl, t1, w2, _, rfl, t2, w3, [], rfl, t3, rfl⟩, rfl⟩)⟩
theorem ths_rep {e : So} : ∀ {l : List D}, (∀ x ∈ l, HasT h e x) → ∃ ws, Ths (Th h) (List.replicate l.length e) l ws
  | [], _ => ⟨[], rfl⟩
  | d :: l, hl => by
    obtain ⟨w1, t1⟩ := hl d (by simp)
    obtain ⟨w2, t2⟩ := ths_rep (l := l) fun x hx => hl x (by simp [hx])
    exact ⟨w1 ++ w2, w1, w2, rfl, t1, t2⟩
theorem ht_sv {e : So} {l : List D} (he : el s = some e) (hl : l.length ≤ 60) (hp : ∀ x ∈ l, HasT h e x) : HasT (h + 1) s (.tup l) := by
  obtain ⟨ws, t⟩ := ths_rep hp
  exact ⟨_, .inr (.inl ⟨e, l, ws, he, rfl, hl, t, rfl⟩)⟩
end
theorem isW_self (x : Str) : isW (.str x) x = true := by simp [isW]
theorem ssz (x : Str) (n : Nat) (h : x.cps.size = n := by decide +kernel) : x.cps.size = n := h
/-! ## rules and tests that are made -/
structure MCh (d : D) : Prop where
  th : HasT 1 .chg d
  bk : bk d ≤ 10
  is : chg d = true
structure MRule (d : D) : Prop where
  th : HasT 2 .rule d
  bk : bk d ≤ 33
  is : ∀ st n, 3 ≤ n → fns n .is_rule [d] st = .ok (.bl true) st
structure MLook (t B : Nat) (d : D) : Prop where
  th : HasT (2 * t + 1) .lok d
  bk : bk d ≤ B
  is : ∀ st n, 2 * t + 4 ≤ n → fns n .is_look [d] st = .ok (.bl true) st
structure MTest (t B : Nat) (d : D) : Prop where
  th : HasT (2 * t + 2) .test d
  bk : bk d ≤ B
  is : ∀ st n, 2 * t + 5 ≤ n → fns n .is_test [d] st = .ok (.bl true) st
theorem ch_one : MCh (.tup [.str "one"]) := ⟨ht_hd0 (by simp [entL]), by simp [ssz "one" 3], by simp [chg, isW_self]⟩
theorem ch_sum : MCh (.tup [.str "sum"]) := ⟨ht_hd0 (by simp [entL]), by simp [ssz "sum" 3], by simp [chg, isW_self]⟩
theorem ch_add {c : Int} (h : c.natAbs ≤ 10 ^ 30) : MCh (.tup [.str "add", .int c]) := ⟨ht_hd1 (s1 := .num) (by simp [entL]) (ht_num h), by simp [ssz "add" 3], by simp [chg, isW_self, qInt]⟩
theorem ch_times {c : Int} (h : c.natAbs ≤ 10 ^ 30) : MCh (.tup [.str "times", .int c]) := ⟨ht_hd1 (s1 := .num) (by simp [entL]) (ht_num h), by simp [ssz "times" 5], by simp [chg, isW_self, qInt]⟩
theorem ch_rest {c : Int} (h : c.natAbs ≤ 10 ^ 30) (h0 : 0 < c) : MCh (.tup [.str "rest", .int c]) := ⟨ht_hd1 (s1 := .num) (by simp [entL]) (ht_num h), by simp [ssz "rest" 4], by simp [chg, isW_self, qInt, posD, h0]⟩
theorem m_rule {l : List D} (hl : l.length ≤ 3) (h : ∀ x ∈ l, MCh x) : MRule (.tup l) := by
  have th : HasT 2 .rule (.tup l) := ht_sv rfl (by omega) fun x hx => (h x hx).th
  refine ⟨th, ?_, fun st n hn => ?_⟩
  · rw [bk_tup]
    have := bkL_le (B := 10) l fun x hx => (h x hx).bk
    omega
  · obtain ⟨m, rfl⟩ : ∃ m, n = m + 3 := ⟨n - 3, by omega⟩
    have al : l.all chg = true := List.all_eq_true.mpr fun x hx => (h x hx).is
    refine runF_ret ?_
    have e : eComp [1] (iSeq (eVar 0)) (tgName 1) (fun _ => pure true) (eCall (fns (m + 2) .is_change) [(eVar 1)]) [some (.tup l), none] st = .ok (.lst (l.map fun d => .bl (chg d))) st := by
      refine eComp_of (l := l) (st1 := st) (by simp) ?_
      rw [compGo_map fun d => .bl (chg d)]
      · simp
      · intro d hd
        simp [evWipe, change_is (h d hd).th.sh (by omega)]
    simp [g_is_rule, dIsT_tuple th.sh, qTup, e, dAll, bools_map]
    simpa using al
theorem m_test {t B : Nat} {l : List D} (hl : l.length ≤ 3) (h : ∀ x ∈ l, MLook t B x) : MTest t (3 * (B + 1)) (.tup l) := by
  have th : HasT (2 * t + 2) .test (.tup l) := ht_sv (h := 2 * t + 1) rfl (by omega) fun x hx => (h x hx).th
  refine ⟨th, ?_, fun st n hn => ?_⟩
  · rw [bk_tup]
    have := bkL_le (B := B) l fun x hx => (h x hx).bk
    exact Nat.le_trans this (Nat.mul_le_mul_right _ hl)
  · obtain ⟨m, rfl⟩ : ∃ m, n = m + 1 := ⟨n - 1, by omega⟩
    refine runF_ret ?_
    have e : eComp [1] (iSeq (eVar 0)) (tgName 1) (fun _ => pure true) (eCall (fns m .is_look) [(eVar 1)]) [some (.tup l), none] st = .ok (.lst (l.map fun d => .bl true)) st := by
      refine eComp_of (l := l) (st1 := st) (by simp) ?_
      rw [compGo_map fun d => .bl true]
      · simp
      · intro d hd
        simp [evWipe, (h d hd).is st m (by omega)]
    have b := bools_map l fun _ => true
    simp [g_is_test, dIsT_tuple th.sh, qTup, e, dAll, b]
theorem m_test1 {t B : Nat} {x : D} (h : MLook t B x) : MTest t (B + 1) (.tup [x]) := by
  have z := m_test (l := [x]) (by simp) (by simpa using h)
  exact ⟨z.th, by have := h.bk; simp; omega, z.is⟩
theorem q_bb (st : Store) : dEq (.str "below") (.str "below") st = some (.bl true) := we _ _ _ (by decide +kernel) (by decide +kernel) (by decide +kernel) st
theorem q_ra (st : Store) : dEq (.str "rest") (.str "after") st = some (.bl false) := we _ _ _ (by decide +kernel) (by decide +kernel) (by decide +kernel) st
theorem q_rr (st : Store) : dEq (.str "rest") (.str "rest") st = some (.bl true) := we _ _ _ (by decide +kernel) (by decide +kernel) (by decide +kernel) st
theorem q_aa (st : Store) : dEq (.str "after") (.str "after") st = some (.bl true) := we _ _ _ (by decide +kernel) (by decide +kernel) (by decide +kernel) st
theorem lk_below {t : Nat} {c : Int} (h : c.natAbs ≤ 10 ^ 30) : MLook t 8 (.tup [.str "below", .int c]) := by
  have th : HasT (2 * t + 1) .lok (.tup [.str "below", .int c]) := ht_hd1 (h := 2 * t) (s1 := .num) (by simp [entL]) (ht_num h)
  refine ⟨th, by simp [ssz "below" 5], fun st n hn => ?_⟩
  obtain ⟨m, rfl⟩ : ∃ m, n = m + 2 := ⟨n - 2, by omega⟩
  have w := fun st => whole_is (n := m) (st := st) (sh_i (L := 0) (k := 0) h)
  exact runF_ret (by simp [g_is_look, dIsT_tuple th.sh, qTup, q_bb, w, qInt])
theorem lk_rest {t : Nat} {m r : Int} (h : m.natAbs ≤ 10 ^ 30) (h0 : 0 ≤ r) (h1 : r < m) : MLook t 8 (.tup [.str "rest", .int m, .int r]) := by
  have hr : r.natAbs ≤ 10 ^ 30 := by omega
  have th : HasT (2 * t + 1) .lok (.tup [.str "rest", .int m, .int r]) := ht_hd2 (h := 2 * t) (s1 := .num) (s2 := .num) (by simp [entL]) (ht_num h) (ht_num hr)
  refine ⟨th, by simp [ssz "rest" 4], fun st n hn => ?_⟩
  obtain ⟨q, rfl⟩ : ∃ m, n = m + 2 := ⟨n - 2, by omega⟩
  have w := fun st => whole_is (n := q) (st := st) (sh_i (L := 0) (k := 0) h)
  have w2 := fun st => whole_is (n := q) (st := st) (sh_i (L := 0) (k := 0) hr)
  exact runF_ret (by simp [g_is_look, dIsT_tuple th.sh, qTup, q_ra, q_rr, w, w2, qInt, h0, h1])
theorem lk_after {t B : Nat} {r x : D} (hr : MRule r) (hx : MTest t B x) : MLook (t + 1) (B + 43) (.tup [.str "after", r, x]) := by
  have th : HasT (2 * (t + 1) + 1) .lok (.tup [.str "after", r, x]) := ht_hd2 (h := 2 * t + 2) (s1 := .rule) (s2 := .test) (by simp [entL]) (hr.th.mono (by omega)) hx.th
  refine ⟨th, ?_, fun st n hn => ?_⟩
  · have := hr.bk
    have := hx.bk
    simp [ssz "after" 5]; omega
  · obtain ⟨m, rfl⟩ : ∃ m, n = m + 1 := ⟨n - 1, by omega⟩
    have e1 := fun st => hr.is st m (by omega)
    have e2 := fun st => hx.is st m (by omega)
    exact runF_ret (by simp [g_is_look, dIsT_tuple th.sh, qTup, q_aa, e1, e2])
theorem MLook.le {t B B' : Nat} {d : D} (h : MLook t B d) (hb : B ≤ B') : MLook t B' d := ⟨h.th, Nat.le_trans h.bk hb, h.is⟩
theorem MTest.le {t B B' : Nat} {d : D} (h : MTest t B d) (hb : B ≤ B') : MTest t B' d := ⟨h.th, Nat.le_trans h.bk hb, h.is⟩
end K91
end

section
set_option Elab.async false
set_option linter.all false
set_option maxRecDepth 100000
set_option maxHeartbeats 1000000
namespace K91
open PySem L2 G
/-! ## plans that are made -/
structure MPlan (h B : Nat) (d : D) : Prop where
  th : HasT (2 * h + 6) .pln d
  bk : bk d ≤ B
  is : ∀ st n, 2 * h + 14 ≤ n → fns n .is_plan [d] st = .ok (.bl true) st
  pt : ∃ k : Int, ∀ st n, h + 2 ≤ n → fns n .l_parts [d] st = .ok (.int k) st
theorem MPlan.mono {h h' B B' : Nat} {d : D} (p : MPlan h B d) (hh : h ≤ h') (hb : B ≤ B') : MPlan h' B' d :=
  ⟨p.th.mono (by omega), Nat.le_trans p.bk hb, fun st n hn => p.is st n (by omega), let ⟨k, q⟩ := p.pt; ⟨k, fun st n hn => q st n (by omega)⟩⟩
theorem MPlan.sh {h B : Nat} {d : D} (p : MPlan h B d) : Sh 61 (2 * h + 6) d := p.th.sh
/-! ### parts -/
def ptC (F : Fn → List D → M D) : Ev → M D := (eComp [2] (iSeq (eVar 1)) (tgName 2) (fun _ => pure true) (eCall (F .l_parts) [(eVar 2)]))
theorem g_pt (F : Fn → List D → M D) : g_l_parts F = (sSeq (sIf (tVal (eOp dIn (eOp dIdx (eVar 0) (eC (.int 0))) (eTup [(eC (.str "list")), (eC (.str "broken")), (eC (.str "count")), (eC (.str "row"))]))) (sRet (eC (.int 1))) sNop) (sSeq (sAsg 1 (eLst [(eOp dIdx (eVar 0) (eUn dNeg (eC (.int 1))))])) (sSeq (sIf (tVal (eOp dIn (eOp dIdx (eVar 0) (eC (.int 0))) (eTup [(eC (.str "chain")), (eC (.str "beside"))]))) (sAsg 1 (eOp dIdx (eVar 0) (eC (.int 1)))) sNop) (sSeq (sIf (tVal (eOp dEq (eOp dIdx (eVar 0) (eC (.int 0))) (eC (.str "spare")))) (sAsg 1 (eSl (eVar 0) (pAt (eC (.int 1))) pNo)) sNop) (sRet (eOp dAdd (eC (.int 1)) (eB dSum [ptC F]))))))) := rfl
theorem pt_comp {l : List D} {h : Nat} (hl : ∀ x ∈ l, ∃ k : Int, ∀ st n, h + 2 ≤ n → fns n .l_parts [x] st = .ok (.int k) st) : ∃ s : Int, ∀ (n : Nat) (L d0 : D) (st : Store), h + 2 ≤ n → (L = .lst l ∨ L = .tup l) → eB dSum [ptC (fns n)] [some d0, some L, none] st = .ok (.int s) st := by
  obtain ⟨f, hf⟩ := pickD hl
  obtain ⟨s, hs⟩ : ∃ s : Int, ∀ st, dSum [.lst (l.map fun d => .int (f d))] st = some (.int s) := by
    refine ⟨(l.map f).sum, fun st => ?_⟩
    have b := ints_map l f
    simp only [dSum, b, Option.map_some]
  refine ⟨s, fun n L d0 st hn hL => ?_⟩
  have cm : ptC (fns n) [some d0, some L, none] st = .ok (.lst (l.map fun d => .int (f d))) st := by
    refine eComp_of (l := l) (st1 := st) ?_ ?_
    · rcases hL with rfl | rfl <;> simp
    · rw [compGo_map fun d => .int (f d)]
      · simp
      · intro d hd
        simp [evWipe, hf d hd st n hn]
  rw [eB_app, aSeq_cons, cm, bnd_ok, aSeq_nil, bnd_ok, bnd_ok, hs, lif_some]
theorem pt_upon {h : Nat} {x : Str} {rest : List D} {p : D} (h1 : ∀ st, dIn (.str x) (.tup [.str "list", .str "broken", .str "count", .str "row"]) st = some (.bl false)) (h2 : ∀ st, dIn (.str x) (.tup [.str "chain", .str "beside"]) st = some (.bl false)) (h3 : ∀ st, dEq (.str x) (.str "spare") st = some (.bl false))
    (hl : ∀ st, dIdx (.tup (.str x :: rest)) (.int (-1)) st = some p) (hp : ∃ k : Int, ∀ st n, h + 2 ≤ n → fns n .l_parts [p] st = .ok (.int k) st) : ∃ k : Int, ∀ st n, h + 1 + 2 ≤ n → fns n .l_parts [.tup (.str x :: rest)] st = .ok (.int k) st := by
  obtain ⟨s, hs⟩ := pt_comp (l := [p]) (h := h) (by simpa using hp)
  refine ⟨1 + s, fun st n hn => ?_⟩
  obtain ⟨m, rfl⟩ : ∃ m, n = m + 1 := ⟨n - 1, by omega⟩
  have c := fun d0 st => hs m (.lst [p]) d0 st (by omega) (.inl rfl)
  refine runF_ret ?_
  show g_l_parts (fns m) [some (.tup (.str x :: rest)), none, none] st = _
  have c := c (.tup (.str x :: rest)) st
  rw [g_pt]
  simp only [sSeq_app, sIf_app, tVal_app, eOp_app, eVar_at 0 (env := [some (.tup (.str x :: rest)), none, none]) (d := .tup (.str x :: rest)) (by rfl), bnd_ok, eC_app, dIdx_t0, lif_some, eTup_app, aSeq_cons, aSeq_nil, h1, asB_bl, sb_ok, Bool.false_eq_true, if_false, sNop_app, nxt_nx, sAsg_app, eLst_app, eUn_app, dNeg_int, hl]
  simp only [List.set_cons_succ, List.set_cons_zero, nxt_nx]
  simp only [sSeq_app, sIf_app, tVal_app, eOp_app, eVar_at 0 (env := [some (.tup (.str x :: rest)), some (.lst [p]), none]) (d := .tup (.str x :: rest)) (by rfl), bnd_ok, eC_app, dIdx_t0, lif_some, eTup_app, aSeq_cons, aSeq_nil, h2, h3, asB_bl, sb_ok, Bool.false_eq_true, if_false, sNop_app, nxt_nx]
  rw [sRet_app, eOp_app, eC_app, bnd_ok, c, bnd_ok, dAdd_int, lif_some, sb_ok]
/-! ### leaves -/
theorem ints_th {l : List D} (hl : l.length ≤ 60) (h : ∀ x ∈ l, ∃ i : Int, x = .int i ∧ i.natAbs ≤ 10 ^ 30) : HasT 1 .nums (.tup l) := ht_sv (h := 0) rfl hl fun x hx => by
  obtain ⟨i, rfl, hi⟩ := h x hx
  exact ht_num hi
theorem p_list {l : List D} (hl : l.length ≤ 60) (h : ∀ x ∈ l, ∃ i : Int, x = .int i ∧ i.natAbs ≤ 10 ^ 30) : MPlan 0 80 (.tup [.str "list", .tup l]) := by
  have tl := ints_th hl h
  have al : l.all qInt = true := List.all_eq_true.mpr fun x hx => by obtain ⟨i, rfl, hi⟩ := h x hx; rfl
  have bl := bkL_le (B := 0) l fun x hx => by obtain ⟨i, rfl, hi⟩ := h x hx; simp
  refine ⟨(ht_hd1 (s1 := .nums) (by simp [entL]) tl).mono (by omega), by simp [ssz "list" 4]; omega, fun st n hn => ?_, 1, fun st n hn => ?_⟩
  · obtain ⟨m, rfl⟩ : ∃ m, n = m + 4 := ⟨n - 4, by omega⟩
    have e := leaf_is (n := m) (st := st) (rest := [.tup l]) "list" (.inl rfl) (by simp) (L := 61) (k := 1) (fun x hx => by
      rw [List.mem_singleton.mp hx]; exact tl.sh)
    rw [e]
    simp [leafB, numsB]
    simpa using al
  · obtain ⟨m, rfl⟩ : ∃ m, n = m + 1 := ⟨n - 1, by omega⟩
    exact runF_ret (by simp [g_pt])
theorem p_broken {l : List D} {w : Str} (hw : wordB (.str w) = true) (hl : l.length ≤ 60) (h : ∀ x ∈ l, ∃ i : Int, x = .int i ∧ i.natAbs ≤ 10 ^ 30) : MPlan 0 80 (.tup [.str "broken", .tup l, .str w]) := by
  have tl := ints_th hl h
  have tw : HasT 1 .wrd (.str w) := ht_wrd hw
  have al : l.all qInt = true := List.all_eq_true.mpr fun x hx => by obtain ⟨i, rfl, hi⟩ := h x hx; rfl
  have bl := bkL_le (B := 0) l fun x hx => by obtain ⟨i, rfl, hi⟩ := h x hx; simp
  have wz : w.cps.size ≤ 8 := (word_ok hw).2.1
  refine ⟨(ht_hd2 (s1 := .nums) (s2 := .wrd) (by simp [entL]) tl tw).mono (by omega), by simp [ssz "broken" 6]; omega, fun st n hn => ?_, 1, fun st n hn => ?_⟩
  · obtain ⟨m, rfl⟩ : ∃ m, n = m + 4 := ⟨n - 4, by omega⟩
    have e := leaf_is (n := m) (st := st) (rest := [.tup l, .str w]) "broken" (.inr (.inr (.inl rfl))) (by simp) (L := 61) (k := 1) (fun x hx => by
      rcases List.mem_cons.mp hx with rfl | hx
      · exact tl.sh
      · rw [List.mem_singleton.mp hx]; exact tw.sh)
    rw [e]
    simp [leafB, numsB, hw]
    simpa using al
  · obtain ⟨m, rfl⟩ : ∃ m, n = m + 1 := ⟨n - 1, by omega⟩
    exact runF_ret (by simp [g_pt])
theorem p_count {a b c : Int} (ha : a.natAbs ≤ 10 ^ 30) (hb : b.natAbs ≤ 10 ^ 30) (h0 : 0 ≤ c) (h1 : c ≤ 200) : MPlan 0 80 (.tup [.str "count", .int a, .int b, .int c]) := by
  have hc : c.natAbs ≤ 10 ^ 30 := by omega
  refine ⟨(ht_hd3 (h := 0) (s1 := .num) (s2 := .num) (s3 := .num) (by simp [entL]) (ht_num ha) (ht_num hb) (ht_num hc)).mono (by omega), by simp [ssz "count" 5], fun st n hn => ?_, 1, fun st n hn => ?_⟩
  · obtain ⟨m, rfl⟩ : ∃ m, n = m + 4 := ⟨n - 4, by omega⟩
    have e := leaf_is (n := m) (st := st) (rest := [.int a, .int b, .int c]) "count" (.inr (.inr (.inr rfl))) (by simp) (L := 61) (k := 1) (fun x hx => by
      simp only [List.mem_cons, List.not_mem_nil, or_false] at hx
      rcases hx with rfl | rfl | rfl
      · exact sh_i ha
      · exact sh_i hb
      · exact sh_i hc)
    rw [e]
    simp [leafB, qInt, betB, h0, h1]
  · obtain ⟨m, rfl⟩ : ∃ m, n = m + 1 := ⟨n - 1, by omega⟩
    exact runF_ret (by simp [g_pt])
theorem p_row {c : Int} (h0 : 0 ≤ c) (h1 : c ≤ 59) : MPlan 0 80 (.tup [.str "row", .int c]) := by
  have hc : c.natAbs ≤ 10 ^ 30 := by omega
  refine ⟨(ht_hd1 (h := 0) (s1 := .num) (by simp [entL]) (ht_num hc)).mono (by omega), by simp [ssz "row" 3], fun st n hn => ?_, 1, fun st n hn => ?_⟩
  · obtain ⟨m, rfl⟩ : ∃ m, n = m + 4 := ⟨n - 4, by omega⟩
    have e := leaf_is (n := m) (st := st) (rest := [.int c]) "row" (.inr (.inl rfl)) (by simp) (L := 61) (k := 1) (fun x hx => by
      rw [List.mem_singleton.mp hx]; exact sh_i hc)
    rw [e]
    have nl : ¬ (("row" : Str) = "list") := by decide +kernel
    simp [leafB, nl, betB, h0, h1]
  · obtain ⟨m, rfl⟩ : ∃ m, n = m + 1 := ⟨n - 1, by omega⟩
    exact runF_ret (by simp [g_pt])
/-! ### upon others -/
section
variable {h B t : Nat} {p : D}
theorem p_turn {r : D} (hr : MRule r) (hp : MPlan h B p) : MPlan (h + 1) (B + 800) (.tup [.str "turn", r, p]) := by
  refine ⟨(ht_hd2 (h := 2 * h + 6) (s1 := .rule) (s2 := .pln) (by simp [entL]) (hr.th.mono (by omega)) hp.th).mono (by omega), ?_, fun st n hn => ?_, pt_upon (by simp) (by simp) (by simp) (fun st => rfl) hp.pt⟩
  · have := hr.bk; have := hp.bk
    simp [ssz "turn" 4]; omega
  · obtain ⟨q, rfl⟩ : ∃ q, n = q + 4 := ⟨n - 4, by omega⟩
    exact ip_turn (n := q + 2) (a := true) (b := true) (y := p) (rest := [r, p]) (by simp) rfl (hn_turn (n := q) (bt := [r]) (L := 61) (k := 2) (g := fun _ => true) (by simp) rfl (fun x hx => by rw [List.mem_singleton.mp hx]; exact hr.th.sh) (by decide) (by simp) fun x hx => by rw [List.mem_singleton.mp hx]; exact hr.is st _ (by omega)) (hp.is st _ (by omega))
theorem p_sieve {r : D} (ht : t ≤ h + 2) (h20 : h ≤ 20) (hr : MTest t 790 r) (hp : MPlan h B p) : MPlan (h + 1) (B + 800) (.tup [.str "sieve", r, p]) := by
  refine ⟨(ht_hd2 (h := 2 * h + 7) (s1 := .test) (s2 := .pln) (by simp [entL]) (hr.th.mono (by omega)) (hp.th.mono (by omega))).mono (by omega), ?_, fun st n hn => ?_, pt_upon (by simp) (by simp) (by simp) (fun st => rfl) hp.pt⟩
  · have := hr.bk; have := hp.bk
    simp [ssz "sieve" 5]; omega
  · obtain ⟨q, rfl⟩ : ∃ q, n = q + 4 := ⟨n - 4, by omega⟩
    exact ip_sieve (n := q + 2) (a := true) (b := true) (y := p) (rest := [r, p]) (by simp) rfl (hn_sieve (n := q) (bt := [r]) (L := 61) (k := 2 * t + 2) (g := fun _ => true) (by simp) rfl (fun x hx => by rw [List.mem_singleton.mp hx]; exact hr.th.sh) (by omega) (by simp) fun x hx => by rw [List.mem_singleton.mp hx]; exact hr.is st _ (by omega)) (hp.is st _ (by omega))
theorem p_upto {r : D} (ht : t ≤ h + 2) (h20 : h ≤ 20) (hr : MTest t 790 r) (hp : MPlan h B p) : MPlan (h + 1) (B + 800) (.tup [.str "upto", r, p]) := by
  refine ⟨(ht_hd2 (h := 2 * h + 7) (s1 := .test) (s2 := .pln) (by simp [entL]) (hr.th.mono (by omega)) (hp.th.mono (by omega))).mono (by omega), ?_, fun st n hn => ?_, pt_upon (by simp) (by simp) (by simp) (fun st => rfl) hp.pt⟩
  · have := hr.bk; have := hp.bk
    simp [ssz "upto" 4]; omega
  · obtain ⟨q, rfl⟩ : ∃ q, n = q + 4 := ⟨n - 4, by omega⟩
    exact ip_upto (n := q + 2) (a := true) (b := true) (y := p) (rest := [r, p]) (by simp) rfl (hn_upto (n := q) (bt := [r]) (L := 61) (k := 2 * t + 2) (g := fun _ => true) (by simp) rfl (fun x hx => by rw [List.mem_singleton.mp hx]; exact hr.th.sh) (by omega) (by simp) fun x hx => by rw [List.mem_singleton.mp hx]; exact hr.is st _ (by omega)) (hp.is st _ (by omega))
theorem p_cut {c : Int} (h0 : 0 ≤ c) (h1 : c ≤ 200) (hp : MPlan h B p) : MPlan (h + 1) (B + 800) (.tup [.str "cut", .int c, p]) := by
  have hc : c.natAbs ≤ 10 ^ 30 := by omega
  refine ⟨(ht_hd2 (h := 2 * h + 6) (s1 := .num) (s2 := .pln) (by simp [entL]) (ht_num hc) hp.th).mono (by omega), ?_, fun st n hn => ?_, pt_upon (by simp) (by simp) (by simp) (fun st => rfl) hp.pt⟩
  · have := hp.bk
    simp [ssz "cut" 3]; omega
  · obtain ⟨q, rfl⟩ : ∃ q, n = q + 4 := ⟨n - 4, by omega⟩
    have e := hn_cut (n := q) (st := st) (rest := [.int c, p]) (bt := [.int c]) (L := 61) (k := 0) (by simp) rfl (fun x hx => by rw [List.mem_singleton.mp hx]; exact sh_i hc) (by decide) (by simp)
    simp only [betB, decide_eq_true h0, decide_eq_true h1, Bool.and_self] at e
    exact ip_cut (n := q + 2) (a := true) (b := true) (y := p) (rest := [.int c, p]) (by simp) rfl e (hp.is st _ (by omega))
theorem p_left {c : Int} (h0 : 0 ≤ c) (h1 : c ≤ 200) (hp : MPlan h B p) : MPlan (h + 1) (B + 800) (.tup [.str "left", .int c, p]) := by
  have hc : c.natAbs ≤ 10 ^ 30 := by omega
  refine ⟨(ht_hd2 (h := 2 * h + 6) (s1 := .num) (s2 := .pln) (by simp [entL]) (ht_num hc) hp.th).mono (by omega), ?_, fun st n hn => ?_, pt_upon (by simp) (by simp) (by simp) (fun st => rfl) hp.pt⟩
  · have := hp.bk
    simp [ssz "left" 4]; omega
  · obtain ⟨q, rfl⟩ : ∃ q, n = q + 4 := ⟨n - 4, by omega⟩
    have e := hn_left (n := q) (st := st) (rest := [.int c, p]) (bt := [.int c]) (L := 61) (k := 0) (by simp) rfl (fun x hx => by rw [List.mem_singleton.mp hx]; exact sh_i hc) (by decide) (by simp)
    simp only [betB, decide_eq_true h0, decide_eq_true h1, Bool.and_self] at e
    exact ip_left (n := q + 2) (a := true) (b := true) (y := p) (rest := [.int c, p]) (by simp) rfl e (hp.is st _ (by omega))
theorem p_marks {c : Int} (h0 : 0 < c) (hc : c.natAbs ≤ 10 ^ 30) (hp : MPlan h B p) : MPlan (h + 1) (B + 800) (.tup [.str "marks", .int c, p]) := by
  refine ⟨(ht_hd2 (h := 2 * h + 6) (s1 := .num) (s2 := .pln) (by simp [entL]) (ht_num hc) hp.th).mono (by omega), ?_, fun st n hn => ?_, pt_upon (by simp) (by simp) (by simp) (fun st => rfl) hp.pt⟩
  · have := hp.bk
    simp [ssz "marks" 5]; omega
  · obtain ⟨q, rfl⟩ : ∃ q, n = q + 4 := ⟨n - 4, by omega⟩
    have e := hn_marks (n := q) (st := st) (rest := [.int c, p]) (bt := [.int c]) (L := 61) (k := 0) (by simp) rfl (fun x hx => by rw [List.mem_singleton.mp hx]; exact sh_i hc) (by decide) (by simp)
    simp only [byB, decide_eq_true h0] at e
    exact ip_marks (n := q + 2) (a := true) (b := true) (y := p) (rest := [.int c, p]) (by simp) rfl e (hp.is st _ (by omega))
theorem p_ahead (hp : MPlan h B p) : MPlan (h + 1) (B + 800) (.tup [.str "ahead", p]) := by
  refine ⟨(ht_hd1 (h := 2 * h + 6) (s1 := .pln) (by simp [entL]) hp.th).mono (by omega), ?_, fun st n hn => ?_, pt_upon (by simp) (by simp) (by simp) (fun st => rfl) hp.pt⟩
  · have := hp.bk
    simp [ssz "ahead" 5]; omega
  · obtain ⟨q, rfl⟩ : ∃ q, n = q + 4 := ⟨n - 4, by omega⟩
    have e := hn_ahead (n := q) (st := st) (rest := [p]) (bt := []) (L := 61) (k := 0) (by simp) rfl (fun x hx => by simp at hx) (by decide) (by simp)
    exact ip_ahead (n := q + 2) (a := true) (b := true) (y := p) (rest := [p]) (by simp) rfl e (hp.is st _ (by omega))
theorem p_windows {c d : Int} (h0 : 1 ≤ c) (h1 : c ≤ 20) (h2 : 1 ≤ d) (h3 : d ≤ 20) (hp : MPlan h B p) : MPlan (h + 1) (B + 800) (.tup [.str "windows", .int c, .int d, p]) := by
  have hc : c.natAbs ≤ 10 ^ 30 := by omega
  have hd : d.natAbs ≤ 10 ^ 30 := by omega
  refine ⟨(ht_hd3 (h := 2 * h + 6) (s1 := .num) (s2 := .num) (s3 := .pln) (by simp [entL]) (ht_num hc) (ht_num hd) hp.th).mono (by omega), ?_, fun st n hn => ?_, pt_upon (by simp) (by simp) (by simp) (fun st => rfl) hp.pt⟩
  · have := hp.bk
    simp [ssz "windows" 7]; omega
  · obtain ⟨q, rfl⟩ : ∃ q, n = q + 4 := ⟨n - 4, by omega⟩
    have e := hn_windows (n := q) (st := st) (rest := [.int c, .int d, p]) (bt := [.int c, .int d]) (L := 61) (k := 0) (by simp) rfl (fun x hx => by
      rcases List.mem_cons.mp hx with rfl | hx
      · exact sh_i hc
      · rw [List.mem_singleton.mp hx]; exact sh_i hd) (by decide) (by simp)
    simp only [betB, decide_eq_true h0, decide_eq_true h1, decide_eq_true h2, decide_eq_true h3, Bool.and_self] at e
    exact ip_windows (n := q + 2) (a := true) (b := true) (y := p) (rest := [.int c, .int d, p]) (by simp) rfl e (hp.is st _ (by omega))
theorem p_wanted {c : Int} {w : Str} (hw : wordB (.str w) = true) (h0 : 0 ≤ c) (h1 : c ≤ 200) (hp : MPlan h B p) : MPlan (h + 1) (B + 800) (.tup [.str "wanted", .int c, .str w, p]) := by
  have hc : c.natAbs ≤ 10 ^ 30 := by omega
  have tw : ∀ {k}, HasT k .wrd (.str w) := ht_wrd hw
  have wz : w.cps.size ≤ 8 := (word_ok hw).2.1
  refine ⟨(ht_hd3 (h := 2 * h + 6) (s1 := .num) (s2 := .wrd) (s3 := .pln) (by simp [entL]) (ht_num hc) tw hp.th).mono (by omega), ?_, fun st n hn => ?_, pt_upon (by simp) (by simp) (by simp) (fun st => rfl) hp.pt⟩
  · have := hp.bk
    simp [ssz "wanted" 6]; omega
  · obtain ⟨q, rfl⟩ : ∃ q, n = q + 4 := ⟨n - 4, by omega⟩
    have e := hn_wanted (n := q) (st := st) (rest := [.int c, .str w, p]) (bt := [.int c, .str w]) (L := 61) (k := 0) (by simp) rfl (fun x hx => by
      rcases List.mem_cons.mp hx with rfl | hx
      · exact sh_i hc
      · rw [List.mem_singleton.mp hx]; exact tw.sh) (by decide) (by simp)
    simp only [betB, decide_eq_true h0, decide_eq_true h1, hw, Bool.and_self] at e
    exact ip_wanted (n := q + 2) (a := true) (b := true) (y := p) (rest := [.int c, .str w, p]) (by simp) rfl e (hp.is st _ (by omega))
theorem p_spare {r : D} (hh : h ≤ 20) (hr : MPlan h B r) (hp : MPlan h B p) : MPlan (h + 1) (6 * B + 1000) (.tup [.str "spare", r, p]) := by
  refine ⟨(ht_hd2 (h := 2 * h + 6) (s1 := .pln) (s2 := .pln) (by simp [entL]) hr.th hp.th).mono (by omega), ?_, fun st n hn => ?_, ?_⟩
  · have := hr.bk; have := hp.bk
    simp [ssz "spare" 5]; omega
  · obtain ⟨q, rfl⟩ : ∃ q, n = q + 4 := ⟨n - 4, by omega⟩
    exact ip_spare (n := q + 2) (a := true) (b := true) (y := p) (rest := [r, p]) (by simp) rfl (hn_spare (n := q) (bt := [r]) (L := 61) (k := 2 * h + 6) (g := fun _ => true) (by simp) rfl (fun x hx => by rw [List.mem_singleton.mp hx]; exact hr.sh) (by omega) (by simp) fun x hx => by rw [List.mem_singleton.mp hx]; exact hr.is st _ (by omega)) (hp.is st _ (by omega))
  · obtain ⟨s, hs⟩ := pt_comp (l := [r, p]) (h := h) (fun x hx => by
      rcases List.mem_cons.mp hx with rfl | hx
      · exact hr.pt
      · rw [List.mem_singleton.mp hx]; exact hp.pt)
    refine ⟨1 + s, fun st n hn => ?_⟩
    obtain ⟨m, rfl⟩ : ∃ m, n = m + 1 := ⟨n - 1, by omega⟩
    have c := hs m (.tup [r, p]) (.tup [.str "spare", r, p]) st (by omega) (.inr rfl)
    have lx : ∀ st, dIdx (.tup [.str "spare", r, p]) (.int (-1)) st = some p := fun st => rfl
    have sl : ∀ st, dSl (some 1) none (.tup [.str "spare", r, p]) st = some (.tup [r, p]) := fun st => rfl
    exact runF_ret (by simp only [eB_app, aSeq_cons, aSeq_nil, bnd_ok] at c; simp [g_pt, lx, sl, c])
theorem p_join (w : Str) {l : List D} (hw : w = "chain" ∨ w = "beside" ∧ l ≠ []) (hh : h ≤ 20) (hl : l.length ≤ 6) (hp : ∀ x ∈ l, MPlan h B x) : MPlan (h + 1) (6 * B + 1000) (.tup [.str w, .tup l]) := by
  have hw' : w = "chain" ∨ w = "beside" := hw.imp id And.left
  have tl : HasT (2 * h + 7) .plans (.tup l) := ht_sv (h := 2 * h + 6) rfl (by omega) fun x hx => (hp x hx).th
  have wz : w.cps.size ≤ 6 := by rcases hw' with rfl | rfl <;> decide +kernel
  refine ⟨?_, ?_, fun st n hn => ?_, ?_⟩
  · rcases hw' with rfl | rfl <;> exact ht_hd1 (h := 2 * h + 7) (s1 := .plans) (by simp [entL]) tl
  · have b := bkL_le (B := B) l fun x hx => (hp x hx).bk
    have b2 : l.length * (B + 1) ≤ 6 * (B + 1) := Nat.mul_le_mul_right _ hl
    simp only [bk_tup, bk_cons, bk_str, bk_nil]
    omega
  · obtain ⟨m, rfl⟩ : ∃ m, n = m + 3 := ⟨n - 3, by omega⟩
    have e := joined_is (n := m) (st := st) (k := 2 * h + 6) w hw' (f := fun _ => true) tl.sh (by omega) fun y hy => (hp y hy).is st _ (by omega)
    rw [e]
    rcases hw with rfl | ⟨rfl, hn⟩
    · simp; omega
    · have : l.isEmpty = false := by cases l with | nil => exact absurd rfl hn | cons _ _ => rfl
      simp [this]; omega
  · obtain ⟨s, hs⟩ := pt_comp (l := l) (h := h) fun x hx => (hp x hx).pt
    refine ⟨1 + s, fun st n hn => ?_⟩
    obtain ⟨m, rfl⟩ : ∃ m, n = m + 1 := ⟨n - 1, by omega⟩
    have c := hs m (.tup l) (.tup [.str w, .tup l]) st (by omega) (.inr rfl)
    have lx : ∀ st, dIdx (.tup [.str w, .tup l]) (.int (-1)) st = some (.tup l) := fun st => rfl
    simp only [eB_app, aSeq_cons, aSeq_nil, bnd_ok] at c
    rcases hw' with rfl | rfl <;> exact runF_ret (by simp [g_pt, lx, c])
end
end K91
end

section
set_option Elab.async false
set_option linter.all false
set_option maxRecDepth 100000
set_option maxHeartbeats 1000000
namespace K91
open PySem L2 G TL
theorem divOk_of {m : Int} (h : 0 < m) (h2 : m.natAbs ≤ 10 ^ 31) : divOk m = true := by
  unfold divOk
  refine decide_eq_true ⟨h, ?_⟩
  exact Nat.lt_of_lt_of_le ((Nat.log2_lt (by omega)).mpr (Nat.lt_of_le_of_lt h2 (by decide +kernel : 10 ^ 31 < 2 ^ 120))) (by decide)
section
variable {i n : Nat} {s0 st : Store}
theorem takeM {m : Int} (h : PI i s0 st) (h0 : 0 < m) (h2 : m.natAbs ≤ 10 ^ 31) : ∃ r st', fns (n + 1) .l_take [.cell i, .int m] st = .ok (.int r) st' ∧ 0 ≤ r ∧ r < m ∧ PI i s0 st' := takeP h h0 (divOk_of h0 h2)
theorem number (h : PI i s0 st) : ∃ r st', fns (n + 2) .l_number [.cell i] st = .ok (.int r) st' ∧ r.natAbs ≤ 10 ^ 30 ∧ PI i s0 st' := by
  obtain ⟨r1, s1, e1, p1, q1, h1⟩ := takeM (n := n) h (m := 5) (by decide) (by decide)
  by_cases c : r1 = 4
  · obtain ⟨r2, s2, e2, p2, q2, h2⟩ := takeM (n := n) h1 (m := 1999999999999999999999999999999) (by decide) (by decide)
    have mu : ∀ st, dMul (.int 2) (.int 1000000000000000000000000000000) st = some (.int 2000000000000000000000000000000) := fun st => dMul_of (mulOk_of (a := 2) (b := 110) (by decide) (by decide) (by decide) (by decide))
    refine ⟨r2 - 1000000000000000000000000000000 + 1, s2, runF_ret ?_, by omega, h2⟩
    simp [g_l_number, e1, c, p30, mu, e2]
  · obtain ⟨r2, s2, e2, p2, q2, h2⟩ := takeM (n := n) h1 (m := 23) (by decide) (by decide)
    exact ⟨r2 - 11, s2, runF_ret (by simp [g_l_number, e1, c, e2]), by omega, h2⟩
theorem restM (h : PI i s0 st) : ∃ r st', fns (n + 2) .l_rest [.cell i] st = .ok (.int r) st' ∧ 0 < r ∧ r.natAbs ≤ 10 ^ 30 ∧ PI i s0 st' := by
  obtain ⟨r1, s1, e1, p1, q1, h1⟩ := takeM (n := n) h (m := 3) (by decide) (by decide)
  rcases (by omega : r1 = 0 ∨ r1 = 1 ∨ r1 = 2) with rfl | rfl | rfl
  · obtain ⟨r2, s2, e2, p2, q2, h2⟩ := takeM (n := n) h1 (m := 3) (by decide) (by decide)
    exact ⟨1 + r2, s2, runF_ret (by simp [g_l_rest, p30, e1, e2]), by omega, by omega, h2⟩
  · obtain ⟨r2, s2, e2, p2, q2, h2⟩ := takeM (n := n) h1 (m := 9) (by decide) (by decide)
    exact ⟨1 + r2, s2, runF_ret (by simp [g_l_rest, p30, e1, e2]), by omega, by omega, h2⟩
  · obtain ⟨r2, s2, e2, p2, q2, h2⟩ := takeM (n := n) h1 (m := 999999999999999999999999999999) (by decide) (by decide)
    have ix : ∀ (a b c : D) st, dIdx (.lst [a, b, c]) (.int 2) st = some c := fun a b c st => rfl
    exact ⟨1 + r2, s2, runF_ret (by simp [g_l_rest, p30, e1, ix, e2]), by omega, by omega, h2⟩
theorem change (h : PI i s0 st) : ∃ c st', fns (n + 3) .l_change [.cell i] st = .ok c st' ∧ MCh c ∧ PI i s0 st' := by
  obtain ⟨r1, s1, e1, p1, q1, h1⟩ := takeM (n := n + 1) h (m := 5) (by decide) (by decide)
  rcases (by omega : r1 = 3 ∨ r1 = 4 ∨ r1 = 0 ∨ r1 = 1 ∨ r1 = 2) with rfl | rfl | h3
  · exact ⟨.tup [.str "one"], s1, runF_ret (by simp [g_l_change, e1]), ch_one, h1⟩
  · exact ⟨.tup [.str "sum"], s1, runF_ret (by simp [g_l_change, e1]), ch_sum, h1⟩
  · obtain ⟨a, s2, e2, b2, h2⟩ := number (n := n) h1
    obtain ⟨b, s3, e3, p3, b3, h3'⟩ := restM (n := n) h2
    have i1 : ∀ st, dIntB [.bl true] st = some (.int 1) := fun st => rfl
    have i0 : ∀ st, dIntB [.bl false] st = some (.int 0) := fun st => rfl
    have ix : ∀ (a b c : D) st, dIdx (.lst [a, b, c]) (.int 2) st = some c := fun a b c st => rfl
    rcases h3 with rfl | rfl | rfl
    · exact ⟨.tup [.str "add", .int a], s3, runF_ret (by simp [g_l_change, e1, e2, e3, i0]), ch_add b2, h3'⟩
    · exact ⟨.tup [.str "times", .int a], s3, runF_ret (by simp [g_l_change, e1, e2, e3, i0]), ch_times b2, h3'⟩
    · exact ⟨.tup [.str "rest", .int b], s3, runF_ret (by simp [g_l_change, e1, e2, e3, i1, ix]), ch_rest b3 p3, h3'⟩
theorem rule (h : PI i s0 st) : ∃ c st', fns (n + 4) .l_rule [.cell i] st = .ok c st' ∧ MRule c ∧ PI i s0 st' := by
  obtain ⟨r1, s1, e1, p1, q1, h1⟩ := takeM (n := n + 2) h (m := 4) (by decide) (by decide)
  obtain ⟨ys, s2, e2, h2, l2, a2⟩ := compGo_inv (i := 1) (env := [some (.cell i), none]) (fe := eCall (fns (n + 3) .l_change) [(eVar 0)]) (PI i s0) MCh (rangeD r1.toNat) [] s1 (fun d _ st h => by
    obtain ⟨c, st', e, a, b⟩ := change (n := n) h
    exact ⟨c, st', by simp [e], b, a⟩) h1
  refine ⟨.tup ys, s2, runF_ret ?_, m_rule ?_ a2, h2⟩
  · have e3 := eComp_of (vs := [1]) (st := st) (env := [some (.cell i), none]) (fi := iRange (eCall (fns (n + 3) .l_take) [(eVar 0), (eC (.int 4))])) (tg := tgName 1) (tt := fun _ => pure true) (iRange_at (st' := s1) (i := r1) (by simp [e1]) (by omega) (by omega)) e2
    simp [g_l_rule, e3]
  · rw [l2]; simp [rangeD]; omega
/-! ### words -/
theorem join_nil (ys : List (List Nat)) : joinL [] ys = ys.flatten := by
  induction ys with
  | nil => rfl
  | cons y ys ih =>
    cases ys with
    | nil => simp [joinL]
    | cons z zs => rw [joinL, ih]; simp
theorem word_of {cs : List Nat} {z : Str} (hz : tl z = cs) (h1 : 1 ≤ cs.length) (h8 : cs.length ≤ 8) (ha : ∀ c ∈ cs, c ∈ abc.cps.toList) : wordB (.str z) = true := by
  have hl : z.length = cs.length := by rw [len_tl, hz]
  simp only [wordB, hl, decide_eq_true h1, decide_eq_true h8, Bool.true_and]
  rw [List.all_eq_true]
  intro d hd
  obtain ⟨c, hc, rfl⟩ := List.mem_map.mp hd
  have hc : c ∈ tl z := hc
  rw [hz] at hc
  simp only [chB, sign_of]
  exact decide_eq_true (ha c hc)
theorem wordM (h : PI i s0 st) : ∃ z st', fns (n + 2) .l_word [.cell i] st = .ok (.str z) st' ∧ wordB (.str z) = true ∧ PI i s0 st' := by
  obtain ⟨r1, s1, e1, p1, q1, h1⟩ := takeM (n := n) h (m := 4) (by decide) (by decide)
  by_cases c : r1 = 0
  · obtain ⟨r2, s2, e2, p2, q2, h2⟩ := takeM (n := n) h1 (m := 7) (by decide) (by decide)
    obtain ⟨z, hz, wz⟩ : ∃ z : Str, (∀ st, dIdx (.lst [.str "cut", .str "list", .str "row", .str "rest", .str "one", .str "chain", .str "spare"]) (.int r2) st = some (.str z)) ∧ wordB (.str z) = true := by
      rcases (by omega : r2 = 0 ∨ r2 = 1 ∨ r2 = 2 ∨ r2 = 3 ∨ r2 = 4 ∨ r2 = 5 ∨ r2 = 6) with rfl | rfl | rfl | rfl | rfl | rfl | rfl
      · exact ⟨"cut", fun st => rfl, by decide +kernel⟩
      · exact ⟨"list", fun st => rfl, by decide +kernel⟩
      · exact ⟨"row", fun st => rfl, by decide +kernel⟩
      · exact ⟨"rest", fun st => rfl, by decide +kernel⟩
      · exact ⟨"one", fun st => rfl, by decide +kernel⟩
      · exact ⟨"chain", fun st => rfl, by decide +kernel⟩
      · exact ⟨"spare", fun st => rfl, by decide +kernel⟩
    exact ⟨z, s2, runF_ret (by simp [g_l_word, e1, c, e2, hz]), wz, h2⟩
  · obtain ⟨r2, s2, e2, p2, q2, h2⟩ := takeM (n := n) h1 (m := 5) (by decide) (by decide)
    obtain ⟨k, hk, k1, k8⟩ : ∃ k : Nat, (∀ st, dIdx (.lst [.int 1, .int 1, .int 2, .int 4, .int 8]) (.int r2) st = some (.int (k : Nat))) ∧ 1 ≤ k ∧ k ≤ 8 := by
      rcases (by omega : r2 = 0 ∨ r2 = 1 ∨ r2 = 2 ∨ r2 = 3 ∨ r2 = 4) with rfl | rfl | rfl | rfl | rfl
      · exact ⟨1, fun st => rfl, by decide, by decide⟩
      · exact ⟨1, fun st => rfl, by decide, by decide⟩
      · exact ⟨2, fun st => rfl, by decide, by decide⟩
      · exact ⟨4, fun st => rfl, by decide, by decide⟩
      · exact ⟨8, fun st => rfl, by decide, by decide⟩
    obtain ⟨ys, s3, e3, h3, l3, a3⟩ := compGo_inv (i := 3) (env := [some (.cell i), some (.str "abcdefghijklmnopqrstuvwxyz"), some (.int (k : Nat)), none]) (fe := (eOp dIdx (eVar 1) (eCall (fns (n + 1) .l_take) [(eVar 0), (eC (.int 26))]))) (PI i s0) (fun y => ∃ c ∈ abc.cps.toList, y = .str ⟨#[c]⟩) (rangeD k) [] s2 (fun d _ st h => by
      obtain ⟨r, st', e, p, q, h'⟩ := takeM (n := n) h (m := 26) (by decide) (by decide)
      obtain ⟨m, rfl⟩ : ∃ m : Nat, r = (m : Nat) := ⟨r.toNat, by omega⟩
      have hm : m < abc.cps.toList.length := by
        have : abc.cps.toList.length = 26 := by decide +kernel
        omega
      refine ⟨.str ⟨#[abc.cps.toList[m]]⟩, st', ?_, h', _, List.getElem_mem hm, rfl⟩
      have ix : ∀ st, dIdx (.str "abcdefghijklmnopqrstuvwxyz") (.int (m : Nat)) st = some (.str ⟨#[abc.cps.toList[m]]⟩) := fun st => by
        have hz : ("abcdefghijklmnopqrstuvwxyz" : Str).length ≤ sizeLine := by decide +kernel
        simp only [dIdx, if_pos hz]
        have : atI abc.cps.toList (m : Int) = some abc.cps.toList[m] := by
          unfold atI ixN
          rw [if_pos (by omega), if_pos (by omega)]
          simp
        show (atI abc.cps.toList (m : Int)).map _ = _
        rw [this]; rfl
      simp [e, ix]) h2
    obtain ⟨zs, ez, hzs⟩ : ∃ zs : List Str, ys = zs.map .str ∧ ∀ z ∈ zs, ∃ c ∈ abc.cps.toList, z = ⟨#[c]⟩ := by
      clear e3 l3
      induction ys with
      | nil => exact ⟨[], rfl, by simp⟩
      | cons y ys ih =>
        obtain ⟨zs, e, hz⟩ := ih fun y hy => a3 y (by simp [hy])
        obtain ⟨c, hc, rfl⟩ := a3 y (by simp)
        exact ⟨⟨#[c]⟩ :: zs, by rw [e]; rfl, fun z hz' => by
          rcases List.mem_cons.mp hz' with rfl | hz'
          · exact ⟨c, hc, rfl⟩
          · exact hz z hz'⟩
    have ln : zs.length = k := by
      have : ys.length = zs.length := by rw [ez]; simp
      rw [← this, l3]; simp [rangeD]
    have tz : ∃ cs, tl (Txt.join "" zs) = cs ∧ cs.length = k ∧ ∀ c ∈ cs, c ∈ abc.cps.toList := by
      refine ⟨_, rfl, ?_, ?_⟩
      · have e0 : tl ("" : Str) = [] := by decide +kernel
        rw [TL.join_eq, tl_join, e0, join_nil, ← ln]
        clear ln ez e3 l3 a3
        induction zs with
        | nil => rfl
        | cons z zs ih =>
          obtain ⟨c, _, rfl⟩ := hzs z (by simp)
          simp only [List.map_cons, List.flatten_cons, List.length_append, List.length_cons]
          rw [ih fun z hz => hzs z (by simp [hz])]
          show 1 + zs.length = zs.length + 1
          omega
      · have e0 : tl ("" : Str) = [] := by decide +kernel
        rw [TL.join_eq, tl_join, e0, join_nil]
        intro c hc
        obtain ⟨l, hl, hcl⟩ := List.mem_flatten.mp hc
        obtain ⟨z, hz, rfl⟩ := List.mem_map.mp hl
        obtain ⟨c', hc', rfl⟩ := hzs z hz
        have : c = c' := by simpa [tl] using hcl
        rw [this]; exact hc'
    obtain ⟨cs, t1, t2, t3⟩ := tz
    have su : (zs.map (·.length)).sum ≤ 8 := by
      have : (zs.map (·.length)).sum = zs.length := by
        clear ln ez e3 l3 a3 t1
        induction zs with
        | nil => rfl
        | cons z zs ih =>
          obtain ⟨c, _, rfl⟩ := hzs z (by simp)
          simp only [List.map_cons, List.sum_cons, List.length_cons]
          rw [ih fun z hz => hzs z (by simp [hz])]
          show 1 + zs.length = zs.length + 1
          omega
      omega
    have jn : ∀ st, dJoin (.str "") (.lst ys) st = some (.str (Txt.join "" zs)) := fun st => by
      simp only [dJoin, ez, strs_map]
      rw [if_pos]
      have : ("" : Str).length = 0 := by decide +kernel
      rw [this]
      omega
    have cm := eComp_of (vs := [3]) (st := s2) (env := [some (.cell i), some (.str "abcdefghijklmnopqrstuvwxyz"), some (.int (k : Nat)), none]) (fi := iRange (eVar 2)) (tg := tgName 3) (tt := fun _ => pure true) (l := rangeD k) (st1 := s2) (by
      have := iRange_at (fa := eVar 2) (env := [some (.cell i), some (.str "abcdefghijklmnopqrstuvwxyz"), some (.int (k : Nat)), none]) (st := s2) (st' := s2) (i := (k : Int)) (eVar_at 2 rfl) (by omega) (by omega)
      rw [show ((k : Nat) : Int).toNat = k by omega] at this
      exact this) e3
    refine ⟨Txt.join "" zs, s3, runF_ret ?_, word_of t1 (by omega) (by omega) t3, h3⟩
    have ej : ∀ (fa fb : Ev → M D) env st, eJoin fa fb env st = (fa env st).bnd fun d st => (asS d st).bnd fun z st => (fb env st).bnd fun y st => lif (dJoin (.str z) y st) st := fun fa fb env st => by
      show (fa env >>= _) st = _
      simp only [bind_app]
      congr 1
    simp only [List.nil_append] at cm
    simp [g_l_word, e1, c, e2, hk, ej, cm, jn]
end
end K91
end

section
set_option Elab.async false
set_option linter.all false
set_option maxRecDepth 100000
set_option maxHeartbeats 1000000
namespace K91
open PySem L2 G TL
def bLk : Nat → Nat
  | 0 => 8
  | k + 1 => 3 * (bLk k + 1) + 43
theorem bLk8 (k : Nat) : 8 ≤ bLk k := by
  induction k with
  | zero => exact Nat.le_refl _
  | succ k ih => unfold bLk; omega
section
variable {i : Nat} {s0 st : Store}
theorem test_of {k n : Nat} (hk : ∀ (st : Store), PI i s0 st → ∃ d st', fns (n + 1) .l_look [.cell i, .int (k : Nat)] st = .ok d st' ∧ MLook k (bLk k) d ∧ PI i s0 st') (h : PI i s0 st) : ∃ d st', fns (n + 2) .l_test [.cell i, .int (k : Nat)] st = .ok d st' ∧ MTest k (3 * (bLk k + 1)) d ∧ PI i s0 st' := by
  obtain ⟨r1, s1, e1, p1, q1, h1⟩ := takeM (n := n) h (m := 4) (by decide) (by decide)
  obtain ⟨ys, s2, e2, h2, l2, a2⟩ := compGo_inv (i := 2) (env := [some (.cell i), some (.int (k : Nat)), none]) (fe := eCall (fns (n + 1) .l_look) [(eVar 0), (eVar 1)]) (PI i s0) (MLook k (bLk k)) (rangeD r1.toNat) [] s1 (fun d _ st h => by
    obtain ⟨c, st', e, a, b⟩ := hk st h
    exact ⟨c, st', by simp [e], b, a⟩) h1
  refine ⟨.tup ys, s2, runF_ret ?_, m_test ?_ a2, h2⟩
  · have e3 := eComp_of (vs := [2]) (st := st) (env := [some (.cell i), some (.int (k : Nat)), none]) (fi := iRange (eCall (fns (n + 1) .l_take) [(eVar 0), (eC (.int 4))])) (tg := tgName 2) (tt := fun _ => pure true) (iRange_at (st' := s1) (i := r1) (by simp [e1]) (by omega) (by omega)) e2
    simp [g_l_test, e3]
  · rw [l2]; simp [rangeD]; omega
theorem lookM : ∀ (k n : Nat) (st : Store), PI i s0 st → ∃ d st', fns (n + 2 * k + 5) .l_look [.cell i, .int (k : Nat)] st = .ok d st' ∧ MLook k (bLk k) d ∧ PI i s0 st'
  | k, n, st, h => by
    obtain ⟨r1, s1, e1, p1, q1, h1⟩ := takeM (n := n + 2 * k + 3) h (m := 3) (by decide) (by decide)
    simp only [Nat.add_assoc, Nat.reduceAdd] at e1
    have rs : ∃ m r s3 s4, fns (n + 2 * k + 4) .l_rest [.cell i] s1 = .ok (.int m) s3 ∧ fns (n + 2 * k + 4) .l_take [.cell i, .int m] s3 = .ok (.int r) s4 ∧ 0 ≤ r ∧ r < m ∧ m.natAbs ≤ 10 ^ 30 ∧ PI i s0 s4 := by
      obtain ⟨m, s3, e3, m0, m1, h3⟩ := restM (n := n + 2 * k + 2) h1
      obtain ⟨r, s4, e4, r0, r1, h4⟩ := takeM (n := n + 2 * k + 3) h3 (m := m) m0 (by omega)
      exact ⟨m, r, s3, s4, e3, e4, r0, r1, m1, h4⟩
    by_cases c0 : r1 = 0
    · obtain ⟨m, r, s3, s4, e3, e4, r0, r1', m1, h4⟩ := rs
      simp only [Nat.add_assoc, Nat.reduceAdd] at e3 e4
      exact ⟨_, s4, runF_ret (by simp [g_l_look, Nat.add_assoc, e1, c0, e3, e4]), (lk_rest m1 r0 r1').le (bLk8 k), h4⟩
    · by_cases c1 : r1 = 1
      · obtain ⟨z, s3, e3, z1, h3⟩ := number (n := n + 2 * k + 2) h1
        simp only [Nat.add_assoc, Nat.reduceAdd] at e3
        exact ⟨_, s3, runF_ret (by simp [g_l_look, Nat.add_assoc, e1, c1, e3]), (lk_below z1).le (bLk8 k), h3⟩
      · have c2 : r1 = 2 := by omega
        cases k with
        | zero =>
          obtain ⟨m, r, s3, s4, e3, e4, r0, r1', m1, h4⟩ := rs
          simp only [Nat.mul_zero, Nat.add_zero, Nat.zero_add, Nat.add_assoc, Nat.reduceAdd] at e1 e3 e4
          exact ⟨_, s4, runF_ret (by simp [g_l_look, Nat.add_assoc, e1, c2, e3, e4]), (lk_rest m1 r0 r1').le (bLk8 0), h4⟩
        | succ k =>
          obtain ⟨r, s3, e3, mr, h3⟩ := rule (n := n + 2 * (k + 1)) h1
          obtain ⟨t, s4, e4, mt, h4⟩ := test_of (k := k) (n := n + 2 * k + 4) (fun st h => lookM k n st h) h3
          simp only [Nat.mul_add, Nat.mul_one, Nat.add_assoc, Nat.reduceAdd] at e1 e3 e4
          have sb : ∀ st, dSub (.int ((k : Int) + 1)) (.int 1) st = some (.int (k : Nat)) := fun st => by simp
          have nz : ¬ ((k : Int) + 1 = 0) := by omega
          exact ⟨_, s4, runF_ret (by simp [g_l_look, Nat.mul_add, Nat.add_assoc, e1, c2, e3, sb, nz, e4]), lk_after mr mt, h4⟩
theorem testM (k n : Nat) (h : PI i s0 st) : ∃ d st', fns (n + 2 * k + 6) .l_test [.cell i, .int (k : Nat)] st = .ok d st' ∧ MTest k (3 * (bLk k + 1)) d ∧ PI i s0 st' :=
  test_of (n := n + 2 * k + 4) (fun st h => lookM k n st h) h
/-! ### leaves -/
theorem leafM {n : Nat} (h : PI i s0 st) : ∃ d st', fns (n + 3) .l_leaf [.cell i] st = .ok d st' ∧ MPlan 0 80 d ∧ PI i s0 st' := by
  obtain ⟨w, s1, e1, w0, w1, h1⟩ := takeM (n := n + 1) h (m := 4) (by decide) (by decide)
  obtain ⟨a, s2, e2, a0, a1, h2⟩ := takeM (n := n + 1) h1 (m := 7) (by decide) (by decide)
  obtain ⟨b, s3, e3, b0, b1, h3⟩ := takeM (n := n + 1) h2 (m := 61) (by decide) (by decide)
  obtain ⟨c, s4, e4, c0, c1, h4⟩ := takeM (n := n + 1) h3 (m := 12) (by decide) (by decide)
  obtain ⟨m, em, m0, m1⟩ : ∃ m : Int, eOp dIdx (eLst [(eCall (fns (n + 2) .l_take) [(eVar 0), (eC (.int 7))]), (eCall (fns (n + 2) .l_take) [(eVar 0), (eC (.int 61))])]) (eB dIntB [(eOp dEq (eCall (fns (n + 2) .l_take) [(eVar 0), (eC (.int 12))]) (eC (.int 0)))]) [some (.cell i), none, none, none, none] s1 = .ok (.int m) s4 ∧ 0 ≤ m ∧ m ≤ 60 := by
    by_cases q : c = 0
    · exact ⟨b, by
        have i1 : ∀ st, dIntB [.bl true] st = some (.int 1) := fun st => rfl
        simp [e2, e3, e4, q, i1], b0, by omega⟩
    · exact ⟨a, by
        have i1 : ∀ st, dIntB [.bl false] st = some (.int 0) := fun st => rfl
        simp [e2, e3, e4, q, i1], a0, by omega⟩
  obtain ⟨ys, s5, e5, h5, l5, a5⟩ := compGo_inv (i := 4) (env := [some (.cell i), some (.int w), some (.int m), none, none]) (fe := eCall (fns (n + 2) .l_number) [(eVar 0)]) (PI i s0) (fun x => ∃ i : Int, x = .int i ∧ i.natAbs ≤ 10 ^ 30) (rangeD m.toNat) [] s4 (fun d _ st h => by
    obtain ⟨c, st', e, a, b⟩ := number (n := n) h
    exact ⟨.int c, st', by simp [e], b, c, rfl, a⟩) h4
  have l60 : ys.length ≤ 60 := by rw [l5]; simp [rangeD]; omega
  have e6 := eComp_of (vs := [4]) (st := s4) (env := [some (.cell i), some (.int w), some (.int m), none, none]) (fi := iRange (eVar 2)) (tg := tgName 4) (tt := fun _ => pure true) (iRange_at (st' := s4) (i := m) (eVar_at 2 rfl) (by omega) (by omega)) e5
  simp only [List.nil_append] at e6
  have go : ∀ (fl : Fl) (s' : Store), (sSeq (sIf (tVal (eOp dEq (eVar 1) (eC (.int 0)))) (sRet (eTup [(eC (.str "list")), (eVar 3)])) sNop) (sSeq (sIf (tVal (eOp dEq (eVar 1) (eC (.int 1)))) (sRet (eTup [(eC (.str "broken")), (eVar 3), (eCall (fns (n + 2) .l_word) [(eVar 0)])])) sNop) (sSeq (sIf (tVal (eOp dEq (eVar 1) (eC (.int 2)))) (sRet (eTup [(eC (.str "count")), (eCall (fns (n + 2) .l_number) [(eVar 0)]), (eCall (fns (n + 2) .l_number) [(eVar 0)]), (eCall (fns (n + 2) .l_take) [(eVar 0), (eC (.int 201))])])) sNop) (sRet (eTup [(eC (.str "row")), (eCall (fns (n + 2) .l_take) [(eVar 0), (eC (.int 60))])]))))) [some (.cell i), some (.int w), some (.int m), some (.tup ys), none] s5 = .ok fl s' → g_l_leaf (fns (n + 2)) [some (.cell i), none, none, none, none] st = .ok fl s' := fun fl s' hh => by
    unfold g_l_leaf
    rw [sSeq_app, sPar_app]
    have q1 : eCall (fns (n + 2) .l_take) [(eVar 0), (eC (.int 4))] [some (.cell i), none, none, none, none] st = .ok (.int w) s1 := by simp [e1]
    rw [q1, sb_ok, em, sb_ok, bnd_ok, nxt_nx]
    show (sSeq (sAsg 3 _) _) [some (.cell i), some (.int w), some (.int m), none, none] s4 = _
    have q2 : ∀ st, dTuple [.lst ys] st = some (.tup ys) := fun st => rfl
    rw [sSeq_app, sAsg_app, eB_app, aSeq_cons, e6, bnd_ok, aSeq_nil, bnd_ok, bnd_ok, q2, lif_some, sb_ok, bnd_ok, nxt_nx]
    exact hh
  have al := a5
  rcases (by omega : w = 0 ∨ w = 1 ∨ w = 2 ∨ w = 3) with rfl | rfl | rfl | rfl
  · exact ⟨_, s5, runF_ret (go _ _ (by simp)), p_list l60 al, h5⟩
  · obtain ⟨z, s6, e6, wz, h6⟩ := wordM (n := n) h5
    exact ⟨_, s6, runF_ret (go _ _ (by simp [e6])), p_broken wz l60 al, h6⟩
  · obtain ⟨x, s6, e6, xb, h6⟩ := number (n := n) h5
    obtain ⟨y, s7, e7, yb, h7⟩ := number (n := n) h6
    obtain ⟨z, s8, e8, z0, z1, h8⟩ := takeM (n := n + 1) h7 (m := 201) (by decide) (by decide)
    exact ⟨_, s8, runF_ret (go _ _ (by simp [e6, e7, e8])), p_count xb yb z0 (by omega), h8⟩
  · obtain ⟨z, s8, e8, z0, z1, h8⟩ := takeM (n := n + 1) h5 (m := 60) (by decide) (by decide)
    exact ⟨_, s8, runF_ret (go _ _ (by simp [e8])), p_row z0 (by omega), h8⟩
/-! ### upon -/
theorem uponM {n h B : Nat} {w : Int} {p : D} (hp : MPlan h B p) (h20 : h ≤ 20) (w0 : 0 ≤ w) (w8 : w ≤ 8) (hP : PI i s0 st) : ∃ d st', fns (n + 11) .l_upon [.cell i, .int w, p] st = .ok d st' ∧ MPlan (h + 1) (B + 800) d ∧ PI i s0 st' := by
  obtain ⟨a, s1, e1, a0, a1, h1⟩ := takeM (n := n + 9) hP (m := 5) (by decide) (by decide)
  obtain ⟨b, s2, e2, b0, b1, h2⟩ := takeM (n := n + 9) h1 (m := 201) (by decide) (by decide)
  obtain ⟨c, s3, e3, c0, c1, h3⟩ := takeM (n := n + 9) h2 (m := 2) (by decide) (by decide)
  obtain ⟨m, em, m0, m1⟩ : ∃ m : Int, (∀ st, dIdx (.lst [.int a, .int b]) (.int c) st = some (.int m)) ∧ 0 ≤ m ∧ m ≤ 200 := by
    rcases (by omega : c = 0 ∨ c = 1) with rfl | rfl
    · exact ⟨a, fun st => rfl, a0, by omega⟩
    · exact ⟨b, fun st => rfl, b0, by omega⟩
  simp only [Nat.add_assoc, Nat.reduceAdd] at e1 e2 e3
  rcases (by omega : w = 0 ∨ w = 1 ∨ w = 2 ∨ w = 3 ∨ w = 4 ∨ w = 5 ∨ w = 6 ∨ w = 7 ∨ w = 8) with rfl | rfl | rfl | rfl | rfl | rfl | rfl | rfl | rfl
  · obtain ⟨r, s4, e4, mr, h4⟩ := rule (n := n + 6) h3
    exact ⟨_, s4, runF_ret (by simp [g_l_upon, e1, e2, e3, em, e4]), p_turn mr hp, h4⟩
  · obtain ⟨t, s4, e4, mt, h4⟩ := testM 2 n h3
    have e4' : fns (n + 10) .l_test [.cell i, .int 2] s3 = .ok t s4 := e4
    exact ⟨_, s4, runF_ret (by simp [g_l_upon, e1, e2, e3, em, e4']), p_sieve (by omega) h20 (mt.le (by decide)) hp, h4⟩
  · obtain ⟨t, s4, e4, mt, h4⟩ := testM 2 n h3
    have e4' : fns (n + 10) .l_test [.cell i, .int 2] s3 = .ok t s4 := e4
    exact ⟨_, s4, runF_ret (by simp [g_l_upon, e1, e2, e3, em, e4']), p_upto (by omega) h20 (mt.le (by decide)) hp, h4⟩
  · exact ⟨_, s3, runF_ret (by simp [g_l_upon, e1, e2, e3, em]), p_cut m0 m1 hp, h3⟩
  · exact ⟨_, s3, runF_ret (by simp [g_l_upon, e1, e2, e3, em]), p_left m0 m1 hp, h3⟩
  · exact ⟨_, s3, runF_ret (by simp [g_l_upon, e1, e2, e3, em]), p_ahead hp, h3⟩
  · obtain ⟨x, s4, e4, x0, x1, h4⟩ := takeM (n := n + 9) h3 (m := 20) (by decide) (by decide)
    obtain ⟨y, s5, e5, y0, y1, h5⟩ := takeM (n := n + 9) h4 (m := 20) (by decide) (by decide)
    simp only [Nat.add_assoc, Nat.reduceAdd] at e4 e5
    exact ⟨.tup [.str "windows", .int (1 + x), .int (1 + y), p], s5, runF_ret (by simp [g_l_upon, e1, e2, e3, em, e4, e5]), p_windows (by omega) (by omega) (by omega) (by omega) hp, h5⟩
  · obtain ⟨r, s4, e4, r0, r1, h4⟩ := restM (n := n + 8) h3
    exact ⟨_, s4, runF_ret (by simp [g_l_upon, e1, e2, e3, em, e4]), p_marks r0 r1 hp, h4⟩
  · obtain ⟨z, s4, e4, wz, h4⟩ := wordM (n := n + 8) h3
    exact ⟨_, s4, runF_ret (by simp [g_l_upon, e1, e2, e3, em, e4]), p_wanted wz m0 m1 hp, h4⟩
end
end K91
end

section
set_option Elab.async false
set_option linter.all false
set_option maxRecDepth 100000
set_option maxHeartbeats 1000000
namespace K91
open PySem L2 G TL
def bP : Nat → Nat
  | 0 => 80
  | k + 1 => 6 * bP k + 1000
theorem bP80 (k : Nat) : 80 ≤ bP k := by
  induction k with
  | zero => exact Nat.le_refl _
  | succ k ih => unfold bP; omega
section
variable {i : Nat} {s0 st : Store}
theorem planM : ∀ (k n : Nat) (st : Store), k ≤ 4 → PI i s0 st → ∃ d st', fns (n + k + 12) .l_plan [.cell i, .int (k : Nat)] st = .ok d st' ∧ MPlan k (bP k) d ∧ PI i s0 st'
  | k, n, st, hk, h => by
    obtain ⟨w, s1, e1, w0, w1, h1⟩ := takeM (n := n + k + 10) h (m := 13) (by decide) (by decide)
    simp only [Nat.add_assoc, Nat.reduceAdd] at e1
    by_cases c : (k : Int) = 0 ∨ w = 12
    · obtain ⟨d, s2, e2, md, h2⟩ := leafM (n := n + k + 8) h1
      simp only [Nat.add_assoc, Nat.reduceAdd] at e2
      refine ⟨d, s2, runF_ret ?_, md.mono (Nat.zero_le k) (bP80 k), h2⟩
      rcases Nat.eq_zero_or_pos k with rfl | k0
      · simp [g_l_plan, e1, e2] at e1 e2 ⊢
      · have k' : ¬ (k = 0) := by omega
        have w12 : w = 12 := by omega
        simp [g_l_plan, Nat.add_assoc, e1, w12, k', e2]
    · obtain ⟨c0, c1⟩ := not_or.mp c
      obtain ⟨k, rfl⟩ : ∃ j, k = j + 1 := ⟨k - 1, by omega⟩
      have rc := fun (st : Store) (h : PI i s0 st) => planM k n st (by omega) h
      have nz : ¬ ((k : Int) + 1 = 0) := by omega
      have fu : n + (k + 1 + 11) = n + (k + 12) := by omega
      have fv : n + k + 12 = n + (k + 12) := by omega
      simp only [fv] at rc
      rw [fu] at e1
      have sb : ∀ st, dSub (.int ((k : Int) + 1)) (.int 1) st = some (.int (k : Nat)) := fun st => by simp
      by_cases c9 : w < 9
      · obtain ⟨p, s2, e2, mp, h2⟩ := rc s1 h1
        obtain ⟨d, s3, e3, md, h3⟩ := uponM (n := n + k + 1) (w := w) mp (by omega) w0 (by omega) h2
        simp only [Nat.add_assoc, Nat.reduceAdd] at e3
        rw [show n + (k + 12) = n + (k + 12) from rfl] at e3
        exact ⟨d, s3, runF_ret (by simp [g_l_plan, Nat.add_assoc, fu, e1, c1, nz, c9, sb, e2, e3]), md.mono (Nat.le_refl _) (by show _ ≤ 6 * bP k + 1000; omega), h3⟩
      · by_cases c10 : w = 9
        · obtain ⟨p, s2, e2, mp, h2⟩ := rc s1 h1
          obtain ⟨q, s3, e3, mq, h3⟩ := rc s2 h2
          exact ⟨_, s3, runF_ret (by simp [g_l_plan, Nat.add_assoc, fu, e1, c1, nz, c9, c10, sb, e2, e3]), p_spare (by omega) mp mq, h3⟩
        · obtain ⟨a, ha, a0, a1⟩ : ∃ a : Int, w - 10 = a ∧ 0 ≤ a ∧ a ≤ 1 := ⟨_, rfl, by omega, by omega⟩
          obtain ⟨m, s3, em, m0, m1, h3⟩ : ∃ (m : Int) (s3 : Store), eOp dAdd (eVar 3) (eCall (fns (n + (k + 12)) .l_take) [(eVar 0), (eIf (tVal (eOp dEq (eVar 1) (eC (.int 1)))) (eOp dIdx (eLst [(eC (.int 3)), (eC (.int 3)), (eOp dSub (eC (.int 7)) (eVar 3))]) (eCall (fns (n + (k + 12)) .l_take) [(eVar 0), (eC (.int 3))])) (eC (.int 3)))]) [some (.cell i), some (.int ((k : Int) + 1)), some (.int w), some (.int a), none, none] s1 = .ok (.int m) s3 ∧ a ≤ m ∧ m ≤ 6 ∧ PI i s0 s3 := by
            by_cases k1 : (k : Int) + 1 = 1
            · obtain ⟨t, s2, e2, t0, t1, h2⟩ := takeM (n := n + (k + 11)) h1 (m := 3) (by decide) (by decide)
              simp only [Nat.add_assoc, Nat.reduceAdd] at e2
              obtain ⟨x, hx, x0, x1⟩ : ∃ x : Int, (∀ st, dIdx (.lst [.int 3, .int 3, .int (7 - a)]) (.int t) st = some (.int x)) ∧ 0 < x ∧ x ≤ 7 - a := by
                rcases (by omega : t = 0 ∨ t = 1 ∨ t = 2) with rfl | rfl | rfl
                · exact ⟨3, fun st => rfl, by decide, by omega⟩
                · exact ⟨3, fun st => rfl, by decide, by omega⟩
                · exact ⟨7 - a, fun st => rfl, by omega, by omega⟩
              obtain ⟨y, s3, e3, y0, y1, h3⟩ := takeM (n := n + (k + 11)) h2 (m := x) x0 (by omega)
              simp only [Nat.add_assoc, Nat.reduceAdd] at e3
              exact ⟨a + y, s3, by simp [k1, e2, hx, e3], by omega, by omega, h3⟩
            · obtain ⟨y, s3, e3, y0, y1, h3⟩ := takeM (n := n + (k + 11)) h1 (m := 3) (by decide) (by decide)
              simp only [Nat.add_assoc, Nat.reduceAdd] at e3
              have k2 : ¬ ((k : Int) = 0) := by omega
              exact ⟨a + y, s3, by simp [k1, k2, e3], by omega, by omega, h3⟩
          obtain ⟨ys, s4, e4, h4, l4, a4⟩ := compGo_inv (i := 5) (env := [some (.cell i), some (.int ((k : Int) + 1)), some (.int w), some (.int a), some (.int m), none]) (fe := eCall (fns (n + (k + 12)) .l_plan) [(eVar 0), (eOp dSub (eVar 1) (eC (.int 1)))]) (PI i s0) (MPlan k (bP k)) (rangeD m.toNat) [] s3 (fun d _ st h => by
            obtain ⟨c, st', e, a, b⟩ := rc st h
            exact ⟨c, st', by simp [sb, e], b, a⟩) h3
          have l6 : ys.length = m.toNat := by rw [l4]; simp [rangeD]
          have e6 := eComp_of (vs := [5]) (st := s3) (env := [some (.cell i), some (.int ((k : Int) + 1)), some (.int w), some (.int a), some (.int m), none]) (fi := iRange (eVar 4)) (tg := tgName 5) (tt := fun _ => pure true) (iRange_at (st' := s3) (i := m) (eVar_at 4 rfl) (by omega) (by omega)) e4
          simp only [List.nil_append] at e6
          obtain ⟨x, hx, xx⟩ : ∃ x : Str, (∀ st, dIdx (.lst [.str "chain", .str "beside"]) (.int a) st = some (.str x)) ∧ (x = "chain" ∨ x = "beside" ∧ ys ≠ []) := by
            rcases (by omega : a = 0 ∨ a = 1) with rfl | rfl
            · exact ⟨"chain", fun st => rfl, .inl rfl⟩
            · exact ⟨"beside", fun st => rfl, .inr ⟨rfl, fun e => by rw [e] at l6; simp at l6; omega⟩⟩
          refine ⟨.tup [.str x, .tup ys], s4, runF_ret ?_, p_join x xx (by omega) (by omega) a4, h4⟩
          have q2 : ∀ st, dTuple [.lst ys] st = some (.tup ys) := fun st => rfl
          have en : ([D.cell i, .int ((k + 1 : Nat) : Int)].map some ++ List.replicate (6 - [D.cell i, D.int ((k + 1 : Nat) : Int)].length) none : Ev) = [some (.cell i), some (.int ((k : Int) + 1)), none, none, none, none] := rfl
          show g_l_plan (fns (n + (k + 1) + 11)) [some (.cell i), some (.int ((k : Int) + 1)), none, none, none, none] st = _
          rw [show n + (k + 1) + 11 = n + (k + 12) by omega]
          unfold g_l_plan
          have t1 : eCall (fns (n + (k + 12)) .l_take) [(eVar 0), (eC (.int 13))] [some (.cell i), some (.int ((k : Int) + 1)), none, none, none, none] st = .ok (.int w) s1 := by simp [e1]
          rw [sSeq_app, sAsg_app, t1, sb_ok, bnd_ok, nxt_nx]
          show (sSeq _ _) [some (.cell i), some (.int ((k : Int) + 1)), some (.int w), none, none, none] s1 = _
          have f1 : (sIf (tOr' (tVal (eOp dEq (eVar 1) (eC (.int 0)))) (tVal (eOp dEq (eVar 2) (eC (.int 12))))) (sRet (eCall (fns (n + (k + 12)) .l_leaf) [(eVar 0)])) sNop) [some (.cell i), some (.int ((k : Int) + 1)), some (.int w), none, none, none] s1 = .ok (.nx [some (.cell i), some (.int ((k : Int) + 1)), some (.int w), none, none, none]) s1 := by simp [nz, c1]
          rw [sSeq_app, f1, bnd_ok, nxt_nx, sSeq_app]
          have f2 : (sIf (tVal (eOp dLt (eVar 2) (eC (.int 9)))) (sRet (eCall (fns (n + (k + 12)) .l_upon) [(eVar 0), (eVar 2), (eCall (fns (n + (k + 12)) .l_plan) [(eVar 0), (eOp dSub (eVar 1) (eC (.int 1)))])])) sNop) [some (.cell i), some (.int ((k : Int) + 1)), some (.int w), none, none, none] s1 = .ok (.nx [some (.cell i), some (.int ((k : Int) + 1)), some (.int w), none, none, none]) s1 := by simp [c9]
          rw [f2, bnd_ok, nxt_nx, sSeq_app]
          have f3 : (sIf (tVal (eOp dEq (eVar 2) (eC (.int 9)))) (sRet (eTup [(eC (.str "spare")), (eCall (fns (n + (k + 12)) .l_plan) [(eVar 0), (eOp dSub (eVar 1) (eC (.int 1)))]), (eCall (fns (n + (k + 12)) .l_plan) [(eVar 0), (eOp dSub (eVar 1) (eC (.int 1)))])])) sNop) [some (.cell i), some (.int ((k : Int) + 1)), some (.int w), none, none, none] s1 = .ok (.nx [some (.cell i), some (.int ((k : Int) + 1)), some (.int w), none, none, none]) s1 := by simp [c10]
          rw [f3, bnd_ok, nxt_nx, sSeq_app, sAsg_app]
          have f4 : eOp dSub (eVar 2) (eC (.int 10)) [some (.cell i), some (.int ((k : Int) + 1)), some (.int w), none, none, none] s1 = .ok (.int a) s1 := by simp [ha]
          rw [f4, sb_ok, bnd_ok, nxt_nx]
          show (sSeq _ _) [some (.cell i), some (.int ((k : Int) + 1)), some (.int w), some (.int a), none, none] s1 = _
          rw [sSeq_app, sAsg_app, em, sb_ok, bnd_ok, nxt_nx]
          show (sRet _) [some (.cell i), some (.int ((k : Int) + 1)), some (.int w), some (.int a), some (.int m), none] s3 = _
          have f6 : eOp dIdx (eLst [(eC (.str "chain")), (eC (.str "beside"))]) (eVar 3) [some (.cell i), some (.int ((k : Int) + 1)), some (.int w), some (.int a), some (.int m), none] s3 = .ok (.str x) s3 := by simp [hx]
          rw [sRet_app, eTup_app, aSeq_cons, f6, bnd_ok, aSeq_cons, eB_app, aSeq_cons, e6, bnd_ok, aSeq_nil, bnd_ok, bnd_ok, q2, lif_some, bnd_ok, aSeq_nil, bnd_ok, bnd_ok, bnd_ok, sb_ok]
/-! ### tall and deep -/
theorem tallM {n : Nat} (h : PI i s0 st) : ∃ d st', fns (n + 12) .l_tall [.cell i] st = .ok d st' ∧ MPlan 18 14480 d ∧ PI i s0 st' := by
  obtain ⟨d0, s1, e1, m0, h1⟩ := leafM (n := n + 8) h
  simp only [Nat.add_assoc, Nat.reduceAdd] at e1
  obtain ⟨env, s2, ⟨h2, d, o, md, rfl⟩, lp⟩ := forGo_inv (i := 2) (g := sAsg 1 (eCall (fns (n + 11) .l_upon) [(eVar 0), (eOp dIdx (eLst [(eC (.int 0)), (eC (.int 3)), (eC (.int 4)), (eC (.int 5)), (eC (.int 5)), (eC (.int 7))]) (eCall (fns (n + 11) .l_take) [(eVar 0), (eC (.int 6))])), (eVar 1)])) (rangeD 18) (fun k env st' => PI i s0 st' ∧ ∃ d o, (k ≤ 18 → MPlan k (80 + 800 * k) d) ∧ env = [some (.cell i), some d, o]) [some (.cell i), some d0, none] s1 ⟨h1, d0, none, fun _ => m0, rfl⟩ (fun k x hx env st' ⟨hh, d, o, md, e⟩ => by
    subst e
    have hk : k < 18 := (rangeD_at hx).1
    obtain ⟨r, s3, e3, r0, r1, h3⟩ := takeM (n := n + 10) hh (m := 6) (by decide) (by decide)
    simp only [Nat.add_assoc, Nat.reduceAdd] at e3
    obtain ⟨w, hw, w0, w8⟩ : ∃ w : Int, (∀ st, dIdx (.lst [.int 0, .int 3, .int 4, .int 5, .int 5, .int 7]) (.int r) st = some (.int w)) ∧ 0 ≤ w ∧ w ≤ 8 := by
      rcases (by omega : r = 0 ∨ r = 1 ∨ r = 2 ∨ r = 3 ∨ r = 4 ∨ r = 5) with rfl | rfl | rfl | rfl | rfl | rfl
      · exact ⟨0, fun st => rfl, by decide, by decide⟩
      · exact ⟨3, fun st => rfl, by decide, by decide⟩
      · exact ⟨4, fun st => rfl, by decide, by decide⟩
      · exact ⟨5, fun st => rfl, by decide, by decide⟩
      · exact ⟨5, fun st => rfl, by decide, by decide⟩
      · exact ⟨7, fun st => rfl, by decide, by decide⟩
    obtain ⟨d', s4, e4, m4, h4⟩ := uponM (n := n) (w := w) (md (by omega)) (by omega) w0 w8 h3
    exact ⟨_, s4, ⟨h4, d', some x, fun _ => m4.mono (Nat.le_refl _) (by omega), rfl⟩, by simp [e3, hw, e4]⟩)
  refine ⟨d, s2, runF_ret ?_, md (by decide), h2⟩
  have rg : iRange (eC (.int 18)) [some (.cell i), some d0, none] s1 = .ok (rangeD 18) s1 := iRange_at (i := 18) (by rfl) (by decide) (by decide)
  simp [g_l_tall, e1, rg, lp]
theorem deepM {n : Nat} (h : PI i s0 st) : ∃ d st', fns (n + 6) .l_deep [.cell i] st = .ok d st' ∧ MPlan 7 880 d ∧ PI i s0 st' := by
  obtain ⟨k0, s1, e1, m0, h1⟩ := lookM 0 n st h
  simp only [Nat.mul_zero, Nat.add_zero] at e1
  have e1' : fns (n + 5) .l_look [.cell i, .int 0] st = .ok k0 s1 := e1
  obtain ⟨env, s2, ⟨h2, d, o, md, rfl⟩, lp⟩ := forGo_inv (i := 2) (g := sAsg 1 (eTup [(eTup [(eC (.str "after")), (eCall (fns (n + 5) .l_rule) [(eVar 0)]), (eVar 1)])])) (rangeD 8) (fun k env st' => PI i s0 st' ∧ ∃ d o, MTest k (9 + 44 * k) d ∧ env = [some (.cell i), some d, o]) [some (.cell i), some (.tup [k0]), none] s1 ⟨h1, .tup [k0], none, m_test1 m0, rfl⟩ (fun k x hx env st' ⟨hh, d, o, md, e⟩ => by
    subst e
    obtain ⟨r, s3, e3, mr, h3⟩ := rule (n := n + 1) hh
    simp only [Nat.add_assoc, Nat.reduceAdd] at e3
    exact ⟨_, s3, ⟨h3, .tup [.tup [.str "after", r, d]], some x, (m_test1 (lk_after mr md)).le (by omega), rfl⟩, by simp [e3]⟩)
  have rg : iRange (eC (.int 8)) [some (.cell i), some (.tup [k0]), none] s1 = .ok (rangeD 8) s1 := iRange_at (i := 8) (by rfl) (by decide) (by decide)
  obtain ⟨r, s3, e3, r0, r1, h3⟩ := takeM (n := n + 4) h2 (m := 2) (by decide) (by decide)
  obtain ⟨p, s4, e4, mp, h4⟩ := leafM (n := n + 2) h3
  simp only [Nat.add_assoc, Nat.reduceAdd] at e3 e4
  have mt : MTest 8 790 d := MTest.le (B := 9 + 44 * 8) md (by decide)
  rcases (by omega : r = 0 ∨ r = 1) with rfl | rfl
  · exact ⟨_, s4, runF_ret (by simp [g_l_deep, e1', rg, lp, e3, e4]), p_sieve (h := 6) (by decide) (by decide) mt (mp.mono (by decide) (Nat.le_refl _)), h4⟩
  · exact ⟨_, s4, runF_ret (by simp [g_l_deep, e1', rg, lp, e3, e4]), p_upto (h := 6) (by decide) (by decide) mt (mp.mono (by decide) (Nat.le_refl _)), h4⟩
theorem boundedM {n : Nat} (h : PI i s0 st) : ∃ d st', fns (n + 17) .l_bounded [.cell i] st = .ok d st' ∧ MPlan 18 380000 d ∧ PI i s0 st' := by
  obtain ⟨r, s1, e1, r0, r1, h1⟩ := takeM (n := n + 15) h (m := 8) (by decide) (by decide)
  simp only [Nat.add_assoc, Nat.reduceAdd] at e1
  by_cases c : 5 < r
  · by_cases c6 : r = 6
    · obtain ⟨d, s2, e2, md, h2⟩ := tallM (n := n + 4) h1
      simp only [Nat.add_assoc, Nat.reduceAdd] at e2
      exact ⟨d, s2, runF_ret (by simp [g_l_bounded, e1, c6, e2]), md.mono (by decide) (by decide), h2⟩
    · obtain ⟨d, s2, e2, md, h2⟩ := deepM (n := n + 10) h1
      simp only [Nat.add_assoc, Nat.reduceAdd] at e2
      exact ⟨d, s2, runF_ret (by simp [g_l_bounded, e1, c, c6, e2]), md.mono (by decide) (by decide), h2⟩
  · obtain ⟨d, s2, e2, md, h2⟩ := planM 4 n s1 (by decide) h1
    obtain ⟨k, hk⟩ := md.pt
    have e3 := hk s2 (n + 16) (by omega)
    have e2' : fns (n + 16) .l_plan [.cell i, .int 4] s1 = .ok d s2 := e2
    by_cases c60 : 60 < k
    · obtain ⟨d', s4, e4, md', h4⟩ := planM 2 (n + 2) s2 (by decide) h2
      have e4' : fns (n + 16) .l_plan [.cell i, .int 2] s2 = .ok d' s4 := e4
      exact ⟨d', s4, runF_ret (by simp [g_l_bounded, e1, c, e2', e3, c60, e4']), md'.mono (by decide) (by decide), h4⟩
    · exact ⟨d, s2, runF_ret (by simp [g_l_bounded, e1, c, e2', e3, c60]), md.mono (by decide) (by decide), h2⟩
end
end K91
end

section
set_option Elab.async false
set_option linter.all false
set_option maxRecDepth 100000
set_option maxHeartbeats 1000000
namespace K91
open PySem L2 G TL
theorem runF_nx {n : Nat} {g : Ev → M Fl} {ds : List D} {st st' : Store} {env : Ev} (h : g (ds.map some ++ List.replicate (n - ds.length) none) st = .ok (.nx env) st') : runF n g ds st = .ok .non st' := by
  show (noErr _ >>= _) st = _
  rw [bind_app, noErr_app, h]
  rfl
theorem eJoin_app (fa fb : Ev → M D) (env : Ev) (st : Store) : eJoin fa fb env st = (fa env st).bnd fun d st => (asS d st).bnd fun z st => (fb env st).bnd fun y st => lif (dJoin (.str z) y st) st := by
  show (fa env >>= _) st = _
  simp only [bind_app]
  congr 1
theorem Th.ne : ∀ {h : Nat} {s : So} {d : D} {ws : List Str}, Th h s d ws → ws ≠ []
  | 0, s, d, ws, t => by
    rcases t with ⟨_, i, _, _, rfl⟩ | ⟨_, z, _, _, rfl⟩ <;> simp
  | h + 1, s, d, ws, t => by
    rcases t with t | ⟨e, l, w, e1, e2, e3, e4, rfl⟩ | ⟨x, ss, ds, w, e1, e2, e3, rfl⟩
    · rcases t with ⟨_, i, _, _, rfl⟩ | ⟨_, z, _, _, rfl⟩ <;> simp
    · simp
    · simp
theorem sum_le : ∀ (ws : List Str), (∀ z ∈ ws, z.length ≤ 32) → (ws.map (·.length)).sum ≤ ws.length * 32
  | [], _ => by simp
  | z :: ws, h => by
    have h1 := h z (by simp)
    have h2 := sum_le ws fun y hy => h y (by simp [hy])
    simp only [List.map_cons, List.sum_cons, List.length_cons, Nat.succ_mul]
    omega
theorem joinL_len (y : List Nat) : ∀ (xs : List (List Nat)), (joinL y xs).length ≤ (xs.map List.length).sum + xs.length * y.length
  | [] => by simp [joinL]
  | [x] => by simp [joinL]
  | x :: z :: r => by
    have ih := joinL_len y (z :: r)
    show (x ++ (y ++ joinL y (z :: r))).length ≤ _
    simp only [List.length_append, List.map_cons, List.sum_cons, List.length_cons, Nat.succ_mul] at ih ⊢
    omega
/-- the text of a plan -/
structure Tx (ws : List Str) : Prop where
  ne : ws ≠ []
  len : ws.length ≤ 380001
  ok : ∀ z ∈ ws, WdOk z
theorem sp1 : (" " : Str).length = 1 := by decide +kernel
section
variable {ws : List Str}
abbrev tx (ws : List Str) : Str := Txt.join " " ws
theorem Tx.join (h : Tx ws) (st : Store) : dJoin (.str " ") (.lst (ws.map .str)) st = some (.str (tx ws)) := by
  have s := sum_le ws fun z hz => (h.ok z hz).1
  have := h.len
  simp only [dJoin, strs_map, sp1]
  rw [if_pos (by omega)]
theorem Tx.size (h : Tx ws) : (tx ws).length + 2 ≤ sizeLine := by
  have s := sum_le ws fun z hz => (h.ok z hz).1
  have := h.len
  have e0 : tl (" " : Str) = [32] := by decide +kernel
  have q := joinL_len [32] (ws.map tl)
  rw [List.map_map] at q
  have e1 : (ws.map (List.length ∘ tl)) = ws.map (·.length) := List.map_congr_left fun z _ => (len_tl z).symm
  rw [e1] at q
  have e2 : (tx ws).length = (joinL [32] (ws.map tl)).length := by
    rw [len_tl, tx, TL.join_eq, tl_join, e0]
  rw [e2]
  simp only [List.length_map, List.length_cons, List.length_nil] at q
  have : sizeLine = 16777216 := by decide
  omega
theorem Tx.split (h : Tx ws) (st : Store) : dSplit (.str (tx ws)) (.str " ") st = some (.lst (ws.map .str)) := by
  have e := TL.split_join (y := " ") (s := 32) (S := []) (by decide +kernel) (by decide +kernel) (parts := ws) h.ne fun p hp => (h.ok p hp).2
  have := h.len
  have : sizeLine = 16777216 := by decide
  have c : ((" " : Str).length == 0) = false ∧ (tx ws).length + 2 ≤ sizeLine ∧ (Txt.split (tx ws) " ").length ≤ sizeLine := ⟨by rw [sp1]; rfl, h.size, by rw [e]; omega⟩
  simp only [dSplit]
  rw [if_pos c, e]
end
theorem new_words {W : List Str} {n : Nat} {st : Store} : fns (n + 2) .new_Words [.lst (W.map .str)] st = .ok (.cell st.length) (st ++ [insW W 0]) := by
  show newIns "Words" (fns (n + 1) .Words_init) _ _ = _
  have e : fns (n + 1) .Words_init [.cell st.length, .lst (W.map .str)] (st ++ [.ins "Words" []]) = .ok .non (st ++ [insW W 0]) := by
    refine runF_nx (env := [some (.cell st.length), some (.lst (W.map .str))]) ?_
    have g0 : (st ++ [Cell.ins "Words" []])[st.length]? = some (.ins "Words" []) := by simp
    have g1 : (st ++ [Cell.ins "Words" [("all_words", D.lst (W.map .str))]])[st.length]? = some (.ins "Words" [("all_words", D.lst (W.map .str))]) := by simp
    have s0 : setFld "Words" "all_words" (.cell st.length) (.lst (W.map .str)) (st ++ [.ins "Words" []]) = .ok () (st ++ [.ins "Words" [("all_words", .lst (W.map .str))]]) := by
      unfold setFld insAt
      simp [putFD]
    have ne : ¬ (("all_words" : Str) = "many_read") := by decide +kernel
    have s1 : setFld "Words" "many_read" (.cell st.length) (.int 0) (st ++ [.ins "Words" [("all_words", .lst (W.map .str))]]) = .ok () (st ++ [insW W 0]) := by
      unfold setFld insAt
      simp [putFD, ne]
    simp [g_Words_init, s0, s1]
  unfold newIns
  rw [e]
section
variable {d : D} {st : Store}
theorem plan_tx {ws : List Str} {h B n : Nat} (hp : MPlan h B d) (t : Th (2 * h + 6) .pln d ws) (x : Tx ws) (h20 : h ≤ 20) (hn : 2 * h + 14 ≤ n) : ∃ e, fns (n + 1) .plan_text [d] st = .ok (.str (tx ws)) (st ++ e) := by
  obtain ⟨e, h1⟩ := words_for_is (by omega) t (by have := x.len; omega) n st (by omega)
  refine ⟨e, runF_ret ?_⟩
  have j := x.join
  simp [g_plan_text, hp.is st n hn, eJoin_app, h1, j]
theorem read_tx {ws : List Str} {h B n : Nat} (hp : MPlan h B d) (t : Th (2 * h + 6) .pln d ws) (x : Tx ws) (h20 : h ≤ 20) (hn : 4 * h + 17 ≤ n) : ∃ e, fns (n + 1) .read_plan [.str (tx ws)] st = .ok d (st ++ e) := by
  obtain ⟨m, rfl⟩ : ∃ m, n = m + 2 := ⟨n - 2, by omega⟩
  have n1 := new_words (W := ws) (n := m) (st := st)
  have at0 : At ws 0 ws := fun k z hz => by simpa using hz
  have g0 : (st ++ [insW ws 0])[st.length]? = some (insW ws ((0 : Nat) : Int)) := by simp
  have r := read_is t (m + 2) ws st.length 0 (by omega) (by decide) (by omega) 0 _ at0 g0
  have ch := chk_of g0 lk_thing_of
  have ss : (st ++ [insW ws 0]).set st.length (insW ws ((0 + ws.length : Nat) : Int)) = st ++ [insW ws (ws.length : Nat)] := by simp
  rw [ss] at r
  have g1 : (st ++ [insW ws ((ws.length : Nat) : Int)])[st.length]? = some (insW ws ((ws.length : Nat) : Int)) := by simp
  have ch2 := chk_of g1 lk_is_read
  have ir := is_read_is (n := m + 1) g1
  rw [decide_eq_true rfl] at ir
  refine ⟨[insW ws (ws.length : Nat)], runF_ret ?_⟩
  have nm : So.pln.nm = "plan" := rfl
  rw [nm] at r
  have ip := fun st => hp.is st (m + 2) (by omega)
  have sp := x.split
  have ist : ∀ (z : Str) (st : Store), dIsT "str" (.str z) st = some (.bl true) := fun z st => rfl
  generalize tx ws = z at *
  show g_read_plan (fns (m + 2)) [some (.str z), none, none] st = _
  unfold g_read_plan
  have f1 : (sIf (tNot' (tVal (eUn (dIsT "str") (eVar 0)))) (sRaise "NoText" (eC (.str "no text"))) sNop) [some (.str z), none, none] st = .ok (.nx [some (.str z), none, none]) st := by simp [ist]
  have f2 : eCall (fns (m + 2) .new_Words) [(eSplit (eVar 0) (eC (.str " ")))] [some (.str z), none, none] st = .ok (.cell st.length) (st ++ [insW ws 0]) := by simp [sp, n1]
  have f3 : eMeth "Words" "thing_of" (fns (m + 2) .Words_thing_of) (eVar 1) [(eC (.str "plan")), (eC (.int 0))] [some (.str z), some (.cell st.length), none] (st ++ [insW ws 0]) = .ok d (st ++ [insW ws (ws.length : Nat)]) := by
    rw [eMeth_app, eVar_at 1 (d := .cell st.length) (by rfl), bnd_ok, ch, bnd_ok, aSeq_cons, eC_app, bnd_ok, aSeq_cons, eC_app, bnd_ok, aSeq_nil, bnd_ok, bnd_ok, bnd_ok, r]
  have f4 : eMeth "Words" "is_read" (fns (m + 2) .Words_is_read) (eVar 1) [] [some (.str z), some (.cell st.length), some d] (st ++ [insW ws (ws.length : Nat)]) = .ok (.bl true) (st ++ [insW ws (ws.length : Nat)]) := by
    rw [eMeth_app, eVar_at 1 (d := .cell st.length) (by rfl), bnd_ok, ch2, bnd_ok, aSeq_nil, bnd_ok, ir]
  rw [sSeq_app, f1, bnd_ok, nxt_nx, sSeq_app, sAsg_app, f2, sb_ok, bnd_ok, nxt_nx]
  show (sSeq _ _) [some (.str z), some (.cell st.length), none] (st ++ [insW ws 0]) = _
  rw [sSeq_app, sAsg_app, f3, sb_ok, bnd_ok, nxt_nx]
  show (sSeq _ _) [some (.str z), some (.cell st.length), some d] (st ++ [insW ws (ws.length : Nat)]) = _
  have f5 : (sIf (tOr' (tNot' (tVal (eMeth "Words" "is_read" (fns (m + 2) .Words_is_read) (eVar 1) []))) (tNot' (tVal (eCall (fns (m + 2) .is_plan) [(eVar 2)])))) (sRaise "NoText" (eC (.str "no plan's text"))) sNop) [some (.str z), some (.cell st.length), some d] (st ++ [insW ws (ws.length : Nat)]) = .ok (.nx [some (.str z), some (.cell st.length), some d]) (st ++ [insW ws (ws.length : Nat)]) := by
    generalize (st ++ [insW ws ((ws.length : Nat) : Int)]) = s9 at *
    simp only [Nat.add_assoc, Nat.reduceAdd] at ir
    simp [ch2, ir, ip]
  rw [sSeq_app, f5, bnd_ok, nxt_nx, sRet_app, eVar_at 2 (d := d) (by rfl), sb_ok]
end
end K91
end

section
set_option Elab.async false
set_option linter.all false
set_option maxRecDepth 100000
set_option maxHeartbeats 1000000
namespace K91
open PySem L2 G TL
theorem l_p : So.pln.l = .str "p" := by kernel_rfl
theorem right {d : D} (hp : MPlan 18 380000 d) (st : Store) : ∃ e, fns 99 .l_right [d] st = .ok (.bl true) (st ++ e) := by
  obtain ⟨ws, t⟩ := hp.th
  have wd := Th.wd t
  have x : Tx ws := ⟨Th.ne t, by have := hp.bk; omega, wd.2⟩
  obtain ⟨s, hs⟩ := repr_txt (d := d) hp.sh (by decide) (Nat.le_trans hp.bk (by decide))
  obtain ⟨a1, e1⟩ := l_words_is t (by have := x.len; omega) 98 st (by decide)
  rw [l_p] at e1
  have e2 := fun st => hp.is st 98 (by decide)
  obtain ⟨a3, e3⟩ := plan_tx (n := 97) (st := st ++ a1) hp t x (by decide) (by decide)
  obtain ⟨a4, e4⟩ := plan_tx (n := 97) (st := st ++ a1 ++ a3) hp t x (by decide) (by decide)
  obtain ⟨a5, e5⟩ := read_tx (n := 97) (st := st ++ a1 ++ a3 ++ a4) hp t x (by decide) (by decide)
  obtain ⟨a6, e6⟩ := read_tx (n := 97) (st := st ++ a1 ++ a3 ++ a4 ++ a5) hp t x (by decide) (by decide)
  obtain ⟨a7, e7⟩ := plan_tx (n := 97) (st := st ++ a1 ++ a3 ++ a4 ++ a5 ++ a6) hp t x (by decide) (by decide)
  refine ⟨a1 ++ (a3 ++ (a4 ++ (a5 ++ (a6 ++ a7)))), runF_ret ?_⟩
  have ap : st ++ (a1 ++ (a3 ++ (a4 ++ (a5 ++ (a6 ++ a7))))) = st ++ a1 ++ a3 ++ a4 ++ a5 ++ a6 ++ a7 := by simp only [List.append_assoc]
  rw [ap]
  simp only [Nat.reduceAdd] at e3 e4 e5 e6 e7
  have j := x.join
  have eqS : ∀ (z : Str) (st : Store), dEqS (.str z) (.str z) st = some (.bl true) := fun z st => by simp [dEqS]
  have neS : ∀ (z : Str) (st : Store), dNeS (.str z) (.str z) st = some (.bl false) := fun z st => by simp [dNeS]
  have nb : ∀ st, dNotB (.bl true) (.bl true) st = some (.bl false) := fun st => rfl
  have ist : ∀ (z : Str) (st : Store), dIsT "str" (.str z) st = some (.bl true) := fun z st => rfl
  generalize tx ws = z at *
  generalize st ++ a1 = s1 at *
  generalize s1 ++ a3 = s2 at *
  generalize s2 ++ a4 = s3 at *
  generalize s3 ++ a5 = s4 at *
  generalize s4 ++ a6 = s5 at *
  generalize s5 ++ a7 = s6 at *
  have r : ∀ st, dReprA [d] st = some (.str s) := hs
  show g_l_right (fns 98) [some d, none, none] st = _
  unfold g_l_right
  have f1 : eJoin (eC (.str " ")) (eCall (fns 98 .l_words) [(eC (.str "p")), (eVar 0)]) [some d, none, none] st = .ok (.str z) s1 := by simp [eJoin_app, e1, j]
  rw [sSeq_app, sAsg_app, f1, sb_ok, bnd_ok, nxt_nx]
  show (sSeq _ _) [some d, some (.str z), none] s1 = _
  have f2 : ∀ o1 o2 st, eB dReprA [(eVar 0)] [some d, o1, o2] st = .ok (.str s) st := fun o1 o2 st => by simp [r]
  rw [sSeq_app, sAsg_app, f2, sb_ok, bnd_ok, nxt_nx]
  show (sSeq _ _) [some d, some (.str z), some (.str s)] s1 = _
  have f3 : (sIf (tOr' (tVal (eOp dNotB (eCall (fns 98 .is_plan) [(eVar 0)]) (eC (.bl true)))) (tOr' (tVal (eOp dNeS (eCall (fns 98 .plan_text) [(eVar 0)]) (eVar 1))) (tNot' (tVal (eUn (dIsT "str") (eCall (fns 98 .plan_text) [(eVar 0)])))))) (sRet (eC (.bl false))) sNop) [some d, some (.str z), some (.str s)] s1 = .ok (.nx [some d, some (.str z), some (.str s)]) s3 := by
    simp [e2, nb, e3, neS, e4, ist]
  rw [sSeq_app, f3, bnd_ok, nxt_nx, sRet_app, eAnd_app]
  have f4 : eOp dEqS (eB dReprA [(eCall (fns 98 .read_plan) [(eVar 1)])]) (eVar 2) [some d, some (.str z), some (.str s)] s3 = .ok (.bl true) s4 := by simp [e5, r, eqS]
  have f5 : eOp dEqS (eCall (fns 98 .plan_text) [(eCall (fns 98 .read_plan) [(eVar 1)])]) (eVar 1) [some d, some (.str z), some (.str s)] s4 = .ok (.bl true) s6 := by simp [e6, e7, eqS]
  have f6 : eOp dEqS (eB dReprA [(eVar 0)]) (eVar 2) [some d, some (.str z), some (.str s)] s6 = .ok (.bl true) s6 := by simp [r, eqS]
  rw [f4, bnd_ok, asB_bl, bnd_ok]
  simp only [if_true]
  rw [eAnd_app, f5, bnd_ok, asB_bl, bnd_ok]
  simp only [if_true]
  rw [f6, sb_ok]
theorem l_pot_is {ns : List Int} {k : Nat} {st : Store} (h : st[0]? = some (.ro (ns.map D.int))) (hk : k ≤ 6) : ∃ c, fns 99 .l_pot [.cell 0, .int (k : Nat)] st = .ok (.cell st.length) (st ++ [c]) ∧ PotC c := by
  have cl : cellL st 0 = some (ns.map D.int) := by unfold cellL; rw [h]
  have ln : dLen [.cell 0] st = some (.int ns.length) := by simp [dLen, cl]
  obtain ⟨z, hz⟩ : ∃ z : Int, eIf (tVal (eOp dLt (eVar 1) (eB dLen [(eVar 0)]))) (eOp dIdx (eVar 0) (eVar 1)) (eC (.int 0)) [some (.cell 0), some (.int (k : Nat)), none, none] st = .ok (.int z) st := by
    by_cases hl : k < ns.length
    · refine ⟨ns[k], ?_⟩
      have ix : dIdx (.cell 0) (.int (k : Nat)) st = some (.int ns[k]) := dIdx_cn cl (by simp [hl])
      simp [ln, hl, ix]
    · exact ⟨0, by simp [ln, hl]⟩
  have m1 : ∀ (z : Int) st, dMod (.int z) (.int 2147483629) st = some (.int (z % 2147483629)) := fun z st => dMod_of (by decide)
  have m3 : ∀ (z : Int) st, dMod (.int z) (.int 2147483647) st = some (.int (z % 2147483647)) := fun z st => dMod_of (by decide)
  have b1 := Int.emod_nonneg z (by decide : (2147483629 : Int) ≠ 0)
  have b2 := Int.emod_lt_of_pos z (by decide : (0 : Int) < 2147483629)
  obtain ⟨y, hy⟩ : ∃ y, z % 2147483629 + 1 = y := ⟨_, rfl⟩
  have m4 : ∀ st, dMul (.int y) (.int 48271) st = some (.int (y * 48271)) := fun st => dMul_of (mulOk_of (a := 31) (b := 16) (by omega) (by decide) (by decide) (by decide))
  obtain ⟨q, hq⟩ : ∃ q, y * 48271 % 2147483647 = q := ⟨_, rfl⟩
  have q0 : 0 ≤ q := by rw [← hq]; exact Int.emod_nonneg _ (by decide)
  have q1 : q < 2147483647 := by rw [← hq]; exact Int.emod_lt_of_pos _ (by decide)
  have m5 : ∀ st, dMul (.int q) (.int q) st = some (.int (q * q)) := fun st => dMul_of (mulOk_of (a := 31) (b := 31) (by omega) (by omega) (by decide) (by decide))
  have m2 : ∀ st, dMul (.int 7919) (.int (k : Nat)) st = some (.int (7919 * (k : Nat))) := fun st => dMul_of (mulOk_of (a := 13) (b := 3) (by decide) (by omega) (by decide) (by decide))
  have c1 := Int.emod_nonneg (q * q) (by decide : (2147483629 : Int) ≠ 0)
  have c2 := Int.emod_lt_of_pos (q * q) (by decide : (0 : Int) < 2147483629)
  obtain ⟨v, hv⟩ : ∃ v, q * q % 2147483629 = v := ⟨_, rfl⟩
  rw [hv] at c1 c2
  obtain ⟨w, hw⟩ : ∃ w : Int, ∀ st, dMax2 [.int 0, .int (z - 1000000000000000000)] st = some (.int w) := ⟨_, fun st => rfl⟩
  refine ⟨.lst [.int w, .int (v + 7919 * (k : Nat) + 1)], runF_ret ?_, _, _, rfl, by omega, by omega⟩
  simp only [g_l_pot, sSeq_app, sAsg_app, List.map_cons, List.map_nil, List.length_cons, List.length_nil, Nat.reduceAdd, Nat.reduceSub, List.replicate, List.cons_append, List.nil_append]
  rw [hz]
  simp [p18, m1, m2, m3, hy, m4, hq, m5, hv, hw]
theorem comp_true {fe : Ev → M D} {env : Ev} {i : Nat} : ∀ (l : List D) (acc : List D) (st : Store), (∀ d ∈ l, ∀ st, ∃ e, fe (env.set i (some d)) st = .ok (.bl true) (st ++ e)) → ∃ st', compGo (tgName i) (fun _ => pure true) fe env l acc st = .ok (acc ++ l.map fun _ => .bl true) st' := fun l acc st h => by
  obtain ⟨ys, s2, e2, h2, l2, a2⟩ := compGo_inv (i := i) (env := env) (fe := fe) (fun _ => True) (fun y => y = .bl true) l acc st (fun d hd st _ => by
    obtain ⟨e, h⟩ := h d hd st
    exact ⟨_, _, h, trivial, rfl⟩) trivial
  refine ⟨s2, ?_⟩
  rw [e2]
  congr 2
  refine List.ext_getElem? fun k => ?_
  by_cases hk : k < ys.length
  · rw [List.getElem?_eq_getElem hk, a2 _ (List.getElem_mem hk), List.getElem?_map, List.getElem?_eq_getElem (by omega)]
    rfl
  · rw [List.getElem?_eq_none (by omega), List.getElem?_eq_none (by simp; omega)]
theorem tells_true : ∀ ns : List Int, ns.length ≤ 63 → (∀ z ∈ ns, Builtin.Int.intBits z ≤ 1048576) → ∃ st', fns 100 .law [.cell 0] [.ro (ns.map D.int)] = .ok (.bl true) st' := by
  intro ns _ _
  obtain ⟨m, hm, em⟩ : ∃ m : Nat, m ≤ 6 ∧ eB dMax2 [(eC (.int 1)), (eB dMin2 [(eC (.int 6)), (eB dLen [(eVar 0)])])] [some (.cell 0), some (.cell 1), none, none] [.ro (ns.map D.int), .lst []] = .ok (.int (m : Nat)) [.ro (ns.map D.int), .lst []] := by
    have ln : dLen [.cell 0] [.ro (ns.map D.int), .lst []] = some (.int ns.length) := by simp [dLen, cellL]
    refine ⟨max 1 (min 6 ns.length), by omega, ?_⟩
    simp [ln, dMin2, dMax2]
    split <;> split <;> omega
  have rg := iRange_at em (by omega) (by omega)
  have tn : ((m : Nat) : Int).toNat = m := by omega
  rw [tn] at rg
  obtain ⟨env, st', ⟨_, l, hl, ll, al, o, rfl⟩, e⟩ := forGo_inv (i := 2) (g := sExpr (eLm gAppend (eVar 1) [(eCall (fns 99 .l_bounded) [(eCall (fns 99 .l_pot) [(eVar 0), (eVar 2)])])])) (rangeD m) (fun k env st => st[0]? = some (.ro (ns.map D.int)) ∧ ∃ l, st[1]? = some (.lst l) ∧ l.length = k ∧ (∀ x ∈ l, MPlan 18 380000 x) ∧ ∃ o, env = [some (.cell 0), some (.cell 1), o, none]) [some (.cell 0), some (.cell 1), none, none] [.ro (ns.map D.int), .lst []] ⟨rfl, [], rfl, rfl, by simp, none, rfl⟩ (fun k d hk env st ⟨h0, l, hl, ll, al, o, he⟩ => by
    subst he
    obtain ⟨hlt, rfl⟩ := rangeD_at hk
    obtain ⟨c, e1, pc⟩ := l_pot_is (k := k) h0 (by omega)
    have h1 : 1 < st.length := (List.getElem?_eq_some_iff.mp hl).1
    have pi : PI st.length (st ++ [c]) (st ++ [c]) := ⟨⟨c, by simp, pc⟩, rfl, fun _ _ => rfl⟩
    obtain ⟨p, s2, e2, mp, h2⟩ := boundedM (n := 82) pi
    simp only [Nat.reduceAdd] at e2
    have g0 : s2[0]? = some (.ro (ns.map D.int)) := by rw [h2.rest 0 (by omega), List.getElem?_append_left (by omega)]; exact h0
    have g1 : s2[1]? = some (.lst l) := by rw [h2.rest 1 (by omega), List.getElem?_append_left (by omega)]; exact hl
    have l2 : 1 < s2.length := (List.getElem?_eq_some_iff.mp g1).1
    refine ⟨[some (.cell 0), some (.cell 1), some (.int (k : Nat)), none], s2.set 1 (.lst (l ++ [p])), ⟨?_, l ++ [p], ?_, by simp [ll], fun x hx => ?_, _, rfl⟩, ?_⟩
    · rw [List.getElem?_set_ne (by decide)]; exact g0
    · rw [List.getElem?_set_self l2]
    · rcases List.mem_append.mp hx with hx | hx
      · exact al x hx
      · rw [List.mem_singleton.mp hx]; exact mp
    · have ck : chkL (.cell 1) st = .ok () st := by unfold chkL isLst; simp [hl]
      have up : updL (.cell 1) (fun l => gAppend l [p]) s2 = .ok .non (s2.set 1 (.lst (l ++ [p]))) := by
        have : l.length < sizeLine := by rw [ll]; exact Nat.lt_of_lt_of_le (by omega : k < 6) (by decide)
        simp only [updL, g1, gAppend, if_pos this]
      have a1 : (([some (.cell 0), some (.cell 1), o, none] : Ev).set 2 (some (.int (k : Nat)))) = [some (.cell 0), some (.cell 1), some (.int (k : Nat)), none] := rfl
      rw [a1, sExpr_app, eLm_app, eVar_at 1 (d := .cell 1) (by rfl), bnd_ok, ck, bnd_ok]
      simp [e1, e2, up])
  have lm : l.length = m := by rw [ll]; simp [rangeD]
  have cm : ∃ st2, compGo (tgName 3) (fun _ => pure true) (eCall (fns 99 .l_right) [(eVar 3)]) [some (.cell 0), some (.cell 1), o, none] (l ++ l.reverse) [] st' = .ok ([] ++ (l ++ l.reverse).map fun _ => .bl true) st2 := comp_true (l ++ l.reverse) [] st' fun d hd st => by
    have md : MPlan 18 380000 d := by
      rcases List.mem_append.mp hd with hd | hd
      · exact al d hd
      · exact al d (List.mem_reverse.mp hd)
    obtain ⟨e, h⟩ := right md st
    exact ⟨e, by simp [h]⟩
  obtain ⟨st2, cm⟩ := cm
  have sq : iSeq (eOp dAddC (eVar 1) (eUn dRevC (eVar 1))) [some (.cell 0), some (.cell 1), o, none] st' = .ok (l ++ l.reverse) st' := by
    have c1 : cellL st' 1 = some l := by unfold cellL; rw [hl]
    have r1 : dRevC (.cell 1) st' = some (.lst l.reverse) := by simp [dRevC, c1]
    have : l.length + l.reverse.length ≤ sizeLine := by
      have : sizeLine = 16777216 := by decide
      simp; omega
    have r2 : dAddC (.cell 1) (.lst l.reverse) st' = some (.lst (l ++ l.reverse)) := by simp only [dAddC, hl, if_pos this]
    simp [r1, r2]
  have ec := eComp_of (vs := [3]) (tg := tgName 3) (tt := fun _ => pure true) (fe := eCall (fns 99 .l_right) [(eVar 3)]) sq cm
  have da : ∀ st, dAll [.lst ((l ++ l.reverse).map fun _ => .bl true)] st = some (.bl true) := fun st => by
    have b := bools_map (l ++ l.reverse) fun _ => true
    simp only [dAll, b, Option.map_some]
    simp
  refine ⟨st2, runF_ret ?_⟩
  show g_law (fns 99) [some (.cell 0), none, none, none] [.ro (ns.map D.int)] = _
  unfold g_law
  have n0 : eNewL [] [some (.cell 0), none, none, none] [.ro (ns.map D.int)] = .ok (.cell 1) [.ro (ns.map D.int), .lst []] := by simp
  rw [sSeq_app, sAsg_app, n0, sb_ok, bnd_ok, nxt_nx]
  show (sSeq _ _) [some (.cell 0), some (.cell 1), none, none] [.ro (ns.map D.int), .lst []] = _
  rw [sSeq_app, sFor_app, rg, sb_ok, e, bnd_ok, nxt_nx, sRet_app, eB_app, aSeq_cons, ec, bnd_ok, aSeq_nil, bnd_ok, bnd_ok]
  simp only [List.nil_append]
  rw [da, lif_some, sb_ok]
end K91
end

section
set_option Elab.async false
set_option linter.all false
set_option maxRecDepth 100000
set_option maxHeartbeats 4000000
namespace K91
open PySem PySem.Spec PyProof.Rows L2 G
def top (i : Nat) : Stmt := PySem.Challenge.pw_giftstreams_k91_plan_texts.main.body.getD i (.Pass ⟨0, 0, 0, 0⟩)
inductive Fd where
  | is_whole
  | is_rule
  | is_change
  | is_test
  | is_look
  | is_between
  | is_word
  | are_numbers
  | is_leaf
  | is_joined
  | has_numbers
  | is_plan
  | words_for
  | plan_text
  | is_figures
  | read_plan
  | l_pot
  | l_take
  | l_number
  | l_word
  | l_rest
  | l_change
  | l_rule
  | l_look
  | l_test
  | l_leaf
  | l_upon
  | l_plan
  | l_sorts
  | l_words
  | l_tall
  | l_parts
  | l_deep
  | l_bounded
  | l_right
  | law
  | Words_init
  | Words_is_read
  | Words_next_word
  | Words_next_number
  | Words_headed
  | Words_several
  | Words_thing_of
abbrev nm : Fd → Str
  | .is_whole => "is_whole"
  | .is_rule => "is_rule"
  | .is_change => "is_change"
  | .is_test => "is_test"
  | .is_look => "is_look"
  | .is_between => "is_between"
  | .is_word => "is_word"
  | .are_numbers => "are_numbers"
  | .is_leaf => "is_leaf"
  | .is_joined => "is_joined"
  | .has_numbers => "has_numbers"
  | .is_plan => "is_plan"
  | .words_for => "words_for"
  | .plan_text => "plan_text"
  | .is_figures => "is_figures"
  | .read_plan => "read_plan"
  | .l_pot => "_law_pot"
  | .l_take => "_law_take"
  | .l_number => "_law_number"
  | .l_word => "_law_word"
  | .l_rest => "_law_rest"
  | .l_change => "_law_change"
  | .l_rule => "_law_rule"
  | .l_look => "_law_look"
  | .l_test => "_law_test"
  | .l_leaf => "_law_leaf"
  | .l_upon => "_law_upon"
  | .l_plan => "_law_plan"
  | .l_sorts => "_law_sorts"
  | .l_words => "_law_words"
  | .l_tall => "_law_tall"
  | .l_parts => "_law_parts"
  | .l_deep => "_law_deep"
  | .l_bounded => "_law_bounded"
  | .l_right => "_law_right"
  | .law => "law"
  | .Words_init => "__init__"
  | .Words_is_read => "is_read"
  | .Words_next_word => "next_word"
  | .Words_next_number => "next_number"
  | .Words_headed => "headed"
  | .Words_several => "several"
  | .Words_thing_of => "thing_of"
abbrev ql : Fd → Str
  | .is_whole => "is_whole"
  | .is_rule => "is_rule"
  | .is_change => "is_change"
  | .is_test => "is_test"
  | .is_look => "is_look"
  | .is_between => "is_between"
  | .is_word => "is_word"
  | .are_numbers => "are_numbers"
  | .is_leaf => "is_leaf"
  | .is_joined => "is_joined"
  | .has_numbers => "has_numbers"
  | .is_plan => "is_plan"
  | .words_for => "words_for"
  | .plan_text => "plan_text"
  | .is_figures => "is_figures"
  | .read_plan => "read_plan"
  | .l_pot => "_law_pot"
  | .l_take => "_law_take"
  | .l_number => "_law_number"
  | .l_word => "_law_word"
  | .l_rest => "_law_rest"
  | .l_change => "_law_change"
  | .l_rule => "_law_rule"
  | .l_look => "_law_look"
  | .l_test => "_law_test"
  | .l_leaf => "_law_leaf"
  | .l_upon => "_law_upon"
  | .l_plan => "_law_plan"
  | .l_sorts => "_law_sorts"
  | .l_words => "_law_words"
  | .l_tall => "_law_tall"
  | .l_parts => "_law_parts"
  | .l_deep => "_law_deep"
  | .l_bounded => "_law_bounded"
  | .l_right => "_law_right"
  | .law => "law"
  | .Words_init => "Words.__init__"
  | .Words_is_read => "Words.is_read"
  | .Words_next_word => "Words.next_word"
  | .Words_next_number => "Words.next_number"
  | .Words_headed => "Words.headed"
  | .Words_several => "Words.several"
  | .Words_thing_of => "Words.thing_of"
abbrev at_ : Fd → Str × Option Str
  | .is_whole => ("is_whole", none)
  | .is_rule => ("is_rule", none)
  | .is_change => ("is_change", none)
  | .is_test => ("is_test", none)
  | .is_look => ("is_look", none)
  | .is_between => ("is_between", none)
  | .is_word => ("is_word", none)
  | .are_numbers => ("are_numbers", none)
  | .is_leaf => ("is_leaf", none)
  | .is_joined => ("is_joined", none)
  | .has_numbers => ("has_numbers", none)
  | .is_plan => ("is_plan", none)
  | .words_for => ("words_for", none)
  | .plan_text => ("plan_text", none)
  | .is_figures => ("is_figures", none)
  | .read_plan => ("read_plan", none)
  | .l_pot => ("_law_pot", none)
  | .l_take => ("_law_take", none)
  | .l_number => ("_law_number", none)
  | .l_word => ("_law_word", none)
  | .l_rest => ("_law_rest", none)
  | .l_change => ("_law_change", none)
  | .l_rule => ("_law_rule", none)
  | .l_look => ("_law_look", none)
  | .l_test => ("_law_test", none)
  | .l_leaf => ("_law_leaf", none)
  | .l_upon => ("_law_upon", none)
  | .l_plan => ("_law_plan", none)
  | .l_sorts => ("_law_sorts", none)
  | .l_words => ("_law_words", none)
  | .l_tall => ("_law_tall", none)
  | .l_parts => ("_law_parts", none)
  | .l_deep => ("_law_deep", none)
  | .l_bounded => ("_law_bounded", none)
  | .l_right => ("_law_right", none)
  | .law => ("law", none)
  | .Words_init => ("Words", some "__init__")
  | .Words_is_read => ("Words", some "is_read")
  | .Words_next_word => ("Words", some "next_word")
  | .Words_next_number => ("Words", some "next_number")
  | .Words_headed => ("Words", some "headed")
  | .Words_several => ("Words", some "several")
  | .Words_thing_of => ("Words", some "thing_of")
abbrev st : Fd → Stmt
  | .is_whole => top 5
  | .is_rule => top 7
  | .is_change => top 8
  | .is_test => top 9
  | .is_look => top 10
  | .is_between => top 18
  | .is_word => top 19
  | .are_numbers => top 20
  | .is_leaf => top 21
  | .is_joined => top 22
  | .has_numbers => top 23
  | .is_plan => top 24
  | .words_for => top 33
  | .plan_text => top 34
  | .is_figures => top 35
  | .read_plan => top 37
  | .l_pot => top 39
  | .l_take => top 40
  | .l_number => top 41
  | .l_word => top 42
  | .l_rest => top 43
  | .l_change => top 44
  | .l_rule => top 45
  | .l_look => top 46
  | .l_test => top 47
  | .l_leaf => top 48
  | .l_upon => top 49
  | .l_plan => top 50
  | .l_sorts => top 51
  | .l_words => top 52
  | .l_tall => top 53
  | .l_parts => top 54
  | .l_deep => top 55
  | .l_bounded => top 56
  | .l_right => top 57
  | .law => top 58
  | .Words_init => (classB (top 36)).getD 0 (.Pass ⟨0, 0, 0, 0⟩)
  | .Words_is_read => (classB (top 36)).getD 1 (.Pass ⟨0, 0, 0, 0⟩)
  | .Words_next_word => (classB (top 36)).getD 2 (.Pass ⟨0, 0, 0, 0⟩)
  | .Words_next_number => (classB (top 36)).getD 3 (.Pass ⟨0, 0, 0, 0⟩)
  | .Words_headed => (classB (top 36)).getD 4 (.Pass ⟨0, 0, 0, 0⟩)
  | .Words_several => (classB (top 36)).getD 5 (.Pass ⟨0, 0, 0, 0⟩)
  | .Words_thing_of => (classB (top 36)).getD 6 (.Pass ⟨0, 0, 0, 0⟩)
abbrev ps : Fd → List Str
  | .is_whole => ["thing"]
  | .is_rule => ["thing"]
  | .is_change => ["thing"]
  | .is_test => ["thing"]
  | .is_look => ["thing"]
  | .is_between => ["thing", "least", "most"]
  | .is_word => ["thing"]
  | .are_numbers => ["thing"]
  | .is_leaf => ["thing"]
  | .is_joined => ["thing"]
  | .has_numbers => ["thing"]
  | .is_plan => ["thing"]
  | .words_for => ["thing"]
  | .plan_text => ["plan"]
  | .is_figures => ["word"]
  | .read_plan => ["text"]
  | .l_pot => ["_law_script", "_law_k"]
  | .l_take => ["_law_pot_here", "_law_many"]
  | .l_number => ["_law_pot_here"]
  | .l_word => ["_law_pot_here"]
  | .l_rest => ["_law_pot_here"]
  | .l_change => ["_law_pot_here"]
  | .l_rule => ["_law_pot_here"]
  | .l_look => ["_law_pot_here", "_law_deep_here"]
  | .l_test => ["_law_pot_here", "_law_deep_here"]
  | .l_leaf => ["_law_pot_here"]
  | .l_upon => ["_law_pot_here", "_law_way", "_law_plan_here"]
  | .l_plan => ["_law_pot_here", "_law_deep_here"]
  | .l_sorts => ["_law_head"]
  | .l_words => ["_law_sort", "_law_thing"]
  | .l_tall => ["_law_pot_here"]
  | .l_parts => ["_law_plan_here"]
  | .l_deep => ["_law_pot_here"]
  | .l_bounded => ["_law_pot_here"]
  | .l_right => ["_law_plan_here"]
  | .law => ["_law_script"]
  | .Words_init => ["self", "words"]
  | .Words_is_read => ["self"]
  | .Words_next_word => ["self"]
  | .Words_next_number => ["self"]
  | .Words_headed => ["self", "heads", "deep"]
  | .Words_several => ["self", "sort", "deep"]
  | .Words_thing_of => ["self", "sort", "deep"]
def free : List Str := ["all", "bool", "divmod", "int", "isinstance", "len", "max", "min", "range", "repr", "str", "sum", "tuple", "zip"]
structure FT (w : World) (K : PySem.W.Frag) (mg : Str → Option Value) : Prop extends FactsN Fd nm ql at_ st free K mg where
  tabs : TabsOk K w tabs
  tm : ∀ x ∈ (["PLANS", "CHANGES", "LOOKS", "HEADS", "SEVERAL"] : List Str), mg x = some (.ref (He.ga K x))
  cl : ClsT K mg "Words" ["all_words", "many_read"]
  mkr : Mk K (He.ga K "Words") (He.ma K (He.ga K "Words") "__init__")
  mt : ∀ m ∈ (["__init__", "is_read", "next_word", "next_number", "headed", "several", "thing_of"] : List Str), Meth K (He.ga K "Words") m (He.ma K (He.ga K "Words") m)
  X : ExcT exn K mg
  c_DEEPEST : Con K mg "DEEPEST" (.int 150)
  c_FIGURES : Con K mg "FIGURES" (.str "0123456789")
  c_LEAVES : Con K mg "LEAVES" (.tup [.str "list", .str "broken", .str "count", .str "row"])
  c_LETTERS : Con K mg "LETTERS" (.str "abcdefghijklmnopqrstuvwxyz")
  c_MOST : Con K mg "MOST" (.int 200)
  c_MOST_JOINED : Con K mg "MOST_JOINED" (.int 6)
  c_MOST_ROWS : Con K mg "MOST_ROWS" (.int 60)
  c_WIDEST : Con K mg "WIDEST" (.int 20)
abbrev N_is_whole : List Str := ["thing"]
theorem sc_is_whole : FnScope N_is_whole ["thing"] (defScope (st .is_whole)) := ⟨rfl, rfl, rfl, by decide +kernel, rfl, by decide +kernel, by decide +kernel⟩
abbrev N_is_rule : List Str := ["thing", "one"]
theorem sc_is_rule : FnScope N_is_rule ["thing"] (defScope (st .is_rule)) := ⟨rfl, rfl, rfl, by decide +kernel, rfl, by decide +kernel, by decide +kernel⟩
abbrev N_is_change : List Str := ["thing"]
theorem sc_is_change : FnScope N_is_change ["thing"] (defScope (st .is_change)) := ⟨rfl, rfl, rfl, by decide +kernel, rfl, by decide +kernel, by decide +kernel⟩
abbrev N_is_test : List Str := ["thing", "one"]
theorem sc_is_test : FnScope N_is_test ["thing"] (defScope (st .is_test)) := ⟨rfl, rfl, rfl, by decide +kernel, rfl, by decide +kernel, by decide +kernel⟩
abbrev N_is_look : List Str := ["thing"]
theorem sc_is_look : FnScope N_is_look ["thing"] (defScope (st .is_look)) := ⟨rfl, rfl, rfl, by decide +kernel, rfl, by decide +kernel, by decide +kernel⟩
abbrev N_is_between : List Str := ["thing", "least", "most"]
theorem sc_is_between : FnScope N_is_between ["thing", "least", "most"] (defScope (st .is_between)) := ⟨rfl, rfl, rfl, by decide +kernel, rfl, by decide +kernel, by decide +kernel⟩
abbrev N_is_word : List Str := ["thing", "sign"]
theorem sc_is_word : FnScope N_is_word ["thing"] (defScope (st .is_word)) := ⟨rfl, rfl, rfl, by decide +kernel, rfl, by decide +kernel, by decide +kernel⟩
abbrev N_are_numbers : List Str := ["thing", "one"]
theorem sc_are_numbers : FnScope N_are_numbers ["thing"] (defScope (st .are_numbers)) := ⟨rfl, rfl, rfl, by decide +kernel, rfl, by decide +kernel, by decide +kernel⟩
abbrev N_is_leaf : List Str := ["thing"]
theorem sc_is_leaf : FnScope N_is_leaf ["thing"] (defScope (st .is_leaf)) := ⟨rfl, rfl, rfl, by decide +kernel, rfl, by decide +kernel, by decide +kernel⟩
abbrev N_is_joined : List Str := ["thing", "one"]
theorem sc_is_joined : FnScope N_is_joined ["thing"] (defScope (st .is_joined)) := ⟨rfl, rfl, rfl, by decide +kernel, rfl, by decide +kernel, by decide +kernel⟩
abbrev N_has_numbers : List Str := ["thing", "word", "between"]
theorem sc_has_numbers : FnScope N_has_numbers ["thing"] (defScope (st .has_numbers)) := ⟨rfl, rfl, rfl, by decide +kernel, rfl, by decide +kernel, by decide +kernel⟩
abbrev N_is_plan : List Str := ["thing"]
theorem sc_is_plan : FnScope N_is_plan ["thing"] (defScope (st .is_plan)) := ⟨rfl, rfl, rfl, by decide +kernel, rfl, by decide +kernel, by decide +kernel⟩
abbrev N_words_for : List Str := ["thing", "found", "part"]
theorem sc_words_for : FnScope N_words_for ["thing"] (defScope (st .words_for)) := ⟨rfl, rfl, rfl, by decide +kernel, rfl, by decide +kernel, by decide +kernel⟩
abbrev N_plan_text : List Str := ["plan"]
theorem sc_plan_text : FnScope N_plan_text ["plan"] (defScope (st .plan_text)) := ⟨rfl, rfl, rfl, by decide +kernel, rfl, by decide +kernel, by decide +kernel⟩
abbrev N_is_figures : List Str := ["word", "sign"]
theorem sc_is_figures : FnScope N_is_figures ["word"] (defScope (st .is_figures)) := ⟨rfl, rfl, rfl, by decide +kernel, rfl, by decide +kernel, by decide +kernel⟩
abbrev N_read_plan : List Str := ["text", "words", "plan"]
theorem sc_read_plan : FnScope N_read_plan ["text"] (defScope (st .read_plan)) := ⟨rfl, rfl, rfl, by decide +kernel, rfl, by decide +kernel, by decide +kernel⟩
abbrev N_l_pot : List Str := ["_law_script", "_law_k", "_law_cell", "_law_mixed"]
theorem sc_l_pot : FnScope N_l_pot ["_law_script", "_law_k"] (defScope (st .l_pot)) := ⟨rfl, rfl, rfl, by decide +kernel, rfl, by decide +kernel, by decide +kernel⟩
abbrev N_l_take : List Str := ["_law_pot_here", "_law_many", "_law_digit"]
theorem sc_l_take : FnScope N_l_take ["_law_pot_here", "_law_many"] (defScope (st .l_take)) := ⟨rfl, rfl, rfl, by decide +kernel, rfl, by decide +kernel, by decide +kernel⟩
abbrev N_l_number : List Str := ["_law_pot_here"]
theorem sc_l_number : FnScope N_l_number ["_law_pot_here"] (defScope (st .l_number)) := ⟨rfl, rfl, rfl, by decide +kernel, rfl, by decide +kernel, by decide +kernel⟩
abbrev N_l_word : List Str := ["_law_pot_here", "_law_letters", "_law_many", "_law_k"]
theorem sc_l_word : FnScope N_l_word ["_law_pot_here"] (defScope (st .l_word)) := ⟨rfl, rfl, rfl, by decide +kernel, rfl, by decide +kernel, by decide +kernel⟩
abbrev N_l_rest : List Str := ["_law_pot_here"]
theorem sc_l_rest : FnScope N_l_rest ["_law_pot_here"] (defScope (st .l_rest)) := ⟨rfl, rfl, rfl, by decide +kernel, rfl, by decide +kernel, by decide +kernel⟩
abbrev N_l_change : List Str := ["_law_pot_here", "_law_way"]
theorem sc_l_change : FnScope N_l_change ["_law_pot_here"] (defScope (st .l_change)) := ⟨rfl, rfl, rfl, by decide +kernel, rfl, by decide +kernel, by decide +kernel⟩
abbrev N_l_rule : List Str := ["_law_pot_here", "_law_k"]
theorem sc_l_rule : FnScope N_l_rule ["_law_pot_here"] (defScope (st .l_rule)) := ⟨rfl, rfl, rfl, by decide +kernel, rfl, by decide +kernel, by decide +kernel⟩
abbrev N_l_look : List Str := ["_law_pot_here", "_law_deep_here", "_law_way", "_law_m"]
theorem sc_l_look : FnScope N_l_look ["_law_pot_here", "_law_deep_here"] (defScope (st .l_look)) := ⟨rfl, rfl, rfl, by decide +kernel, rfl, by decide +kernel, by decide +kernel⟩
abbrev N_l_test : List Str := ["_law_pot_here", "_law_deep_here", "_law_k"]
theorem sc_l_test : FnScope N_l_test ["_law_pot_here", "_law_deep_here"] (defScope (st .l_test)) := ⟨rfl, rfl, rfl, by decide +kernel, rfl, by decide +kernel, by decide +kernel⟩
abbrev N_l_leaf : List Str := ["_law_pot_here", "_law_way", "_law_many", "_law_numbers", "_law_k"]
theorem sc_l_leaf : FnScope N_l_leaf ["_law_pot_here"] (defScope (st .l_leaf)) := ⟨rfl, rfl, rfl, by decide +kernel, rfl, by decide +kernel, by decide +kernel⟩
abbrev N_l_upon : List Str := ["_law_pot_here", "_law_way", "_law_plan_here", "_law_n"]
theorem sc_l_upon : FnScope N_l_upon ["_law_pot_here", "_law_way", "_law_plan_here"] (defScope (st .l_upon)) := ⟨rfl, rfl, rfl, by decide +kernel, rfl, by decide +kernel, by decide +kernel⟩
abbrev N_l_plan : List Str := ["_law_pot_here", "_law_deep_here", "_law_way", "_law_least", "_law_many", "_law_k"]
theorem sc_l_plan : FnScope N_l_plan ["_law_pot_here", "_law_deep_here"] (defScope (st .l_plan)) := ⟨rfl, rfl, rfl, by decide +kernel, rfl, by decide +kernel, by decide +kernel⟩
abbrev N_l_sorts : List Str := ["_law_head", "_law_plans"]
theorem sc_l_sorts : FnScope N_l_sorts ["_law_head"] (defScope (st .l_sorts)) := ⟨rfl, rfl, rfl, by decide +kernel, rfl, by decide +kernel, by decide +kernel⟩
abbrev N_l_words : List Str := ["_law_sort", "_law_thing", "_law_found", "_law_one", "_law_inner"]
theorem sc_l_words : FnScope N_l_words ["_law_sort", "_law_thing"] (defScope (st .l_words)) := ⟨rfl, rfl, rfl, by decide +kernel, rfl, by decide +kernel, by decide +kernel⟩
abbrev N_l_tall : List Str := ["_law_pot_here", "_law_found", "_law_k"]
theorem sc_l_tall : FnScope N_l_tall ["_law_pot_here"] (defScope (st .l_tall)) := ⟨rfl, rfl, rfl, by decide +kernel, rfl, by decide +kernel, by decide +kernel⟩
abbrev N_l_parts : List Str := ["_law_plan_here", "_law_inner", "_law_one"]
theorem sc_l_parts : FnScope N_l_parts ["_law_plan_here"] (defScope (st .l_parts)) := ⟨rfl, rfl, rfl, by decide +kernel, rfl, by decide +kernel, by decide +kernel⟩
abbrev N_l_deep : List Str := ["_law_pot_here", "_law_test_here", "_law_k"]
theorem sc_l_deep : FnScope N_l_deep ["_law_pot_here"] (defScope (st .l_deep)) := ⟨rfl, rfl, rfl, by decide +kernel, rfl, by decide +kernel, by decide +kernel⟩
abbrev N_l_bounded : List Str := ["_law_pot_here", "_law_way", "_law_plan_here"]
theorem sc_l_bounded : FnScope N_l_bounded ["_law_pot_here"] (defScope (st .l_bounded)) := ⟨rfl, rfl, rfl, by decide +kernel, rfl, by decide +kernel, by decide +kernel⟩
abbrev N_l_right : List Str := ["_law_plan_here", "_law_text", "_law_kept"]
theorem sc_l_right : FnScope N_l_right ["_law_plan_here"] (defScope (st .l_right)) := ⟨rfl, rfl, rfl, by decide +kernel, rfl, by decide +kernel, by decide +kernel⟩
abbrev N_law : List Str := ["_law_script", "_law_plans", "_law_k", "_law_plan_here"]
theorem sc_law : FnScope N_law ["_law_script"] (defScope (st .law)) := ⟨rfl, rfl, rfl, by decide +kernel, rfl, by decide +kernel, by decide +kernel⟩
abbrev N_Words_init : List Str := ["self", "words"]
theorem sc_Words_init : FnScope N_Words_init ["self", "words"] (defScope (st .Words_init)) := ⟨rfl, rfl, rfl, by decide +kernel, rfl, by decide +kernel, by decide +kernel⟩
abbrev N_Words_is_read : List Str := ["self"]
theorem sc_Words_is_read : FnScope N_Words_is_read ["self"] (defScope (st .Words_is_read)) := ⟨rfl, rfl, rfl, by decide +kernel, rfl, by decide +kernel, by decide +kernel⟩
abbrev N_Words_next_word : List Str := ["self"]
theorem sc_Words_next_word : FnScope N_Words_next_word ["self"] (defScope (st .Words_next_word)) := ⟨rfl, rfl, rfl, by decide +kernel, rfl, by decide +kernel, by decide +kernel⟩
abbrev N_Words_next_number : List Str := ["self", "word"]
theorem sc_Words_next_number : FnScope N_Words_next_number ["self"] (defScope (st .Words_next_number)) := ⟨rfl, rfl, rfl, by decide +kernel, rfl, by decide +kernel, by decide +kernel⟩
abbrev N_Words_headed : List Str := ["self", "heads", "deep", "word", "sort"]
theorem sc_Words_headed : FnScope N_Words_headed ["self", "heads", "deep"] (defScope (st .Words_headed)) := ⟨rfl, rfl, rfl, by decide +kernel, rfl, by decide +kernel, by decide +kernel⟩
abbrev N_Words_several : List Str := ["self", "sort", "deep", "many", "k"]
theorem sc_Words_several : FnScope N_Words_several ["self", "sort", "deep"] (defScope (st .Words_several)) := ⟨rfl, rfl, rfl, by decide +kernel, rfl, by decide +kernel, by decide +kernel⟩
abbrev N_Words_thing_of : List Str := ["self", "sort", "deep"]
theorem sc_Words_thing_of : FnScope N_Words_thing_of ["self", "sort", "deep"] (defScope (st .Words_thing_of)) := ⟨rfl, rfl, rfl, by decide +kernel, rfl, by decide +kernel, by decide +kernel⟩
abbrev Ok (P : Program) (w : World) (K : PySem.W.Frag) (mg : Str → Option Value) (base : Heap) (n : Nat) : Fn → Prop
  | .is_whole => CalM P w K mg base n "is_whole" ["thing"] (fns n .is_whole)
  | .is_rule => CalM P w K mg base n "is_rule" ["thing"] (fns n .is_rule)
  | .is_change => CalM P w K mg base n "is_change" ["thing"] (fns n .is_change)
  | .is_test => CalM P w K mg base n "is_test" ["thing"] (fns n .is_test)
  | .is_look => CalM P w K mg base n "is_look" ["thing"] (fns n .is_look)
  | .is_between => CalM P w K mg base n "is_between" ["thing", "least", "most"] (fns n .is_between)
  | .is_word => CalM P w K mg base n "is_word" ["thing"] (fns n .is_word)
  | .are_numbers => CalM P w K mg base n "are_numbers" ["thing"] (fns n .are_numbers)
  | .is_leaf => CalM P w K mg base n "is_leaf" ["thing"] (fns n .is_leaf)
  | .is_joined => CalM P w K mg base n "is_joined" ["thing"] (fns n .is_joined)
  | .has_numbers => CalM P w K mg base n "has_numbers" ["thing"] (fns n .has_numbers)
  | .is_plan => CalM P w K mg base n "is_plan" ["thing"] (fns n .is_plan)
  | .words_for => CalM P w K mg base n "words_for" ["thing"] (fns n .words_for)
  | .plan_text => CalM P w K mg base n "plan_text" ["plan"] (fns n .plan_text)
  | .is_figures => CalM P w K mg base n "is_figures" ["word"] (fns n .is_figures)
  | .read_plan => CalM P w K mg base n "read_plan" ["text"] (fns n .read_plan)
  | .l_pot => CalM P w K mg base n "_law_pot" ["_law_script", "_law_k"] (fns n .l_pot)
  | .l_take => CalM P w K mg base n "_law_take" ["_law_pot_here", "_law_many"] (fns n .l_take)
  | .l_number => CalM P w K mg base n "_law_number" ["_law_pot_here"] (fns n .l_number)
  | .l_word => CalM P w K mg base n "_law_word" ["_law_pot_here"] (fns n .l_word)
  | .l_rest => CalM P w K mg base n "_law_rest" ["_law_pot_here"] (fns n .l_rest)
  | .l_change => CalM P w K mg base n "_law_change" ["_law_pot_here"] (fns n .l_change)
  | .l_rule => CalM P w K mg base n "_law_rule" ["_law_pot_here"] (fns n .l_rule)
  | .l_look => CalM P w K mg base n "_law_look" ["_law_pot_here", "_law_deep_here"] (fns n .l_look)
  | .l_test => CalM P w K mg base n "_law_test" ["_law_pot_here", "_law_deep_here"] (fns n .l_test)
  | .l_leaf => CalM P w K mg base n "_law_leaf" ["_law_pot_here"] (fns n .l_leaf)
  | .l_upon => CalM P w K mg base n "_law_upon" ["_law_pot_here", "_law_way", "_law_plan_here"] (fns n .l_upon)
  | .l_plan => CalM P w K mg base n "_law_plan" ["_law_pot_here", "_law_deep_here"] (fns n .l_plan)
  | .l_sorts => CalM P w K mg base n "_law_sorts" ["_law_head"] (fns n .l_sorts)
  | .l_words => CalM P w K mg base n "_law_words" ["_law_sort", "_law_thing"] (fns n .l_words)
  | .l_tall => CalM P w K mg base n "_law_tall" ["_law_pot_here"] (fns n .l_tall)
  | .l_parts => CalM P w K mg base n "_law_parts" ["_law_plan_here"] (fns n .l_parts)
  | .l_deep => CalM P w K mg base n "_law_deep" ["_law_pot_here"] (fns n .l_deep)
  | .l_bounded => CalM P w K mg base n "_law_bounded" ["_law_pot_here"] (fns n .l_bounded)
  | .l_right => CalM P w K mg base n "_law_right" ["_law_plan_here"] (fns n .l_right)
  | .law => CalM P w K mg base n "law" ["_law_script"] (fns n .law)
  | .Words_init => MetM P w K mg base n "Words" "__init__" ["self", "words"] (fns n .Words_init)
  | .Words_is_read => MetM P w K mg base n "Words" "is_read" ["self"] (fns n .Words_is_read)
  | .Words_next_word => MetM P w K mg base n "Words" "next_word" ["self"] (fns n .Words_next_word)
  | .Words_next_number => MetM P w K mg base n "Words" "next_number" ["self"] (fns n .Words_next_number)
  | .Words_headed => MetM P w K mg base n "Words" "headed" ["self", "heads", "deep"] (fns n .Words_headed)
  | .Words_several => MetM P w K mg base n "Words" "several" ["self", "sort", "deep"] (fns n .Words_several)
  | .Words_thing_of => MetM P w K mg base n "Words" "thing_of" ["self", "sort", "deep"] (fns n .Words_thing_of)
  | .new_Words => MkM P w K mg base n "Words" ["words"] (fns n .new_Words)
section
variable {P : Program} {w : World} {K : PySem.W.Frag} {mg : Str → Option Value} {base : Heap}
theorem bd_is_whole {fd : FuncData} (FD : FunD K (nm .is_whole) (ql .is_whole) (defArgs (st .is_whole)) (defBody (st .is_whole)) (defScope (st .is_whole)) [] [] (He.fAd K (at_ .is_whole)) fd) : Binds K fd (ps .is_whole) [] := FD.bindsN fun _ _ _ _ _ _ us hl => match us, hl with | [_], _ => rfl
theorem ok_is_whole (T : FT w K mg) {n : Nat} (ih : ∀ y, Ok P w K mg base n y) : Ok P w K mg base (n + 1) .is_whole := by
  refine calmN_of T.toFactsN .is_whole rfl sc_is_whole (by decide) (fun fd FD => bd_is_whole FD) fun cdv A outer s H E gd hr => ?_
  have hu := hr.units
  have hu5 := room65 hr
  have hu1 := room1 hr
  have hu12 := room12 hr
  have tk : L2N.Takes (cxOf (L2N.CX P w) P w K mg base N_is_whole (ql .is_whole) (defScope (st .is_whole)) (He.fAd K (at_ .is_whole)) cdv A outer s H E) (fun cls d _ H => E cls d H) := L2N.takes_of rfl rfl rfl rfl
  have po : PassesOwn (model P w) (cxOf (L2N.CX P w) P w K mg base N_is_whole (ql .is_whole) (defScope (st .is_whole)) (He.fAd K (at_ .is_whole)) cdv A outer s H E).A (cxOf (L2N.CX P w) P w K mg base N_is_whole (ql .is_whole) (defScope (st .is_whole)) (He.fAd K (at_ .is_whole)) cdv A outer s H E).env (cxOf (L2N.CX P w) P w K mg base N_is_whole (ql .is_whole) (defScope (st .is_whole)) (He.fAd K (at_ .is_whole)) cdv A outer s H E).xe := passes_of rfl
  exact (dss_one (ds_ret (de_and (de_isi ty_int (dv 0) rfl (T.fr "isinstance" (by decide +kernel)) rfl (T.fr "int" (by decide +kernel)) (by decide +kernel)) (de_one (de_not (de_isi ty_bool (dv 0) rfl (T.fr "isinstance" (by decide +kernel)) rfl (T.fr "bool" (by decide +kernel)) (by decide +kernel)))))))
theorem bd_is_rule {fd : FuncData} (FD : FunD K (nm .is_rule) (ql .is_rule) (defArgs (st .is_rule)) (defBody (st .is_rule)) (defScope (st .is_rule)) [] [] (He.fAd K (at_ .is_rule)) fd) : Binds K fd (ps .is_rule) [] := FD.bindsN fun _ _ _ _ _ _ us hl => match us, hl with | [_], _ => rfl
theorem ok_is_rule (T : FT w K mg) {n : Nat} (ih : ∀ y, Ok P w K mg base n y) : Ok P w K mg base (n + 1) .is_rule := by
  refine calmN_of T.toFactsN .is_rule rfl sc_is_rule (by decide) (fun fd FD => bd_is_rule FD) fun cdv A outer s H E gd hr => ?_
  have hu := hr.units
  have hu5 := room65 hr
  have hu1 := room1 hr
  have hu12 := room12 hr
  have tk : L2N.Takes (cxOf (L2N.CX P w) P w K mg base N_is_rule (ql .is_rule) (defScope (st .is_rule)) (He.fAd K (at_ .is_rule)) cdv A outer s H E) (fun cls d _ H => E cls d H) := L2N.takes_of rfl rfl rfl rfl
  have po : PassesOwn (model P w) (cxOf (L2N.CX P w) P w K mg base N_is_rule (ql .is_rule) (defScope (st .is_rule)) (He.fAd K (at_ .is_rule)) cdv A outer s H E).A (cxOf (L2N.CX P w) P w K mg base N_is_rule (ql .is_rule) (defScope (st .is_rule)) (He.fAd K (at_ .is_rule)) cdv A outer s H E).env (cxOf (L2N.CX P w) P w K mg base N_is_rule (ql .is_rule) (defScope (st .is_rule)) (He.fAd K (at_ .is_rule)) cdv A outer s H E).xe := passes_of rfl
  exact (dss_one (ds_ret (de_and (de_isi ty_tuple (dv 0) rfl (T.fr "isinstance" (by decide +kernel)) rfl (T.fr "tuple" (by decide +kernel)) (by decide +kernel)) (de_one (de_callB (cd_all rfl) rfl (T.fr "all" (by decide +kernel)) (by decide +kernel) (da_cons (de_comp (own := [("one", 1)]) rfl sc_is_rule.nd (di_seq (dv 0)) (blkOk_by (own := [("one", 1)]) (N := N_is_rule) (sc := defScope (st .is_rule)) (by decide +kernel)) (fun _ _ _ _ _ => (pg_name (i := 1) sc_is_rule.nd rfl (by first | exact Or.inl rfl | exact Or.inr rfl))) (tgok_name _ 1) (by decide) (fun _ _ _ _ _ => (dcall (ih .is_change) gd hr takes0N rfl rfl (da_cons (dv 1) da_nil)))) da_nil))))))
theorem bd_is_change {fd : FuncData} (FD : FunD K (nm .is_change) (ql .is_change) (defArgs (st .is_change)) (defBody (st .is_change)) (defScope (st .is_change)) [] [] (He.fAd K (at_ .is_change)) fd) : Binds K fd (ps .is_change) [] := FD.bindsN fun _ _ _ _ _ _ us hl => match us, hl with | [_], _ => rfl
theorem ok_is_change (T : FT w K mg) {n : Nat} (ih : ∀ y, Ok P w K mg base n y) : Ok P w K mg base (n + 1) .is_change := by
  refine calmN_of T.toFactsN .is_change rfl sc_is_change (by decide) (fun fd FD => bd_is_change FD) fun cdv A outer s H E gd hr => ?_
  have hu := hr.units
  have hu5 := room65 hr
  have hu1 := room1 hr
  have hu12 := room12 hr
  have tk : L2N.Takes (cxOf (L2N.CX P w) P w K mg base N_is_change (ql .is_change) (defScope (st .is_change)) (He.fAd K (at_ .is_change)) cdv A outer s H E) (fun cls d _ H => E cls d H) := L2N.takes_of rfl rfl rfl rfl
  have po : PassesOwn (model P w) (cxOf (L2N.CX P w) P w K mg base N_is_change (ql .is_change) (defScope (st .is_change)) (He.fAd K (at_ .is_change)) cdv A outer s H E).A (cxOf (L2N.CX P w) P w K mg base N_is_change (ql .is_change) (defScope (st .is_change)) (He.fAd K (at_ .is_change)) cdv A outer s H E).env (cxOf (L2N.CX P w) P w K mg base N_is_change (ql .is_change) (defScope (st .is_change)) (He.fAd K (at_ .is_change)) cdv A outer s H E).xe := passes_of rfl
  exact (dss_cons (ds_if (dt_w (dw_or (dt_not (dt_val (de_isi ty_tuple (dv 0) rfl (T.fr "isinstance" (by decide +kernel)) rfl (T.fr "tuple" (by decide +kernel)) (by decide +kernel)))) (dw_or1 (dt_cmp (od_eq hu) (de_callB cd_len rfl (T.fr "len" (by decide +kernel)) (by decide +kernel) (da_cons (dv 0) da_nil)) de_int)))) (dss_one (ds_ret de_bl)) dss_nil) (dss_cons (ds_if (dt_cmp (od_eq hu) (de_callB cd_len rfl (T.fr "len" (by decide +kernel)) (by decide +kernel) (da_cons (dv 0) da_nil)) de_int) (dss_one (ds_ret (de_cmp (od_in hu5) (de_ix (dv 0) de_int) (de_tup (da_cons de_str (da_cons de_str da_nil)))))) dss_nil) (dss_cons (ds_if (dt_w (dw_or (dt_cmp od_gt (de_callB cd_len rfl (T.fr "len" (by decide +kernel)) (by decide +kernel) (da_cons (dv 0) da_nil)) de_int) (dw_or1 (dt_not (dt_val (dcall (ih .is_whole) gd hr tk rfl rfl (da_cons (de_ix (dv 0) de_int) da_nil))))))) (dss_one (ds_ret de_bl)) dss_nil) (dss_one (ds_ret (de_or (de_cmp (od_in hu5) (de_ix (dv 0) de_int) (de_tup (da_cons de_str (da_cons de_str da_nil)))) (de_one (de_and (de_cmp (od_eq hu) (de_ix (dv 0) de_int) de_str) (de_one (de_cmp od_gt (de_ix (dv 0) de_int) de_int))))))))))
theorem bd_is_test {fd : FuncData} (FD : FunD K (nm .is_test) (ql .is_test) (defArgs (st .is_test)) (defBody (st .is_test)) (defScope (st .is_test)) [] [] (He.fAd K (at_ .is_test)) fd) : Binds K fd (ps .is_test) [] := FD.bindsN fun _ _ _ _ _ _ us hl => match us, hl with | [_], _ => rfl
theorem ok_is_test (T : FT w K mg) {n : Nat} (ih : ∀ y, Ok P w K mg base n y) : Ok P w K mg base (n + 1) .is_test := by
  refine calmN_of T.toFactsN .is_test rfl sc_is_test (by decide) (fun fd FD => bd_is_test FD) fun cdv A outer s H E gd hr => ?_
  have hu := hr.units
  have hu5 := room65 hr
  have hu1 := room1 hr
  have hu12 := room12 hr
  have tk : L2N.Takes (cxOf (L2N.CX P w) P w K mg base N_is_test (ql .is_test) (defScope (st .is_test)) (He.fAd K (at_ .is_test)) cdv A outer s H E) (fun cls d _ H => E cls d H) := L2N.takes_of rfl rfl rfl rfl
  have po : PassesOwn (model P w) (cxOf (L2N.CX P w) P w K mg base N_is_test (ql .is_test) (defScope (st .is_test)) (He.fAd K (at_ .is_test)) cdv A outer s H E).A (cxOf (L2N.CX P w) P w K mg base N_is_test (ql .is_test) (defScope (st .is_test)) (He.fAd K (at_ .is_test)) cdv A outer s H E).env (cxOf (L2N.CX P w) P w K mg base N_is_test (ql .is_test) (defScope (st .is_test)) (He.fAd K (at_ .is_test)) cdv A outer s H E).xe := passes_of rfl
  exact (dss_one (ds_ret (de_and (de_isi ty_tuple (dv 0) rfl (T.fr "isinstance" (by decide +kernel)) rfl (T.fr "tuple" (by decide +kernel)) (by decide +kernel)) (de_one (de_callB (cd_all rfl) rfl (T.fr "all" (by decide +kernel)) (by decide +kernel) (da_cons (de_comp (own := [("one", 1)]) rfl sc_is_test.nd (di_seq (dv 0)) (blkOk_by (own := [("one", 1)]) (N := N_is_test) (sc := defScope (st .is_test)) (by decide +kernel)) (fun _ _ _ _ _ => (pg_name (i := 1) sc_is_test.nd rfl (by first | exact Or.inl rfl | exact Or.inr rfl))) (tgok_name _ 1) (by decide) (fun _ _ _ _ _ => (dcall (ih .is_look) gd hr takes0N rfl rfl (da_cons (dv 1) da_nil)))) da_nil))))))
theorem bd_is_look {fd : FuncData} (FD : FunD K (nm .is_look) (ql .is_look) (defArgs (st .is_look)) (defBody (st .is_look)) (defScope (st .is_look)) [] [] (He.fAd K (at_ .is_look)) fd) : Binds K fd (ps .is_look) [] := FD.bindsN fun _ _ _ _ _ _ us hl => match us, hl with | [_], _ => rfl
theorem ok_is_look (T : FT w K mg) {n : Nat} (ih : ∀ y, Ok P w K mg base n y) : Ok P w K mg base (n + 1) .is_look := by
  refine calmN_of T.toFactsN .is_look rfl sc_is_look (by decide) (fun fd FD => bd_is_look FD) fun cdv A outer s H E gd hr => ?_
  have hu := hr.units
  have hu5 := room65 hr
  have hu1 := room1 hr
  have hu12 := room12 hr
  have tk : L2N.Takes (cxOf (L2N.CX P w) P w K mg base N_is_look (ql .is_look) (defScope (st .is_look)) (He.fAd K (at_ .is_look)) cdv A outer s H E) (fun cls d _ H => E cls d H) := L2N.takes_of rfl rfl rfl rfl
  have po : PassesOwn (model P w) (cxOf (L2N.CX P w) P w K mg base N_is_look (ql .is_look) (defScope (st .is_look)) (He.fAd K (at_ .is_look)) cdv A outer s H E).A (cxOf (L2N.CX P w) P w K mg base N_is_look (ql .is_look) (defScope (st .is_look)) (He.fAd K (at_ .is_look)) cdv A outer s H E).env (cxOf (L2N.CX P w) P w K mg base N_is_look (ql .is_look) (defScope (st .is_look)) (He.fAd K (at_ .is_look)) cdv A outer s H E).xe := passes_of rfl
  exact (dss_cons (ds_if (dt_w (dw_or (dt_not (dt_val (de_isi ty_tuple (dv 0) rfl (T.fr "isinstance" (by decide +kernel)) rfl (T.fr "tuple" (by decide +kernel)) (by decide +kernel)))) (dw_or1 (dt_not (dt_chain od_le od_le de_int (de_callB cd_len rfl (T.fr "len" (by decide +kernel)) (by decide +kernel) (da_cons (dv 0) da_nil)) de_int))))) (dss_one (ds_ret de_bl)) dss_nil) (dss_cons (ds_if (dt_cmp (od_eq hu) (de_callB cd_len rfl (T.fr "len" (by decide +kernel)) (by decide +kernel) (da_cons (dv 0) da_nil)) de_int) (dss_one (ds_ret (de_and (de_cmp (od_eq hu) (de_ix (dv 0) de_int) de_str) (de_one (dcall (ih .is_whole) gd hr tk rfl rfl (da_cons (de_ix (dv 0) de_int) da_nil)))))) dss_nil) (dss_cons (ds_if (dt_cmp (od_eq hu) (de_ix (dv 0) de_int) de_str) (dss_one (ds_ret (de_and (dcall (ih .is_rule) gd hr tk rfl rfl (da_cons (de_ix (dv 0) de_int) da_nil)) (de_one (dcall (ih .is_test) gd hr tk rfl rfl (da_cons (de_ix (dv 0) de_int) da_nil)))))) dss_nil) (dss_one (ds_ret (de_and (de_cmp (od_eq hu) (de_ix (dv 0) de_int) de_str) (de_and (dcall (ih .is_whole) gd hr tk rfl rfl (da_cons (de_ix (dv 0) de_int) da_nil)) (de_and (dcall (ih .is_whole) gd hr tk rfl rfl (da_cons (de_ix (dv 0) de_int) da_nil)) (de_one (de_chain od_le od_lt de_int (de_ix (dv 0) de_int) (de_ix (dv 0) de_int)))))))))))
theorem bd_is_between {fd : FuncData} (FD : FunD K (nm .is_between) (ql .is_between) (defArgs (st .is_between)) (defBody (st .is_between)) (defScope (st .is_between)) [] [] (He.fAd K (at_ .is_between)) fd) : Binds K fd (ps .is_between) [] := FD.bindsN fun _ _ _ _ _ _ us hl => match us, hl with | [_, _, _], _ => rfl
theorem ok_is_between (T : FT w K mg) {n : Nat} (ih : ∀ y, Ok P w K mg base n y) : Ok P w K mg base (n + 1) .is_between := by
  refine calmN_of T.toFactsN .is_between rfl sc_is_between (by decide) (fun fd FD => bd_is_between FD) fun cdv A outer s H E gd hr => ?_
  have hu := hr.units
  have hu5 := room65 hr
  have hu1 := room1 hr
  have hu12 := room12 hr
  have tk : L2N.Takes (cxOf (L2N.CX P w) P w K mg base N_is_between (ql .is_between) (defScope (st .is_between)) (He.fAd K (at_ .is_between)) cdv A outer s H E) (fun cls d _ H => E cls d H) := L2N.takes_of rfl rfl rfl rfl
  have po : PassesOwn (model P w) (cxOf (L2N.CX P w) P w K mg base N_is_between (ql .is_between) (defScope (st .is_between)) (He.fAd K (at_ .is_between)) cdv A outer s H E).A (cxOf (L2N.CX P w) P w K mg base N_is_between (ql .is_between) (defScope (st .is_between)) (He.fAd K (at_ .is_between)) cdv A outer s H E).env (cxOf (L2N.CX P w) P w K mg base N_is_between (ql .is_between) (defScope (st .is_between)) (He.fAd K (at_ .is_between)) cdv A outer s H E).xe := passes_of rfl
  exact (dss_one (ds_ret (de_and (dcall (ih .is_whole) gd hr tk rfl rfl (da_cons (dv 0) da_nil)) (de_one (de_chain od_le od_le (dv 1) (dv 0) (dv 2))))))
theorem bd_is_word {fd : FuncData} (FD : FunD K (nm .is_word) (ql .is_word) (defArgs (st .is_word)) (defBody (st .is_word)) (defScope (st .is_word)) [] [] (He.fAd K (at_ .is_word)) fd) : Binds K fd (ps .is_word) [] := FD.bindsN fun _ _ _ _ _ _ us hl => match us, hl with | [_], _ => rfl
theorem ok_is_word (T : FT w K mg) {n : Nat} (ih : ∀ y, Ok P w K mg base n y) : Ok P w K mg base (n + 1) .is_word := by
  refine calmN_of T.toFactsN .is_word rfl sc_is_word (by decide) (fun fd FD => bd_is_word FD) fun cdv A outer s H E gd hr => ?_
  have hu := hr.units
  have hu5 := room65 hr
  have hu1 := room1 hr
  have hu12 := room12 hr
  have tk : L2N.Takes (cxOf (L2N.CX P w) P w K mg base N_is_word (ql .is_word) (defScope (st .is_word)) (He.fAd K (at_ .is_word)) cdv A outer s H E) (fun cls d _ H => E cls d H) := L2N.takes_of rfl rfl rfl rfl
  have po : PassesOwn (model P w) (cxOf (L2N.CX P w) P w K mg base N_is_word (ql .is_word) (defScope (st .is_word)) (He.fAd K (at_ .is_word)) cdv A outer s H E).A (cxOf (L2N.CX P w) P w K mg base N_is_word (ql .is_word) (defScope (st .is_word)) (He.fAd K (at_ .is_word)) cdv A outer s H E).env (cxOf (L2N.CX P w) P w K mg base N_is_word (ql .is_word) (defScope (st .is_word)) (He.fAd K (at_ .is_word)) cdv A outer s H E).xe := passes_of rfl
  exact (dss_one (ds_ret (de_and (de_isi ty_str (dv 0) rfl (T.fr "isinstance" (by decide +kernel)) rfl (T.fr "str" (by decide +kernel)) (by decide +kernel)) (de_and (de_chain od_le od_le de_int (de_callB cd_len rfl (T.fr "len" (by decide +kernel)) (by decide +kernel) (da_cons (dv 0) da_nil)) de_int) (de_one (de_callB (cd_all rfl) rfl (T.fr "all" (by decide +kernel)) (by decide +kernel) (da_cons (de_comp (own := [("sign", 1)]) rfl sc_is_word.nd (di_chars (dv 0)) (blkOk_by (own := [("sign", 1)]) (N := N_is_word) (sc := defScope (st .is_word)) (by decide +kernel)) (fun _ _ _ _ _ => (pg_name (i := 1) sc_is_word.nd rfl (by first | exact Or.inl rfl | exact Or.inr rfl))) (tgok_name _ 1) (by decide) (fun _ _ _ _ _ => (de_cmp od_inS (dv 1) (de_con rfl T.c_LETTERS)))) da_nil)))))))
theorem bd_are_numbers {fd : FuncData} (FD : FunD K (nm .are_numbers) (ql .are_numbers) (defArgs (st .are_numbers)) (defBody (st .are_numbers)) (defScope (st .are_numbers)) [] [] (He.fAd K (at_ .are_numbers)) fd) : Binds K fd (ps .are_numbers) [] := FD.bindsN fun _ _ _ _ _ _ us hl => match us, hl with | [_], _ => rfl
theorem ok_are_numbers (T : FT w K mg) {n : Nat} (ih : ∀ y, Ok P w K mg base n y) : Ok P w K mg base (n + 1) .are_numbers := by
  refine calmN_of T.toFactsN .are_numbers rfl sc_are_numbers (by decide) (fun fd FD => bd_are_numbers FD) fun cdv A outer s H E gd hr => ?_
  have hu := hr.units
  have hu5 := room65 hr
  have hu1 := room1 hr
  have hu12 := room12 hr
  have tk : L2N.Takes (cxOf (L2N.CX P w) P w K mg base N_are_numbers (ql .are_numbers) (defScope (st .are_numbers)) (He.fAd K (at_ .are_numbers)) cdv A outer s H E) (fun cls d _ H => E cls d H) := L2N.takes_of rfl rfl rfl rfl
  have po : PassesOwn (model P w) (cxOf (L2N.CX P w) P w K mg base N_are_numbers (ql .are_numbers) (defScope (st .are_numbers)) (He.fAd K (at_ .are_numbers)) cdv A outer s H E).A (cxOf (L2N.CX P w) P w K mg base N_are_numbers (ql .are_numbers) (defScope (st .are_numbers)) (He.fAd K (at_ .are_numbers)) cdv A outer s H E).env (cxOf (L2N.CX P w) P w K mg base N_are_numbers (ql .are_numbers) (defScope (st .are_numbers)) (He.fAd K (at_ .are_numbers)) cdv A outer s H E).xe := passes_of rfl
  exact (dss_one (ds_ret (de_and (de_isi ty_tuple (dv 0) rfl (T.fr "isinstance" (by decide +kernel)) rfl (T.fr "tuple" (by decide +kernel)) (by decide +kernel)) (de_one (de_callB (cd_all rfl) rfl (T.fr "all" (by decide +kernel)) (by decide +kernel) (da_cons (de_comp (own := [("one", 1)]) rfl sc_are_numbers.nd (di_seq (dv 0)) (blkOk_by (own := [("one", 1)]) (N := N_are_numbers) (sc := defScope (st .are_numbers)) (by decide +kernel)) (fun _ _ _ _ _ => (pg_name (i := 1) sc_are_numbers.nd rfl (by first | exact Or.inl rfl | exact Or.inr rfl))) (tgok_name _ 1) (by decide) (fun _ _ _ _ _ => (dcall (ih .is_whole) gd hr takes0N rfl rfl (da_cons (dv 1) da_nil)))) da_nil))))))
theorem bd_is_leaf {fd : FuncData} (FD : FunD K (nm .is_leaf) (ql .is_leaf) (defArgs (st .is_leaf)) (defBody (st .is_leaf)) (defScope (st .is_leaf)) [] [] (He.fAd K (at_ .is_leaf)) fd) : Binds K fd (ps .is_leaf) [] := FD.bindsN fun _ _ _ _ _ _ us hl => match us, hl with | [_], _ => rfl
theorem ok_is_leaf (T : FT w K mg) {n : Nat} (ih : ∀ y, Ok P w K mg base n y) : Ok P w K mg base (n + 1) .is_leaf := by
  refine calmN_of T.toFactsN .is_leaf rfl sc_is_leaf (by decide) (fun fd FD => bd_is_leaf FD) fun cdv A outer s H E gd hr => ?_
  have hu := hr.units
  have hu5 := room65 hr
  have hu1 := room1 hr
  have hu12 := room12 hr
  have tk : L2N.Takes (cxOf (L2N.CX P w) P w K mg base N_is_leaf (ql .is_leaf) (defScope (st .is_leaf)) (He.fAd K (at_ .is_leaf)) cdv A outer s H E) (fun cls d _ H => E cls d H) := L2N.takes_of rfl rfl rfl rfl
  have po : PassesOwn (model P w) (cxOf (L2N.CX P w) P w K mg base N_is_leaf (ql .is_leaf) (defScope (st .is_leaf)) (He.fAd K (at_ .is_leaf)) cdv A outer s H E).A (cxOf (L2N.CX P w) P w K mg base N_is_leaf (ql .is_leaf) (defScope (st .is_leaf)) (He.fAd K (at_ .is_leaf)) cdv A outer s H E).env (cxOf (L2N.CX P w) P w K mg base N_is_leaf (ql .is_leaf) (defScope (st .is_leaf)) (He.fAd K (at_ .is_leaf)) cdv A outer s H E).xe := passes_of rfl
  exact (dss_cons (ds_if (dt_cmp (od_eq hu) (de_ix (dv 0) de_int) de_str) (dss_one (ds_ret (de_and (de_cmp (od_eq hu) (de_callB cd_len rfl (T.fr "len" (by decide +kernel)) (by decide +kernel) (da_cons (dv 0) da_nil)) de_int) (de_one (dcall (ih .are_numbers) gd hr tk rfl rfl (da_cons (de_ix (dv 0) de_int) da_nil)))))) dss_nil) (dss_cons (ds_if (dt_cmp (od_eq hu) (de_ix (dv 0) de_int) de_str) (dss_one (ds_ret (de_and (de_cmp (od_eq hu) (de_callB cd_len rfl (T.fr "len" (by decide +kernel)) (by decide +kernel) (da_cons (dv 0) da_nil)) de_int) (de_and (dcall (ih .are_numbers) gd hr tk rfl rfl (da_cons (de_ix (dv 0) de_int) da_nil)) (de_one (dcall (ih .is_word) gd hr tk rfl rfl (da_cons (de_ix (dv 0) de_int) da_nil))))))) dss_nil) (dss_cons (ds_if (dt_cmp (od_eq hu) (de_ix (dv 0) de_int) de_str) (dss_one (ds_ret (de_and (de_cmp (od_eq hu) (de_callB cd_len rfl (T.fr "len" (by decide +kernel)) (by decide +kernel) (da_cons (dv 0) da_nil)) de_int) (de_one (dcall (ih .is_between) gd hr tk rfl rfl (da_cons (de_ix (dv 0) de_int) (da_cons de_int (da_cons (de_op od_sub (de_con rfl T.c_MOST_ROWS) de_int) da_nil)))))))) dss_nil) (dss_one (ds_ret (de_and (de_cmp (od_eq hu) (de_callB cd_len rfl (T.fr "len" (by decide +kernel)) (by decide +kernel) (da_cons (dv 0) da_nil)) de_int) (de_and (dcall (ih .is_whole) gd hr tk rfl rfl (da_cons (de_ix (dv 0) de_int) da_nil)) (de_and (dcall (ih .is_whole) gd hr tk rfl rfl (da_cons (de_ix (dv 0) de_int) da_nil)) (de_one (dcall (ih .is_between) gd hr tk rfl rfl (da_cons (de_ix (dv 0) de_int) (da_cons de_int (da_cons (de_con rfl T.c_MOST) da_nil)))))))))))))
theorem bd_is_joined {fd : FuncData} (FD : FunD K (nm .is_joined) (ql .is_joined) (defArgs (st .is_joined)) (defBody (st .is_joined)) (defScope (st .is_joined)) [] [] (He.fAd K (at_ .is_joined)) fd) : Binds K fd (ps .is_joined) [] := FD.bindsN fun _ _ _ _ _ _ us hl => match us, hl with | [_], _ => rfl
theorem ok_is_joined (T : FT w K mg) {n : Nat} (ih : ∀ y, Ok P w K mg base n y) : Ok P w K mg base (n + 1) .is_joined := by
  refine calmN_of T.toFactsN .is_joined rfl sc_is_joined (by decide) (fun fd FD => bd_is_joined FD) fun cdv A outer s H E gd hr => ?_
  have hu := hr.units
  have hu5 := room65 hr
  have hu1 := room1 hr
  have hu12 := room12 hr
  have tk : L2N.Takes (cxOf (L2N.CX P w) P w K mg base N_is_joined (ql .is_joined) (defScope (st .is_joined)) (He.fAd K (at_ .is_joined)) cdv A outer s H E) (fun cls d _ H => E cls d H) := L2N.takes_of rfl rfl rfl rfl
  have po : PassesOwn (model P w) (cxOf (L2N.CX P w) P w K mg base N_is_joined (ql .is_joined) (defScope (st .is_joined)) (He.fAd K (at_ .is_joined)) cdv A outer s H E).A (cxOf (L2N.CX P w) P w K mg base N_is_joined (ql .is_joined) (defScope (st .is_joined)) (He.fAd K (at_ .is_joined)) cdv A outer s H E).env (cxOf (L2N.CX P w) P w K mg base N_is_joined (ql .is_joined) (defScope (st .is_joined)) (He.fAd K (at_ .is_joined)) cdv A outer s H E).xe := passes_of rfl
  exact (dss_cons (ds_if (dt_w (dw_or (dt_cmp (od_ne hu) (de_callB cd_len rfl (T.fr "len" (by decide +kernel)) (by decide +kernel) (da_cons (dv 0) da_nil)) de_int) (dw_or (dt_not (dt_val (de_isi ty_tuple (de_ix (dv 0) de_int) rfl (T.fr "isinstance" (by decide +kernel)) rfl (T.fr "tuple" (by decide +kernel)) (by decide +kernel)))) (dw_or1 (dt_cmp od_gt (de_callB cd_len rfl (T.fr "len" (by decide +kernel)) (by decide +kernel) (da_cons (de_ix (dv 0) de_int) da_nil)) (de_con rfl T.c_MOST_JOINED)))))) (dss_one (ds_ret de_bl)) dss_nil) (dss_one (ds_ret (de_and (de_or (de_cmp (od_eq hu) (de_ix (dv 0) de_int) de_str) (de_one (de_cmp (od_ne hu) (de_ix (dv 0) de_int) (de_tup da_nil)))) (de_one (de_callB (cd_all rfl) rfl (T.fr "all" (by decide +kernel)) (by decide +kernel) (da_cons (de_comp (own := [("one", 1)]) rfl sc_is_joined.nd (di_seq (de_ix (dv 0) de_int)) (blkOk_by (own := [("one", 1)]) (N := N_is_joined) (sc := defScope (st .is_joined)) (by decide +kernel)) (fun _ _ _ _ _ => (pg_name (i := 1) sc_is_joined.nd rfl (by first | exact Or.inl rfl | exact Or.inr rfl))) (tgok_name _ 1) (by decide) (fun _ _ _ _ _ => (dcall (ih .is_plan) gd hr takes0N rfl rfl (da_cons (dv 1) da_nil)))) da_nil)))))))
theorem bd_has_numbers {fd : FuncData} (FD : FunD K (nm .has_numbers) (ql .has_numbers) (defArgs (st .has_numbers)) (defBody (st .has_numbers)) (defScope (st .has_numbers)) [] [] (He.fAd K (at_ .has_numbers)) fd) : Binds K fd (ps .has_numbers) [] := FD.bindsN fun _ _ _ _ _ _ us hl => match us, hl with | [_], _ => rfl
theorem ok_has_numbers (T : FT w K mg) {n : Nat} (ih : ∀ y, Ok P w K mg base n y) : Ok P w K mg base (n + 1) .has_numbers := by
  refine calmN_of T.toFactsN .has_numbers rfl sc_has_numbers (by decide) (fun fd FD => bd_has_numbers FD) fun cdv A outer s H E gd hr => ?_
  have hu := hr.units
  have hu5 := room65 hr
  have hu1 := room1 hr
  have hu12 := room12 hr
  have tk : L2N.Takes (cxOf (L2N.CX P w) P w K mg base N_has_numbers (ql .has_numbers) (defScope (st .has_numbers)) (He.fAd K (at_ .has_numbers)) cdv A outer s H E) (fun cls d _ H => E cls d H) := L2N.takes_of rfl rfl rfl rfl
  have po : PassesOwn (model P w) (cxOf (L2N.CX P w) P w K mg base N_has_numbers (ql .has_numbers) (defScope (st .has_numbers)) (He.fAd K (at_ .has_numbers)) cdv A outer s H E).A (cxOf (L2N.CX P w) P w K mg base N_has_numbers (ql .has_numbers) (defScope (st .has_numbers)) (He.fAd K (at_ .has_numbers)) cdv A outer s H E).env (cxOf (L2N.CX P w) P w K mg base N_has_numbers (ql .has_numbers) (defScope (st .has_numbers)) (He.fAd K (at_ .has_numbers)) cdv A outer s H E).xe := passes_of rfl
  exact (dss_cons (ds_par 1 2 rfl sc_has_numbers.nd rfl rfl (by decide) rfl rfl (de_ix (dv 0) de_int) (de_sl (dv 0) (dp_at de_int) (dp_at (de_un ud_neg de_int)))) (dss_cons (ds_if (dt_cmp (od_eq hu) (dv 1) de_str) (dss_one (ds_ret (de_cmp (od_eq hu) (dv 2) (de_tup da_nil)))) dss_nil) (dss_cons (ds_if (dt_cmp (od_eq hu) (dv 1) de_str) (dss_one (ds_ret (de_and (de_cmp (od_eq hu) (de_callB cd_len rfl (T.fr "len" (by decide +kernel)) (by decide +kernel) (da_cons (dv 2) da_nil)) de_int) (de_and (dcall (ih .is_between) gd hr tk rfl rfl (da_cons (de_ix (dv 2) de_int) (da_cons de_int (da_cons (de_con rfl T.c_WIDEST) da_nil)))) (de_one (dcall (ih .is_between) gd hr tk rfl rfl (da_cons (de_ix (dv 2) de_int) (da_cons de_int (da_cons (de_con rfl T.c_WIDEST) da_nil))))))))) dss_nil) (dss_cons (ds_if (dt_cmp (od_eq hu) (dv 1) de_str) (dss_one (ds_ret (de_and (de_cmp (od_eq hu) (de_callB cd_len rfl (T.fr "len" (by decide +kernel)) (by decide +kernel) (da_cons (dv 2) da_nil)) de_int) (de_and (dcall (ih .is_between) gd hr tk rfl rfl (da_cons (de_ix (dv 2) de_int) (da_cons de_int (da_cons (de_con rfl T.c_MOST) da_nil)))) (de_one (dcall (ih .is_word) gd hr tk rfl rfl (da_cons (de_ix (dv 2) de_int) da_nil))))))) dss_nil) (dss_cons (ds_if (dt_cmp (od_ne hu) (de_callB cd_len rfl (T.fr "len" (by decide +kernel)) (by decide +kernel) (da_cons (dv 2) da_nil)) de_int) (dss_one (ds_ret de_bl)) dss_nil) (dss_cons (ds_if (dt_cmp (od_eq hu) (dv 1) de_str) (dss_one (ds_ret (dcall (ih .is_rule) gd hr tk rfl rfl (da_cons (de_ix (dv 2) de_int) da_nil)))) dss_nil) (dss_cons (ds_if (dt_cmp (od_in hu5) (dv 1) (de_tup (da_cons de_str (da_cons de_str da_nil)))) (dss_one (ds_ret (dcall (ih .is_test) gd hr tk rfl rfl (da_cons (de_ix (dv 2) de_int) da_nil)))) dss_nil) (dss_cons (ds_if (dt_cmp (od_in hu5) (dv 1) (de_tup (da_cons de_str (da_cons de_str da_nil)))) (dss_one (ds_ret (dcall (ih .is_between) gd hr tk rfl rfl (da_cons (de_ix (dv 2) de_int) (da_cons de_int (da_cons (de_con rfl T.c_MOST) da_nil)))))) dss_nil) (dss_cons (ds_if (dt_cmp (od_eq hu) (dv 1) de_str) (dss_one (ds_ret (de_and (dcall (ih .is_whole) gd hr tk rfl rfl (da_cons (de_ix (dv 2) de_int) da_nil)) (de_one (de_cmp od_gt (de_ix (dv 2) de_int) de_int))))) dss_nil) (dss_one (ds_ret (de_and (de_cmp (od_eq hu) (dv 1) de_str) (de_one (dcall (ih .is_plan) gd hr tk rfl rfl (da_cons (de_ix (dv 2) de_int) da_nil)))))))))))))))
theorem bd_is_plan {fd : FuncData} (FD : FunD K (nm .is_plan) (ql .is_plan) (defArgs (st .is_plan)) (defBody (st .is_plan)) (defScope (st .is_plan)) [] [] (He.fAd K (at_ .is_plan)) fd) : Binds K fd (ps .is_plan) [] := FD.bindsN fun _ _ _ _ _ _ us hl => match us, hl with | [_], _ => rfl
theorem ok_is_plan (T : FT w K mg) {n : Nat} (ih : ∀ y, Ok P w K mg base n y) : Ok P w K mg base (n + 1) .is_plan := by
  refine calmN_of T.toFactsN .is_plan rfl sc_is_plan (by decide) (fun fd FD => bd_is_plan FD) fun cdv A outer s H E gd hr => ?_
  have hu := hr.units
  have hu5 := room65 hr
  have hu1 := room1 hr
  have hu12 := room12 hr
  have tk : L2N.Takes (cxOf (L2N.CX P w) P w K mg base N_is_plan (ql .is_plan) (defScope (st .is_plan)) (He.fAd K (at_ .is_plan)) cdv A outer s H E) (fun cls d _ H => E cls d H) := L2N.takes_of rfl rfl rfl rfl
  have po : PassesOwn (model P w) (cxOf (L2N.CX P w) P w K mg base N_is_plan (ql .is_plan) (defScope (st .is_plan)) (He.fAd K (at_ .is_plan)) cdv A outer s H E).A (cxOf (L2N.CX P w) P w K mg base N_is_plan (ql .is_plan) (defScope (st .is_plan)) (He.fAd K (at_ .is_plan)) cdv A outer s H E).env (cxOf (L2N.CX P w) P w K mg base N_is_plan (ql .is_plan) (defScope (st .is_plan)) (He.fAd K (at_ .is_plan)) cdv A outer s H E).xe := passes_of rfl
  exact (dss_cons (ds_if (dt_w (dw_or (dt_not (dt_val (de_isi ty_tuple (dv 0) rfl (T.fr "isinstance" (by decide +kernel)) rfl (T.fr "tuple" (by decide +kernel)) (by decide +kernel)))) (dw_or (dt_cmp od_lt (de_callB cd_len rfl (T.fr "len" (by decide +kernel)) (by decide +kernel) (da_cons (dv 0) da_nil)) de_int) (dw_or1 (dt_not (dt_val (de_isi ty_str (de_ix (dv 0) de_int) rfl (T.fr "isinstance" (by decide +kernel)) rfl (T.fr "str" (by decide +kernel)) (by decide +kernel)))))))) (dss_one (ds_ret de_bl)) dss_nil) (dss_cons (ds_if (dt_cmp (od_in hu5) (de_ix (dv 0) de_int) (de_con rfl T.c_LEAVES)) (dss_one (ds_ret (dcall (ih .is_leaf) gd hr tk rfl rfl (da_cons (dv 0) da_nil)))) dss_nil) (dss_cons (ds_if (dt_cmp (od_in hu5) (de_ix (dv 0) de_int) (de_tup (da_cons de_str (da_cons de_str da_nil)))) (dss_one (ds_ret (dcall (ih .is_joined) gd hr tk rfl rfl (da_cons (dv 0) da_nil)))) dss_nil) (dss_one (ds_ret (de_and (dcall (ih .has_numbers) gd hr tk rfl rfl (da_cons (dv 0) da_nil)) (de_one (dcall (ih .is_plan) gd hr tk rfl rfl (da_cons (de_ix (dv 0) (de_un ud_neg de_int)) da_nil)))))))))
theorem bd_words_for {fd : FuncData} (FD : FunD K (nm .words_for) (ql .words_for) (defArgs (st .words_for)) (defBody (st .words_for)) (defScope (st .words_for)) [] [] (He.fAd K (at_ .words_for)) fd) : Binds K fd (ps .words_for) [] := FD.bindsN fun _ _ _ _ _ _ us hl => match us, hl with | [_], _ => rfl
theorem ok_words_for (T : FT w K mg) {n : Nat} (ih : ∀ y, Ok P w K mg base n y) : Ok P w K mg base (n + 1) .words_for := by
  refine calmN_of T.toFactsN .words_for rfl sc_words_for (by decide) (fun fd FD => bd_words_for FD) fun cdv A outer s H E gd hr => ?_
  have hu := hr.units
  have hu5 := room65 hr
  have hu1 := room1 hr
  have hu12 := room12 hr
  have tk : L2N.Takes (cxOf (L2N.CX P w) P w K mg base N_words_for (ql .words_for) (defScope (st .words_for)) (He.fAd K (at_ .words_for)) cdv A outer s H E) (fun cls d _ H => E cls d H) := L2N.takes_of rfl rfl rfl rfl
  have po : PassesOwn (model P w) (cxOf (L2N.CX P w) P w K mg base N_words_for (ql .words_for) (defScope (st .words_for)) (He.fAd K (at_ .words_for)) cdv A outer s H E).A (cxOf (L2N.CX P w) P w K mg base N_words_for (ql .words_for) (defScope (st .words_for)) (He.fAd K (at_ .words_for)) cdv A outer s H E).env (cxOf (L2N.CX P w) P w K mg base N_words_for (ql .words_for) (defScope (st .words_for)) (He.fAd K (at_ .words_for)) cdv A outer s H E).xe := passes_of rfl
  exact (dss_cons (ds_if (dt_val (de_isi ty_int (dv 0) rfl (T.fr "isinstance" (by decide +kernel)) rfl (T.fr "int" (by decide +kernel)) (by decide +kernel))) (dss_one (ds_ret (de_lst (da_cons (de_callTy cd_str2 rfl (T.fr "str" (by decide +kernel)) (by decide +kernel) (da_cons (dv 0) da_nil)) da_nil)))) dss_nil) (dss_cons (ds_if (dt_val (de_isi ty_str (dv 0) rfl (T.fr "isinstance" (by decide +kernel)) rfl (T.fr "str" (by decide +kernel)) (by decide +kernel))) (dss_one (ds_ret (de_lst (da_cons (dv 0) da_nil)))) dss_nil) (dss_cons (ds_set 1 sc_words_for.nd rfl (by first | exact Or.inl rfl | exact Or.inr rfl) (de_newL da_nil)) (dss_cons (ds_if (dt_w (dw_or (dt_cmp (od_eq hu) (dv 0) (de_tup da_nil)) (dw_or1 (dt_not (dt_val (de_isi ty_str (de_ix (dv 0) de_int) rfl (T.fr "isinstance" (by decide +kernel)) rfl (T.fr "str" (by decide +kernel)) (by decide +kernel))))))) (dss_one (ds_expr (de_append (dv 1) (de_callTy cd_str2 rfl (T.fr "str" (by decide +kernel)) (by decide +kernel) (da_cons (de_callB cd_len rfl (T.fr "len" (by decide +kernel)) (by decide +kernel) (da_cons (dv 0) da_nil)) da_nil))))) dss_nil) (dss_cons (ds_for po rfl (di_seq (dv 0)) (pg_name (i := 2) sc_words_for.nd rfl (by first | exact Or.inl rfl | exact Or.inr rfl)) (tgok_name _ 2) (dss_one (ds_expr (de_extend (dv 1) (dcall (ih .words_for) gd hr tk rfl rfl (da_cons (dv 2) da_nil)))))) (dss_one (ds_ret (de_free (dv 1)))))))))
theorem bd_plan_text {fd : FuncData} (FD : FunD K (nm .plan_text) (ql .plan_text) (defArgs (st .plan_text)) (defBody (st .plan_text)) (defScope (st .plan_text)) [] [] (He.fAd K (at_ .plan_text)) fd) : Binds K fd (ps .plan_text) [] := FD.bindsN fun _ _ _ _ _ _ us hl => match us, hl with | [_], _ => rfl
theorem ok_plan_text (T : FT w K mg) {n : Nat} (ih : ∀ y, Ok P w K mg base n y) : Ok P w K mg base (n + 1) .plan_text := by
  refine calmN_of T.toFactsN .plan_text rfl sc_plan_text (by decide) (fun fd FD => bd_plan_text FD) fun cdv A outer s H E gd hr => ?_
  have hu := hr.units
  have hu5 := room65 hr
  have hu1 := room1 hr
  have hu12 := room12 hr
  have tk : L2N.Takes (cxOf (L2N.CX P w) P w K mg base N_plan_text (ql .plan_text) (defScope (st .plan_text)) (He.fAd K (at_ .plan_text)) cdv A outer s H E) (fun cls d _ H => E cls d H) := L2N.takes_of rfl rfl rfl rfl
  have po : PassesOwn (model P w) (cxOf (L2N.CX P w) P w K mg base N_plan_text (ql .plan_text) (defScope (st .plan_text)) (He.fAd K (at_ .plan_text)) cdv A outer s H E).A (cxOf (L2N.CX P w) P w K mg base N_plan_text (ql .plan_text) (defScope (st .plan_text)) (He.fAd K (at_ .plan_text)) cdv A outer s H E).env (cxOf (L2N.CX P w) P w K mg base N_plan_text (ql .plan_text) (defScope (st .plan_text)) (He.fAd K (at_ .plan_text)) cdv A outer s H E).xe := passes_of rfl
  exact (dss_cons (ds_if (dt_not (dt_val (dcall (ih .is_plan) gd hr tk rfl rfl (da_cons (dv 0) da_nil)))) (dss_one (ds_raise rfl (T.X.xc "NoPlan" (by decide +kernel)) tk rfl rfl de_str)) dss_nil) (dss_one (ds_ret (de_join de_str (dcall (ih .words_for) gd hr tk rfl rfl (da_cons (dv 0) da_nil))))))
theorem bd_is_figures {fd : FuncData} (FD : FunD K (nm .is_figures) (ql .is_figures) (defArgs (st .is_figures)) (defBody (st .is_figures)) (defScope (st .is_figures)) [] [] (He.fAd K (at_ .is_figures)) fd) : Binds K fd (ps .is_figures) [] := FD.bindsN fun _ _ _ _ _ _ us hl => match us, hl with | [_], _ => rfl
theorem ok_is_figures (T : FT w K mg) {n : Nat} (ih : ∀ y, Ok P w K mg base n y) : Ok P w K mg base (n + 1) .is_figures := by
  refine calmN_of T.toFactsN .is_figures rfl sc_is_figures (by decide) (fun fd FD => bd_is_figures FD) fun cdv A outer s H E gd hr => ?_
  have hu := hr.units
  have hu5 := room65 hr
  have hu1 := room1 hr
  have hu12 := room12 hr
  have tk : L2N.Takes (cxOf (L2N.CX P w) P w K mg base N_is_figures (ql .is_figures) (defScope (st .is_figures)) (He.fAd K (at_ .is_figures)) cdv A outer s H E) (fun cls d _ H => E cls d H) := L2N.takes_of rfl rfl rfl rfl
  have po : PassesOwn (model P w) (cxOf (L2N.CX P w) P w K mg base N_is_figures (ql .is_figures) (defScope (st .is_figures)) (He.fAd K (at_ .is_figures)) cdv A outer s H E).A (cxOf (L2N.CX P w) P w K mg base N_is_figures (ql .is_figures) (defScope (st .is_figures)) (He.fAd K (at_ .is_figures)) cdv A outer s H E).env (cxOf (L2N.CX P w) P w K mg base N_is_figures (ql .is_figures) (defScope (st .is_figures)) (He.fAd K (at_ .is_figures)) cdv A outer s H E).xe := passes_of rfl
  exact (dss_cons (ds_if (dt_cmp od_eqS (de_sl (dv 0) dp_no (dp_at de_int)) de_str) (dss_one (ds_ret (de_and (de_cmp od_neS (dv 0) de_str) (de_and (de_cmp od_neS (de_sl (dv 0) (dp_at de_int) (dp_at de_int)) de_str) (de_one (dcall (ih .is_figures) gd hr tk rfl rfl (da_cons (de_sl (dv 0) (dp_at de_int) dp_no) da_nil))))))) dss_nil) (dss_one (ds_ret (de_and (de_cmp od_neS (dv 0) de_str) (de_and (de_callB (cd_all rfl) rfl (T.fr "all" (by decide +kernel)) (by decide +kernel) (da_cons (de_comp (own := [("sign", 1)]) rfl sc_is_figures.nd (di_chars (dv 0)) (blkOk_by (own := [("sign", 1)]) (N := N_is_figures) (sc := defScope (st .is_figures)) (by decide +kernel)) (fun _ _ _ _ _ => (pg_name (i := 1) sc_is_figures.nd rfl (by first | exact Or.inl rfl | exact Or.inr rfl))) (tgok_name _ 1) (by decide) (fun _ _ _ _ _ => (de_cmp od_inS (dv 1) (de_con rfl T.c_FIGURES)))) da_nil)) (de_one (de_or (de_cmp od_neS (de_ix (dv 0) de_int) de_str) (de_one (de_cmp od_eqS (dv 0) de_str)))))))))
theorem bd_read_plan {fd : FuncData} (FD : FunD K (nm .read_plan) (ql .read_plan) (defArgs (st .read_plan)) (defBody (st .read_plan)) (defScope (st .read_plan)) [] [] (He.fAd K (at_ .read_plan)) fd) : Binds K fd (ps .read_plan) [] := FD.bindsN fun _ _ _ _ _ _ us hl => match us, hl with | [_], _ => rfl
theorem ok_read_plan (T : FT w K mg) {n : Nat} (ih : ∀ y, Ok P w K mg base n y) : Ok P w K mg base (n + 1) .read_plan := by
  refine calmN_of T.toFactsN .read_plan rfl sc_read_plan (by decide) (fun fd FD => bd_read_plan FD) fun cdv A outer s H E gd hr => ?_
  have hu := hr.units
  have hu5 := room65 hr
  have hu1 := room1 hr
  have hu12 := room12 hr
  have tk : L2N.Takes (cxOf (L2N.CX P w) P w K mg base N_read_plan (ql .read_plan) (defScope (st .read_plan)) (He.fAd K (at_ .read_plan)) cdv A outer s H E) (fun cls d _ H => E cls d H) := L2N.takes_of rfl rfl rfl rfl
  have po : PassesOwn (model P w) (cxOf (L2N.CX P w) P w K mg base N_read_plan (ql .read_plan) (defScope (st .read_plan)) (He.fAd K (at_ .read_plan)) cdv A outer s H E).A (cxOf (L2N.CX P w) P w K mg base N_read_plan (ql .read_plan) (defScope (st .read_plan)) (He.fAd K (at_ .read_plan)) cdv A outer s H E).env (cxOf (L2N.CX P w) P w K mg base N_read_plan (ql .read_plan) (defScope (st .read_plan)) (He.fAd K (at_ .read_plan)) cdv A outer s H E).xe := passes_of rfl
  exact (dss_cons (ds_if (dt_not (dt_val (de_isi ty_str (dv 0) rfl (T.fr "isinstance" (by decide +kernel)) rfl (T.fr "str" (by decide +kernel)) (by decide +kernel)))) (dss_one (ds_raise rfl (T.X.xc "NoText" (by decide +kernel)) tk rfl rfl de_str)) dss_nil) (dss_cons (ds_set 1 sc_read_plan.nd rfl (by first | exact Or.inl rfl | exact Or.inr rfl) (dmake (ih .new_Words) gd hr tk rfl rfl (da_cons (de_split (dv 0) de_str) da_nil))) (dss_cons (ds_set 2 sc_read_plan.nd rfl (by first | exact Or.inl rfl | exact Or.inr rfl) (dmeth (ih .Words_thing_of) gd hr tk rfl (dv 1) (da_cons de_str (da_cons de_int da_nil)))) (dss_cons (ds_if (dt_w (dw_or (dt_not (dt_val (dmeth0 (ih .Words_is_read) gd hr tk rfl (dv 1)))) (dw_or1 (dt_not (dt_val (dcall (ih .is_plan) gd hr tk rfl rfl (da_cons (dv 2) da_nil))))))) (dss_one (ds_raise rfl (T.X.xc "NoText" (by decide +kernel)) tk rfl rfl de_str)) dss_nil) (dss_one (ds_ret (dv 2)))))))
theorem bd_l_pot {fd : FuncData} (FD : FunD K (nm .l_pot) (ql .l_pot) (defArgs (st .l_pot)) (defBody (st .l_pot)) (defScope (st .l_pot)) [] [] (He.fAd K (at_ .l_pot)) fd) : Binds K fd (ps .l_pot) [] := FD.bindsN fun _ _ _ _ _ _ us hl => match us, hl with | [_, _], _ => rfl
theorem ok_l_pot (T : FT w K mg) {n : Nat} (ih : ∀ y, Ok P w K mg base n y) : Ok P w K mg base (n + 1) .l_pot := by
  refine calmN_of T.toFactsN .l_pot rfl sc_l_pot (by decide) (fun fd FD => bd_l_pot FD) fun cdv A outer s H E gd hr => ?_
  have hu := hr.units
  have hu5 := room65 hr
  have hu1 := room1 hr
  have hu12 := room12 hr
  have tk : L2N.Takes (cxOf (L2N.CX P w) P w K mg base N_l_pot (ql .l_pot) (defScope (st .l_pot)) (He.fAd K (at_ .l_pot)) cdv A outer s H E) (fun cls d _ H => E cls d H) := L2N.takes_of rfl rfl rfl rfl
  have po : PassesOwn (model P w) (cxOf (L2N.CX P w) P w K mg base N_l_pot (ql .l_pot) (defScope (st .l_pot)) (He.fAd K (at_ .l_pot)) cdv A outer s H E).A (cxOf (L2N.CX P w) P w K mg base N_l_pot (ql .l_pot) (defScope (st .l_pot)) (He.fAd K (at_ .l_pot)) cdv A outer s H E).env (cxOf (L2N.CX P w) P w K mg base N_l_pot (ql .l_pot) (defScope (st .l_pot)) (He.fAd K (at_ .l_pot)) cdv A outer s H E).xe := passes_of rfl
  exact (dss_cons (ds_set 2 sc_l_pot.nd rfl (by first | exact Or.inl rfl | exact Or.inr rfl) (de_if (dt_cmp od_lt (dv 1) (de_callB cd_len rfl (T.fr "len" (by decide +kernel)) (by decide +kernel) (da_cons (dv 0) da_nil))) (de_ix (dv 0) (dv 1)) de_int)) (dss_cons (ds_set 3 sc_l_pot.nd rfl (by first | exact Or.inl rfl | exact Or.inr rfl) (de_op od_mod (de_op od_mul (de_op od_add (de_op od_mod (dv 2) de_int) de_int) de_int) de_int)) (dss_one (ds_ret (de_newL (da_cons (de_callB (cd_max2 rfl) rfl (T.fr "max" (by decide +kernel)) (by decide +kernel) (da_cons de_int (da_cons (de_op od_sub (dv 2) (de_op od_pow de_int de_int)) da_nil))) (da_cons (de_op od_add (de_op od_add (de_op od_mod (de_op od_mul (dv 3) (dv 3)) de_int) (de_op od_mul de_int (dv 1))) de_int) da_nil)))))))
theorem bd_l_take {fd : FuncData} (FD : FunD K (nm .l_take) (ql .l_take) (defArgs (st .l_take)) (defBody (st .l_take)) (defScope (st .l_take)) [] [] (He.fAd K (at_ .l_take)) fd) : Binds K fd (ps .l_take) [] := FD.bindsN fun _ _ _ _ _ _ us hl => match us, hl with | [_, _], _ => rfl
theorem ok_l_take (T : FT w K mg) {n : Nat} (ih : ∀ y, Ok P w K mg base n y) : Ok P w K mg base (n + 1) .l_take := by
  refine calmN_of T.toFactsN .l_take rfl sc_l_take (by decide) (fun fd FD => bd_l_take FD) fun cdv A outer s H E gd hr => ?_
  have hu := hr.units
  have hu5 := room65 hr
  have hu1 := room1 hr
  have hu12 := room12 hr
  have tk : L2N.Takes (cxOf (L2N.CX P w) P w K mg base N_l_take (ql .l_take) (defScope (st .l_take)) (He.fAd K (at_ .l_take)) cdv A outer s H E) (fun cls d _ H => E cls d H) := L2N.takes_of rfl rfl rfl rfl
  have po : PassesOwn (model P w) (cxOf (L2N.CX P w) P w K mg base N_l_take (ql .l_take) (defScope (st .l_take)) (He.fAd K (at_ .l_take)) cdv A outer s H E).A (cxOf (L2N.CX P w) P w K mg base N_l_take (ql .l_take) (defScope (st .l_take)) (He.fAd K (at_ .l_take)) cdv A outer s H E).env (cxOf (L2N.CX P w) P w K mg base N_l_take (ql .l_take) (defScope (st .l_take)) (He.fAd K (at_ .l_take)) cdv A outer s H E).xe := passes_of rfl
  exact (dss_cons (ds_if (dt_cmp od_gt (de_ix (dv 0) de_int) de_int) (dss_cons (ds_asg (de_callB cd_divmod rfl (T.fr "divmod" (by decide +kernel)) (by decide +kernel) (da_cons (de_ix (dv 0) de_int) (da_cons (dv 1) da_nil))) (dg_pair rfl (dg_sub (dv 0) de_int) (dg_name 2 sc_l_take.nd rfl (by first | exact Or.inl rfl | exact Or.inr rfl)))) (dss_one (ds_ret (dv 2)))) dss_nil) (dss_cons (ds_asg (de_op od_mod (de_op od_add (de_op od_mul (de_ix (dv 0) de_int) de_int) de_int) de_int) (dg_sub (dv 0) de_int)) (dss_one (ds_ret (de_op od_mod (de_op od_div (de_op od_mod (de_op od_mul (de_ix (dv 0) de_int) (de_ix (dv 0) de_int)) de_int) de_int) (dv 1))))))
theorem bd_l_number {fd : FuncData} (FD : FunD K (nm .l_number) (ql .l_number) (defArgs (st .l_number)) (defBody (st .l_number)) (defScope (st .l_number)) [] [] (He.fAd K (at_ .l_number)) fd) : Binds K fd (ps .l_number) [] := FD.bindsN fun _ _ _ _ _ _ us hl => match us, hl with | [_], _ => rfl
theorem ok_l_number (T : FT w K mg) {n : Nat} (ih : ∀ y, Ok P w K mg base n y) : Ok P w K mg base (n + 1) .l_number := by
  refine calmN_of T.toFactsN .l_number rfl sc_l_number (by decide) (fun fd FD => bd_l_number FD) fun cdv A outer s H E gd hr => ?_
  have hu := hr.units
  have hu5 := room65 hr
  have hu1 := room1 hr
  have hu12 := room12 hr
  have tk : L2N.Takes (cxOf (L2N.CX P w) P w K mg base N_l_number (ql .l_number) (defScope (st .l_number)) (He.fAd K (at_ .l_number)) cdv A outer s H E) (fun cls d _ H => E cls d H) := L2N.takes_of rfl rfl rfl rfl
  have po : PassesOwn (model P w) (cxOf (L2N.CX P w) P w K mg base N_l_number (ql .l_number) (defScope (st .l_number)) (He.fAd K (at_ .l_number)) cdv A outer s H E).A (cxOf (L2N.CX P w) P w K mg base N_l_number (ql .l_number) (defScope (st .l_number)) (He.fAd K (at_ .l_number)) cdv A outer s H E).env (cxOf (L2N.CX P w) P w K mg base N_l_number (ql .l_number) (defScope (st .l_number)) (He.fAd K (at_ .l_number)) cdv A outer s H E).xe := passes_of rfl
  exact (dss_cons (ds_if (dt_cmp (od_eq hu) (dcall (ih .l_take) gd hr tk rfl rfl (da_cons (dv 0) (da_cons de_int da_nil))) de_int) (dss_one (ds_ret (de_op od_add (de_op od_sub (dcall (ih .l_take) gd hr tk rfl rfl (da_cons (dv 0) (da_cons (de_op od_sub (de_op od_mul de_int (de_op od_pow de_int de_int)) de_int) da_nil))) (de_op od_pow de_int de_int)) de_int))) dss_nil) (dss_one (ds_ret (de_op od_sub (dcall (ih .l_take) gd hr tk rfl rfl (da_cons (dv 0) (da_cons de_int da_nil))) de_int))))
theorem bd_l_word {fd : FuncData} (FD : FunD K (nm .l_word) (ql .l_word) (defArgs (st .l_word)) (defBody (st .l_word)) (defScope (st .l_word)) [] [] (He.fAd K (at_ .l_word)) fd) : Binds K fd (ps .l_word) [] := FD.bindsN fun _ _ _ _ _ _ us hl => match us, hl with | [_], _ => rfl
theorem ok_l_word (T : FT w K mg) {n : Nat} (ih : ∀ y, Ok P w K mg base n y) : Ok P w K mg base (n + 1) .l_word := by
  refine calmN_of T.toFactsN .l_word rfl sc_l_word (by decide) (fun fd FD => bd_l_word FD) fun cdv A outer s H E gd hr => ?_
  have hu := hr.units
  have hu5 := room65 hr
  have hu1 := room1 hr
  have hu12 := room12 hr
  have tk : L2N.Takes (cxOf (L2N.CX P w) P w K mg base N_l_word (ql .l_word) (defScope (st .l_word)) (He.fAd K (at_ .l_word)) cdv A outer s H E) (fun cls d _ H => E cls d H) := L2N.takes_of rfl rfl rfl rfl
  have po : PassesOwn (model P w) (cxOf (L2N.CX P w) P w K mg base N_l_word (ql .l_word) (defScope (st .l_word)) (He.fAd K (at_ .l_word)) cdv A outer s H E).A (cxOf (L2N.CX P w) P w K mg base N_l_word (ql .l_word) (defScope (st .l_word)) (He.fAd K (at_ .l_word)) cdv A outer s H E).env (cxOf (L2N.CX P w) P w K mg base N_l_word (ql .l_word) (defScope (st .l_word)) (He.fAd K (at_ .l_word)) cdv A outer s H E).xe := passes_of rfl
  exact (dss_cons (ds_set 1 sc_l_word.nd rfl (by first | exact Or.inl rfl | exact Or.inr rfl) de_str) (dss_cons (ds_if (dt_cmp (od_eq hu) (dcall (ih .l_take) gd hr tk rfl rfl (da_cons (dv 0) (da_cons de_int da_nil))) de_int) (dss_one (ds_ret (de_ix (de_lst (da_cons de_str (da_cons de_str (da_cons de_str (da_cons de_str (da_cons de_str (da_cons de_str (da_cons de_str da_nil)))))))) (dcall (ih .l_take) gd hr tk rfl rfl (da_cons (dv 0) (da_cons de_int da_nil)))))) dss_nil) (dss_cons (ds_set 2 sc_l_word.nd rfl (by first | exact Or.inl rfl | exact Or.inr rfl) (de_ix (de_lst (da_cons de_int (da_cons de_int (da_cons de_int (da_cons de_int (da_cons de_int da_nil)))))) (dcall (ih .l_take) gd hr tk rfl rfl (da_cons (dv 0) (da_cons de_int da_nil))))) (dss_one (ds_ret (de_join de_str (de_comp (own := [("_law_k", 3)]) rfl sc_l_word.nd (di_range rfl (T.fr "range" (by decide +kernel)) (dv 2)) (blkOk_by (own := [("_law_k", 3)]) (N := N_l_word) (sc := defScope (st .l_word)) (by decide +kernel)) (fun _ _ _ _ _ => (pg_name (i := 3) sc_l_word.nd rfl (by first | exact Or.inl rfl | exact Or.inr rfl))) (tgok_name _ 3) (by decide) (fun _ _ _ _ _ => (de_ix (dv 1) (dcall (ih .l_take) gd hr takes0N rfl rfl (da_cons (dv 0) (da_cons de_int da_nil))))))))))))
theorem bd_l_rest {fd : FuncData} (FD : FunD K (nm .l_rest) (ql .l_rest) (defArgs (st .l_rest)) (defBody (st .l_rest)) (defScope (st .l_rest)) [] [] (He.fAd K (at_ .l_rest)) fd) : Binds K fd (ps .l_rest) [] := FD.bindsN fun _ _ _ _ _ _ us hl => match us, hl with | [_], _ => rfl
theorem ok_l_rest (T : FT w K mg) {n : Nat} (ih : ∀ y, Ok P w K mg base n y) : Ok P w K mg base (n + 1) .l_rest := by
  refine calmN_of T.toFactsN .l_rest rfl sc_l_rest (by decide) (fun fd FD => bd_l_rest FD) fun cdv A outer s H E gd hr => ?_
  have hu := hr.units
  have hu5 := room65 hr
  have hu1 := room1 hr
  have hu12 := room12 hr
  have tk : L2N.Takes (cxOf (L2N.CX P w) P w K mg base N_l_rest (ql .l_rest) (defScope (st .l_rest)) (He.fAd K (at_ .l_rest)) cdv A outer s H E) (fun cls d _ H => E cls d H) := L2N.takes_of rfl rfl rfl rfl
  have po : PassesOwn (model P w) (cxOf (L2N.CX P w) P w K mg base N_l_rest (ql .l_rest) (defScope (st .l_rest)) (He.fAd K (at_ .l_rest)) cdv A outer s H E).A (cxOf (L2N.CX P w) P w K mg base N_l_rest (ql .l_rest) (defScope (st .l_rest)) (He.fAd K (at_ .l_rest)) cdv A outer s H E).env (cxOf (L2N.CX P w) P w K mg base N_l_rest (ql .l_rest) (defScope (st .l_rest)) (He.fAd K (at_ .l_rest)) cdv A outer s H E).xe := passes_of rfl
  exact (dss_one (ds_ret (de_op od_add de_int (dcall (ih .l_take) gd hr tk rfl rfl (da_cons (dv 0) (da_cons (de_ix (de_lst (da_cons de_int (da_cons de_int (da_cons (de_op od_sub (de_op od_pow de_int de_int) de_int) da_nil)))) (dcall (ih .l_take) gd hr tk rfl rfl (da_cons (dv 0) (da_cons de_int da_nil)))) da_nil))))))
theorem bd_l_change {fd : FuncData} (FD : FunD K (nm .l_change) (ql .l_change) (defArgs (st .l_change)) (defBody (st .l_change)) (defScope (st .l_change)) [] [] (He.fAd K (at_ .l_change)) fd) : Binds K fd (ps .l_change) [] := FD.bindsN fun _ _ _ _ _ _ us hl => match us, hl with | [_], _ => rfl
theorem ok_l_change (T : FT w K mg) {n : Nat} (ih : ∀ y, Ok P w K mg base n y) : Ok P w K mg base (n + 1) .l_change := by
  refine calmN_of T.toFactsN .l_change rfl sc_l_change (by decide) (fun fd FD => bd_l_change FD) fun cdv A outer s H E gd hr => ?_
  have hu := hr.units
  have hu5 := room65 hr
  have hu1 := room1 hr
  have hu12 := room12 hr
  have tk : L2N.Takes (cxOf (L2N.CX P w) P w K mg base N_l_change (ql .l_change) (defScope (st .l_change)) (He.fAd K (at_ .l_change)) cdv A outer s H E) (fun cls d _ H => E cls d H) := L2N.takes_of rfl rfl rfl rfl
  have po : PassesOwn (model P w) (cxOf (L2N.CX P w) P w K mg base N_l_change (ql .l_change) (defScope (st .l_change)) (He.fAd K (at_ .l_change)) cdv A outer s H E).A (cxOf (L2N.CX P w) P w K mg base N_l_change (ql .l_change) (defScope (st .l_change)) (He.fAd K (at_ .l_change)) cdv A outer s H E).env (cxOf (L2N.CX P w) P w K mg base N_l_change (ql .l_change) (defScope (st .l_change)) (He.fAd K (at_ .l_change)) cdv A outer s H E).xe := passes_of rfl
  exact (dss_cons (ds_set 1 sc_l_change.nd rfl (by first | exact Or.inl rfl | exact Or.inr rfl) (dcall (ih .l_take) gd hr tk rfl rfl (da_cons (dv 0) (da_cons de_int da_nil)))) (dss_cons (ds_if (dt_cmp (od_eq hu) (dv 1) de_int) (dss_one (ds_ret (de_tup (da_cons de_str da_nil)))) dss_nil) (dss_cons (ds_if (dt_cmp (od_eq hu) (dv 1) de_int) (dss_one (ds_ret (de_tup (da_cons de_str da_nil)))) dss_nil) (dss_one (ds_ret (de_tup (da_cons (de_ix (de_lst (da_cons de_str (da_cons de_str (da_cons de_str da_nil)))) (dv 1)) (da_cons (de_ix (de_lst (da_cons (dcall (ih .l_number) gd hr tk rfl rfl (da_cons (dv 0) da_nil)) (da_cons (dcall (ih .l_rest) gd hr tk rfl rfl (da_cons (dv 0) da_nil)) da_nil))) (de_callTy cd_intB rfl (T.fr "int" (by decide +kernel)) (by decide +kernel) (da_cons (de_cmp (od_eq hu) (dv 1) de_int) da_nil))) da_nil))))))))
theorem bd_l_rule {fd : FuncData} (FD : FunD K (nm .l_rule) (ql .l_rule) (defArgs (st .l_rule)) (defBody (st .l_rule)) (defScope (st .l_rule)) [] [] (He.fAd K (at_ .l_rule)) fd) : Binds K fd (ps .l_rule) [] := FD.bindsN fun _ _ _ _ _ _ us hl => match us, hl with | [_], _ => rfl
theorem ok_l_rule (T : FT w K mg) {n : Nat} (ih : ∀ y, Ok P w K mg base n y) : Ok P w K mg base (n + 1) .l_rule := by
  refine calmN_of T.toFactsN .l_rule rfl sc_l_rule (by decide) (fun fd FD => bd_l_rule FD) fun cdv A outer s H E gd hr => ?_
  have hu := hr.units
  have hu5 := room65 hr
  have hu1 := room1 hr
  have hu12 := room12 hr
  have tk : L2N.Takes (cxOf (L2N.CX P w) P w K mg base N_l_rule (ql .l_rule) (defScope (st .l_rule)) (He.fAd K (at_ .l_rule)) cdv A outer s H E) (fun cls d _ H => E cls d H) := L2N.takes_of rfl rfl rfl rfl
  have po : PassesOwn (model P w) (cxOf (L2N.CX P w) P w K mg base N_l_rule (ql .l_rule) (defScope (st .l_rule)) (He.fAd K (at_ .l_rule)) cdv A outer s H E).A (cxOf (L2N.CX P w) P w K mg base N_l_rule (ql .l_rule) (defScope (st .l_rule)) (He.fAd K (at_ .l_rule)) cdv A outer s H E).env (cxOf (L2N.CX P w) P w K mg base N_l_rule (ql .l_rule) (defScope (st .l_rule)) (He.fAd K (at_ .l_rule)) cdv A outer s H E).xe := passes_of rfl
  exact (dss_one (ds_ret (de_callTy cd_tuple rfl (T.fr "tuple" (by decide +kernel)) (by decide +kernel) (da_cons (de_comp (own := [("_law_k", 1)]) rfl sc_l_rule.nd (di_range rfl (T.fr "range" (by decide +kernel)) (dcall (ih .l_take) gd hr tk rfl rfl (da_cons (dv 0) (da_cons de_int da_nil)))) (blkOk_by (own := [("_law_k", 1)]) (N := N_l_rule) (sc := defScope (st .l_rule)) (by decide +kernel)) (fun _ _ _ _ _ => (pg_name (i := 1) sc_l_rule.nd rfl (by first | exact Or.inl rfl | exact Or.inr rfl))) (tgok_name _ 1) (by decide) (fun _ _ _ _ _ => (dcall (ih .l_change) gd hr takes0N rfl rfl (da_cons (dv 0) da_nil)))) da_nil))))
theorem bd_l_look {fd : FuncData} (FD : FunD K (nm .l_look) (ql .l_look) (defArgs (st .l_look)) (defBody (st .l_look)) (defScope (st .l_look)) [] [] (He.fAd K (at_ .l_look)) fd) : Binds K fd (ps .l_look) [] := FD.bindsN fun _ _ _ _ _ _ us hl => match us, hl with | [_, _], _ => rfl
theorem ok_l_look (T : FT w K mg) {n : Nat} (ih : ∀ y, Ok P w K mg base n y) : Ok P w K mg base (n + 1) .l_look := by
  refine calmN_of T.toFactsN .l_look rfl sc_l_look (by decide) (fun fd FD => bd_l_look FD) fun cdv A outer s H E gd hr => ?_
  have hu := hr.units
  have hu5 := room65 hr
  have hu1 := room1 hr
  have hu12 := room12 hr
  have tk : L2N.Takes (cxOf (L2N.CX P w) P w K mg base N_l_look (ql .l_look) (defScope (st .l_look)) (He.fAd K (at_ .l_look)) cdv A outer s H E) (fun cls d _ H => E cls d H) := L2N.takes_of rfl rfl rfl rfl
  have po : PassesOwn (model P w) (cxOf (L2N.CX P w) P w K mg base N_l_look (ql .l_look) (defScope (st .l_look)) (He.fAd K (at_ .l_look)) cdv A outer s H E).A (cxOf (L2N.CX P w) P w K mg base N_l_look (ql .l_look) (defScope (st .l_look)) (He.fAd K (at_ .l_look)) cdv A outer s H E).env (cxOf (L2N.CX P w) P w K mg base N_l_look (ql .l_look) (defScope (st .l_look)) (He.fAd K (at_ .l_look)) cdv A outer s H E).xe := passes_of rfl
  exact (dss_cons (ds_set 2 sc_l_look.nd rfl (by first | exact Or.inl rfl | exact Or.inr rfl) (dcall (ih .l_take) gd hr tk rfl rfl (da_cons (dv 0) (da_cons de_int da_nil)))) (dss_cons (ds_if (dt_w (dw_or (dt_cmp (od_eq hu) (dv 2) de_int) (dw_or1 (dt_w (dw_and (dt_cmp (od_eq hu) (dv 2) de_int) (dw_and1 (dt_cmp (od_eq hu) (dv 1) de_int))))))) (dss_cons (ds_set 3 sc_l_look.nd rfl (by first | exact Or.inl rfl | exact Or.inr rfl) (dcall (ih .l_rest) gd hr tk rfl rfl (da_cons (dv 0) da_nil))) (dss_one (ds_ret (de_tup (da_cons de_str (da_cons (dv 3) (da_cons (dcall (ih .l_take) gd hr tk rfl rfl (da_cons (dv 0) (da_cons (dv 3) da_nil))) da_nil))))))) dss_nil) (dss_cons (ds_if (dt_cmp (od_eq hu) (dv 2) de_int) (dss_one (ds_ret (de_tup (da_cons de_str (da_cons (dcall (ih .l_number) gd hr tk rfl rfl (da_cons (dv 0) da_nil)) da_nil))))) dss_nil) (dss_one (ds_ret (de_tup (da_cons de_str (da_cons (dcall (ih .l_rule) gd hr tk rfl rfl (da_cons (dv 0) da_nil)) (da_cons (dcall (ih .l_test) gd hr tk rfl rfl (da_cons (dv 0) (da_cons (de_op od_sub (dv 1) de_int) da_nil))) da_nil)))))))))
theorem bd_l_test {fd : FuncData} (FD : FunD K (nm .l_test) (ql .l_test) (defArgs (st .l_test)) (defBody (st .l_test)) (defScope (st .l_test)) [] [] (He.fAd K (at_ .l_test)) fd) : Binds K fd (ps .l_test) [] := FD.bindsN fun _ _ _ _ _ _ us hl => match us, hl with | [_, _], _ => rfl
theorem ok_l_test (T : FT w K mg) {n : Nat} (ih : ∀ y, Ok P w K mg base n y) : Ok P w K mg base (n + 1) .l_test := by
  refine calmN_of T.toFactsN .l_test rfl sc_l_test (by decide) (fun fd FD => bd_l_test FD) fun cdv A outer s H E gd hr => ?_
  have hu := hr.units
  have hu5 := room65 hr
  have hu1 := room1 hr
  have hu12 := room12 hr
  have tk : L2N.Takes (cxOf (L2N.CX P w) P w K mg base N_l_test (ql .l_test) (defScope (st .l_test)) (He.fAd K (at_ .l_test)) cdv A outer s H E) (fun cls d _ H => E cls d H) := L2N.takes_of rfl rfl rfl rfl
  have po : PassesOwn (model P w) (cxOf (L2N.CX P w) P w K mg base N_l_test (ql .l_test) (defScope (st .l_test)) (He.fAd K (at_ .l_test)) cdv A outer s H E).A (cxOf (L2N.CX P w) P w K mg base N_l_test (ql .l_test) (defScope (st .l_test)) (He.fAd K (at_ .l_test)) cdv A outer s H E).env (cxOf (L2N.CX P w) P w K mg base N_l_test (ql .l_test) (defScope (st .l_test)) (He.fAd K (at_ .l_test)) cdv A outer s H E).xe := passes_of rfl
  exact (dss_one (ds_ret (de_callTy cd_tuple rfl (T.fr "tuple" (by decide +kernel)) (by decide +kernel) (da_cons (de_comp (own := [("_law_k", 2)]) rfl sc_l_test.nd (di_range rfl (T.fr "range" (by decide +kernel)) (dcall (ih .l_take) gd hr tk rfl rfl (da_cons (dv 0) (da_cons de_int da_nil)))) (blkOk_by (own := [("_law_k", 2)]) (N := N_l_test) (sc := defScope (st .l_test)) (by decide +kernel)) (fun _ _ _ _ _ => (pg_name (i := 2) sc_l_test.nd rfl (by first | exact Or.inl rfl | exact Or.inr rfl))) (tgok_name _ 2) (by decide) (fun _ _ _ _ _ => (dcall (ih .l_look) gd hr takes0N rfl rfl (da_cons (dv 0) (da_cons (dv 1) da_nil))))) da_nil))))
theorem bd_l_leaf {fd : FuncData} (FD : FunD K (nm .l_leaf) (ql .l_leaf) (defArgs (st .l_leaf)) (defBody (st .l_leaf)) (defScope (st .l_leaf)) [] [] (He.fAd K (at_ .l_leaf)) fd) : Binds K fd (ps .l_leaf) [] := FD.bindsN fun _ _ _ _ _ _ us hl => match us, hl with | [_], _ => rfl
theorem ok_l_leaf (T : FT w K mg) {n : Nat} (ih : ∀ y, Ok P w K mg base n y) : Ok P w K mg base (n + 1) .l_leaf := by
  refine calmN_of T.toFactsN .l_leaf rfl sc_l_leaf (by decide) (fun fd FD => bd_l_leaf FD) fun cdv A outer s H E gd hr => ?_
  have hu := hr.units
  have hu5 := room65 hr
  have hu1 := room1 hr
  have hu12 := room12 hr
  have tk : L2N.Takes (cxOf (L2N.CX P w) P w K mg base N_l_leaf (ql .l_leaf) (defScope (st .l_leaf)) (He.fAd K (at_ .l_leaf)) cdv A outer s H E) (fun cls d _ H => E cls d H) := L2N.takes_of rfl rfl rfl rfl
  have po : PassesOwn (model P w) (cxOf (L2N.CX P w) P w K mg base N_l_leaf (ql .l_leaf) (defScope (st .l_leaf)) (He.fAd K (at_ .l_leaf)) cdv A outer s H E).A (cxOf (L2N.CX P w) P w K mg base N_l_leaf (ql .l_leaf) (defScope (st .l_leaf)) (He.fAd K (at_ .l_leaf)) cdv A outer s H E).env (cxOf (L2N.CX P w) P w K mg base N_l_leaf (ql .l_leaf) (defScope (st .l_leaf)) (He.fAd K (at_ .l_leaf)) cdv A outer s H E).xe := passes_of rfl
  exact (dss_cons (ds_par 1 2 rfl sc_l_leaf.nd rfl rfl (by decide) rfl rfl (dcall (ih .l_take) gd hr tk rfl rfl (da_cons (dv 0) (da_cons de_int da_nil))) (de_ix (de_lst (da_cons (dcall (ih .l_take) gd hr tk rfl rfl (da_cons (dv 0) (da_cons de_int da_nil))) (da_cons (dcall (ih .l_take) gd hr tk rfl rfl (da_cons (dv 0) (da_cons de_int da_nil))) da_nil))) (de_callTy cd_intB rfl (T.fr "int" (by decide +kernel)) (by decide +kernel) (da_cons (de_cmp (od_eq hu) (dcall (ih .l_take) gd hr tk rfl rfl (da_cons (dv 0) (da_cons de_int da_nil))) de_int) da_nil)))) (dss_cons (ds_set 3 sc_l_leaf.nd rfl (by first | exact Or.inl rfl | exact Or.inr rfl) (de_callTy cd_tuple rfl (T.fr "tuple" (by decide +kernel)) (by decide +kernel) (da_cons (de_comp (own := [("_law_k", 4)]) rfl sc_l_leaf.nd (di_range rfl (T.fr "range" (by decide +kernel)) (dv 2)) (blkOk_by (own := [("_law_k", 4)]) (N := N_l_leaf) (sc := defScope (st .l_leaf)) (by decide +kernel)) (fun _ _ _ _ _ => (pg_name (i := 4) sc_l_leaf.nd rfl (by first | exact Or.inl rfl | exact Or.inr rfl))) (tgok_name _ 4) (by decide) (fun _ _ _ _ _ => (dcall (ih .l_number) gd hr takes0N rfl rfl (da_cons (dv 0) da_nil)))) da_nil))) (dss_cons (ds_if (dt_cmp (od_eq hu) (dv 1) de_int) (dss_one (ds_ret (de_tup (da_cons de_str (da_cons (dv 3) da_nil))))) dss_nil) (dss_cons (ds_if (dt_cmp (od_eq hu) (dv 1) de_int) (dss_one (ds_ret (de_tup (da_cons de_str (da_cons (dv 3) (da_cons (dcall (ih .l_word) gd hr tk rfl rfl (da_cons (dv 0) da_nil)) da_nil)))))) dss_nil) (dss_cons (ds_if (dt_cmp (od_eq hu) (dv 1) de_int) (dss_one (ds_ret (de_tup (da_cons de_str (da_cons (dcall (ih .l_number) gd hr tk rfl rfl (da_cons (dv 0) da_nil)) (da_cons (dcall (ih .l_number) gd hr tk rfl rfl (da_cons (dv 0) da_nil)) (da_cons (dcall (ih .l_take) gd hr tk rfl rfl (da_cons (dv 0) (da_cons de_int da_nil))) da_nil))))))) dss_nil) (dss_one (ds_ret (de_tup (da_cons de_str (da_cons (dcall (ih .l_take) gd hr tk rfl rfl (da_cons (dv 0) (da_cons de_int da_nil))) da_nil))))))))))
theorem bd_l_upon {fd : FuncData} (FD : FunD K (nm .l_upon) (ql .l_upon) (defArgs (st .l_upon)) (defBody (st .l_upon)) (defScope (st .l_upon)) [] [] (He.fAd K (at_ .l_upon)) fd) : Binds K fd (ps .l_upon) [] := FD.bindsN fun _ _ _ _ _ _ us hl => match us, hl with | [_, _, _], _ => rfl
theorem ok_l_upon (T : FT w K mg) {n : Nat} (ih : ∀ y, Ok P w K mg base n y) : Ok P w K mg base (n + 1) .l_upon := by
  refine calmN_of T.toFactsN .l_upon rfl sc_l_upon (by decide) (fun fd FD => bd_l_upon FD) fun cdv A outer s H E gd hr => ?_
  have hu := hr.units
  have hu5 := room65 hr
  have hu1 := room1 hr
  have hu12 := room12 hr
  have tk : L2N.Takes (cxOf (L2N.CX P w) P w K mg base N_l_upon (ql .l_upon) (defScope (st .l_upon)) (He.fAd K (at_ .l_upon)) cdv A outer s H E) (fun cls d _ H => E cls d H) := L2N.takes_of rfl rfl rfl rfl
  have po : PassesOwn (model P w) (cxOf (L2N.CX P w) P w K mg base N_l_upon (ql .l_upon) (defScope (st .l_upon)) (He.fAd K (at_ .l_upon)) cdv A outer s H E).A (cxOf (L2N.CX P w) P w K mg base N_l_upon (ql .l_upon) (defScope (st .l_upon)) (He.fAd K (at_ .l_upon)) cdv A outer s H E).env (cxOf (L2N.CX P w) P w K mg base N_l_upon (ql .l_upon) (defScope (st .l_upon)) (He.fAd K (at_ .l_upon)) cdv A outer s H E).xe := passes_of rfl
  exact (dss_cons (ds_set 3 sc_l_upon.nd rfl (by first | exact Or.inl rfl | exact Or.inr rfl) (de_ix (de_lst (da_cons (dcall (ih .l_take) gd hr tk rfl rfl (da_cons (dv 0) (da_cons de_int da_nil))) (da_cons (dcall (ih .l_take) gd hr tk rfl rfl (da_cons (dv 0) (da_cons de_int da_nil))) da_nil))) (dcall (ih .l_take) gd hr tk rfl rfl (da_cons (dv 0) (da_cons de_int da_nil))))) (dss_cons (ds_if (dt_cmp (od_eq hu) (dv 1) de_int) (dss_one (ds_ret (de_tup (da_cons de_str (da_cons (dcall (ih .l_rule) gd hr tk rfl rfl (da_cons (dv 0) da_nil)) (da_cons (dv 2) da_nil)))))) dss_nil) (dss_cons (ds_if (dt_cmp od_lt (dv 1) de_int) (dss_one (ds_ret (de_tup (da_cons (de_ix (de_lst (da_cons de_str (da_cons de_str da_nil))) (de_op od_sub (dv 1) de_int)) (da_cons (dcall (ih .l_test) gd hr tk rfl rfl (da_cons (dv 0) (da_cons de_int da_nil))) (da_cons (dv 2) da_nil)))))) dss_nil) (dss_cons (ds_if (dt_cmp od_lt (dv 1) de_int) (dss_one (ds_ret (de_tup (da_cons (de_ix (de_lst (da_cons de_str (da_cons de_str da_nil))) (de_op od_sub (dv 1) de_int)) (da_cons (dv 3) (da_cons (dv 2) da_nil)))))) dss_nil) (dss_cons (ds_if (dt_cmp (od_eq hu) (dv 1) de_int) (dss_one (ds_ret (de_tup (da_cons de_str (da_cons (dv 2) da_nil))))) dss_nil) (dss_cons (ds_if (dt_cmp (od_eq hu) (dv 1) de_int) (dss_one (ds_ret (de_tup (da_cons de_str (da_cons (de_op od_add de_int (dcall (ih .l_take) gd hr tk rfl rfl (da_cons (dv 0) (da_cons de_int da_nil)))) (da_cons (de_op od_add de_int (dcall (ih .l_take) gd hr tk rfl rfl (da_cons (dv 0) (da_cons de_int da_nil)))) (da_cons (dv 2) da_nil))))))) dss_nil) (dss_cons (ds_if (dt_cmp (od_eq hu) (dv 1) de_int) (dss_one (ds_ret (de_tup (da_cons de_str (da_cons (dcall (ih .l_rest) gd hr tk rfl rfl (da_cons (dv 0) da_nil)) (da_cons (dv 2) da_nil)))))) dss_nil) (dss_one (ds_ret (de_tup (da_cons de_str (da_cons (dv 3) (da_cons (dcall (ih .l_word) gd hr tk rfl rfl (da_cons (dv 0) da_nil)) (da_cons (dv 2) da_nil))))))))))))))
theorem bd_l_plan {fd : FuncData} (FD : FunD K (nm .l_plan) (ql .l_plan) (defArgs (st .l_plan)) (defBody (st .l_plan)) (defScope (st .l_plan)) [] [] (He.fAd K (at_ .l_plan)) fd) : Binds K fd (ps .l_plan) [] := FD.bindsN fun _ _ _ _ _ _ us hl => match us, hl with | [_, _], _ => rfl
theorem ok_l_plan (T : FT w K mg) {n : Nat} (ih : ∀ y, Ok P w K mg base n y) : Ok P w K mg base (n + 1) .l_plan := by
  refine calmN_of T.toFactsN .l_plan rfl sc_l_plan (by decide) (fun fd FD => bd_l_plan FD) fun cdv A outer s H E gd hr => ?_
  have hu := hr.units
  have hu5 := room65 hr
  have hu1 := room1 hr
  have hu12 := room12 hr
  have tk : L2N.Takes (cxOf (L2N.CX P w) P w K mg base N_l_plan (ql .l_plan) (defScope (st .l_plan)) (He.fAd K (at_ .l_plan)) cdv A outer s H E) (fun cls d _ H => E cls d H) := L2N.takes_of rfl rfl rfl rfl
  have po : PassesOwn (model P w) (cxOf (L2N.CX P w) P w K mg base N_l_plan (ql .l_plan) (defScope (st .l_plan)) (He.fAd K (at_ .l_plan)) cdv A outer s H E).A (cxOf (L2N.CX P w) P w K mg base N_l_plan (ql .l_plan) (defScope (st .l_plan)) (He.fAd K (at_ .l_plan)) cdv A outer s H E).env (cxOf (L2N.CX P w) P w K mg base N_l_plan (ql .l_plan) (defScope (st .l_plan)) (He.fAd K (at_ .l_plan)) cdv A outer s H E).xe := passes_of rfl
  exact (dss_cons (ds_set 2 sc_l_plan.nd rfl (by first | exact Or.inl rfl | exact Or.inr rfl) (dcall (ih .l_take) gd hr tk rfl rfl (da_cons (dv 0) (da_cons de_int da_nil)))) (dss_cons (ds_if (dt_w (dw_or (dt_cmp (od_eq hu) (dv 1) de_int) (dw_or1 (dt_cmp (od_eq hu) (dv 2) de_int)))) (dss_one (ds_ret (dcall (ih .l_leaf) gd hr tk rfl rfl (da_cons (dv 0) da_nil)))) dss_nil) (dss_cons (ds_if (dt_cmp od_lt (dv 2) de_int) (dss_one (ds_ret (dcall (ih .l_upon) gd hr tk rfl rfl (da_cons (dv 0) (da_cons (dv 2) (da_cons (dcall (ih .l_plan) gd hr tk rfl rfl (da_cons (dv 0) (da_cons (de_op od_sub (dv 1) de_int) da_nil))) da_nil)))))) dss_nil) (dss_cons (ds_if (dt_cmp (od_eq hu) (dv 2) de_int) (dss_one (ds_ret (de_tup (da_cons de_str (da_cons (dcall (ih .l_plan) gd hr tk rfl rfl (da_cons (dv 0) (da_cons (de_op od_sub (dv 1) de_int) da_nil))) (da_cons (dcall (ih .l_plan) gd hr tk rfl rfl (da_cons (dv 0) (da_cons (de_op od_sub (dv 1) de_int) da_nil))) da_nil)))))) dss_nil) (dss_cons (ds_set 3 sc_l_plan.nd rfl (by first | exact Or.inl rfl | exact Or.inr rfl) (de_op od_sub (dv 2) de_int)) (dss_cons (ds_set 4 sc_l_plan.nd rfl (by first | exact Or.inl rfl | exact Or.inr rfl) (de_op od_add (dv 3) (dcall (ih .l_take) gd hr tk rfl rfl (da_cons (dv 0) (da_cons (de_if (dt_cmp (od_eq hu) (dv 1) de_int) (de_ix (de_lst (da_cons de_int (da_cons de_int (da_cons (de_op od_sub de_int (dv 3)) da_nil)))) (dcall (ih .l_take) gd hr tk rfl rfl (da_cons (dv 0) (da_cons de_int da_nil)))) de_int) da_nil))))) (dss_one (ds_ret (de_tup (da_cons (de_ix (de_lst (da_cons de_str (da_cons de_str da_nil))) (dv 3)) (da_cons (de_callTy cd_tuple rfl (T.fr "tuple" (by decide +kernel)) (by decide +kernel) (da_cons (de_comp (own := [("_law_k", 5)]) rfl sc_l_plan.nd (di_range rfl (T.fr "range" (by decide +kernel)) (dv 4)) (blkOk_by (own := [("_law_k", 5)]) (N := N_l_plan) (sc := defScope (st .l_plan)) (by decide +kernel)) (fun _ _ _ _ _ => (pg_name (i := 5) sc_l_plan.nd rfl (by first | exact Or.inl rfl | exact Or.inr rfl))) (tgok_name _ 5) (by decide) (fun _ _ _ _ _ => (dcall (ih .l_plan) gd hr takes0N rfl rfl (da_cons (dv 0) (da_cons (de_op od_sub (dv 1) de_int) da_nil))))) da_nil)) da_nil)))))))))))
theorem bd_l_sorts {fd : FuncData} (FD : FunD K (nm .l_sorts) (ql .l_sorts) (defArgs (st .l_sorts)) (defBody (st .l_sorts)) (defScope (st .l_sorts)) [] [] (He.fAd K (at_ .l_sorts)) fd) : Binds K fd (ps .l_sorts) [] := FD.bindsN fun _ _ _ _ _ _ us hl => match us, hl with | [_], _ => rfl
theorem ok_l_sorts (T : FT w K mg) {n : Nat} (ih : ∀ y, Ok P w K mg base n y) : Ok P w K mg base (n + 1) .l_sorts := by
  refine calmN_of T.toFactsN .l_sorts rfl sc_l_sorts (by decide) (fun fd FD => bd_l_sorts FD) fun cdv A outer s H E gd hr => ?_
  have hu := hr.units
  have hu5 := room65 hr
  have hu1 := room1 hr
  have hu12 := room12 hr
  have tk : L2N.Takes (cxOf (L2N.CX P w) P w K mg base N_l_sorts (ql .l_sorts) (defScope (st .l_sorts)) (He.fAd K (at_ .l_sorts)) cdv A outer s H E) (fun cls d _ H => E cls d H) := L2N.takes_of rfl rfl rfl rfl
  have po : PassesOwn (model P w) (cxOf (L2N.CX P w) P w K mg base N_l_sorts (ql .l_sorts) (defScope (st .l_sorts)) (He.fAd K (at_ .l_sorts)) cdv A outer s H E).A (cxOf (L2N.CX P w) P w K mg base N_l_sorts (ql .l_sorts) (defScope (st .l_sorts)) (He.fAd K (at_ .l_sorts)) cdv A outer s H E).env (cxOf (L2N.CX P w) P w K mg base N_l_sorts (ql .l_sorts) (defScope (st .l_sorts)) (He.fAd K (at_ .l_sorts)) cdv A outer s H E).xe := passes_of rfl
  exact (dss_cons (ds_set 1 sc_l_sorts.nd rfl (by first | exact Or.inl rfl | exact Or.inr rfl) (de_newD (dk_cons de_str (dk_cons de_str (dk_cons de_str (dk_cons de_str (dk_cons de_str (dk_cons de_str (dk_cons de_str dk_nil))))))) (by decide) (by decide) (by simp) (by decide) (by decide) (by decide +kernel))) (dss_cons (ds_expr (de_dupd (dv 1) (de_newD (dk_cons de_str (dk_cons de_str (dk_cons de_str (dk_cons de_str (dk_cons de_str (dk_cons de_str dk_nil)))))) (by decide) (by decide) (by simp) (by decide) (by decide) (by decide +kernel)))) (dss_cons (ds_expr (de_dupd (dv 1) (de_newD (dk_cons de_str (dk_cons de_str (dk_cons de_str dk_nil))) (by decide) (by decide) (by simp) (by decide) (by decide) (by decide +kernel)))) (dss_cons (ds_if (dt_cmp od_eqS (dv 0) de_str) (dss_one (ds_ret (dv 1))) dss_nil) (dss_cons (ds_if (dt_cmp od_eqS (dv 0) de_str) (dss_one (ds_ret (de_newD (dk_cons de_str (dk_cons de_str (dk_cons de_str (dk_cons de_str (dk_cons de_str dk_nil))))) (by decide) (by decide) (by simp) (by decide) (by decide) (by decide +kernel)))) dss_nil) (dss_one (ds_ret (de_newD (dk_cons de_str (dk_cons de_str (dk_cons de_str dk_nil))) (by decide) (by decide) (by simp) (by decide) (by decide) (by decide +kernel)))))))))
theorem bd_l_words {fd : FuncData} (FD : FunD K (nm .l_words) (ql .l_words) (defArgs (st .l_words)) (defBody (st .l_words)) (defScope (st .l_words)) [] [] (He.fAd K (at_ .l_words)) fd) : Binds K fd (ps .l_words) [] := FD.bindsN fun _ _ _ _ _ _ us hl => match us, hl with | [_, _], _ => rfl
theorem ok_l_words (T : FT w K mg) {n : Nat} (ih : ∀ y, Ok P w K mg base n y) : Ok P w K mg base (n + 1) .l_words := by
  refine calmN_of T.toFactsN .l_words rfl sc_l_words (by decide) (fun fd FD => bd_l_words FD) fun cdv A outer s H E gd hr => ?_
  have hu := hr.units
  have hu5 := room65 hr
  have hu1 := room1 hr
  have hu12 := room12 hr
  have tk : L2N.Takes (cxOf (L2N.CX P w) P w K mg base N_l_words (ql .l_words) (defScope (st .l_words)) (He.fAd K (at_ .l_words)) cdv A outer s H E) (fun cls d _ H => E cls d H) := L2N.takes_of rfl rfl rfl rfl
  have po : PassesOwn (model P w) (cxOf (L2N.CX P w) P w K mg base N_l_words (ql .l_words) (defScope (st .l_words)) (He.fAd K (at_ .l_words)) cdv A outer s H E).A (cxOf (L2N.CX P w) P w K mg base N_l_words (ql .l_words) (defScope (st .l_words)) (He.fAd K (at_ .l_words)) cdv A outer s H E).env (cxOf (L2N.CX P w) P w K mg base N_l_words (ql .l_words) (defScope (st .l_words)) (He.fAd K (at_ .l_words)) cdv A outer s H E).xe := passes_of rfl
  exact (dss_cons (ds_if (dt_cmp od_inS (dv 0) de_str) (dss_one (ds_ret (de_lst (da_cons (de_callTy cd_str2 rfl (T.fr "str" (by decide +kernel)) (by decide +kernel) (da_cons (dv 1) da_nil)) da_nil)))) dss_nil) (dss_cons (ds_if (dt_cmp od_inS (dv 0) de_str) (dss_cons (ds_set 2 sc_l_words.nd rfl (by first | exact Or.inl rfl | exact Or.inr rfl) (de_newL (da_cons (de_callTy cd_str2 rfl (T.fr "str" (by decide +kernel)) (by decide +kernel) (da_cons (de_callB cd_len rfl (T.fr "len" (by decide +kernel)) (by decide +kernel) (da_cons (dv 1) da_nil)) da_nil)) da_nil))) (dss_cons (ds_for po rfl (di_seq (dv 1)) (pg_name (i := 3) sc_l_words.nd rfl (by first | exact Or.inl rfl | exact Or.inr rfl)) (tgok_name _ 3) (dss_one (ds_expr (de_extend (dv 2) (dcall (ih .l_words) gd hr tk rfl rfl (da_cons (de_dispGet hu1 (dk_cons de_str (dk_cons de_str (dk_cons de_str (dk_cons de_str dk_nil)))) (dv 0) (by decide) (by decide) (by simp) (by decide) (by decide) (by decide +kernel)) (da_cons (dv 3) da_nil))))))) (dss_one (ds_ret (de_free (dv 2)))))) dss_nil) (dss_cons (ds_set 2 sc_l_words.nd rfl (by first | exact Or.inl rfl | exact Or.inr rfl) (de_newL (da_cons (de_ix (dv 1) de_int) da_nil))) (dss_cons (ds_for po rfl (di_zipST rfl (T.fr "zip" (by decide +kernel)) (de_dget hu1 (dcall (ih .l_sorts) gd hr tk rfl rfl (da_cons (dv 0) da_nil)) (de_ix (dv 1) de_int)) (de_sl (dv 1) (dp_at de_int) dp_no)) (pg_tup rfl (pgs_cons (pg_name (i := 4) sc_l_words.nd rfl (by first | exact Or.inl rfl | exact Or.inr rfl)) (pgs_cons (pg_name (i := 3) sc_l_words.nd rfl (by first | exact Or.inl rfl | exact Or.inr rfl)) pgs_nil))) (tgok_pair _ 4 3) (dss_one (ds_expr (de_extend (dv 2) (dcall (ih .l_words) gd hr tk rfl rfl (da_cons (dv 4) (da_cons (dv 3) da_nil))))))) (dss_one (ds_ret (de_free (dv 2))))))))
theorem bd_l_tall {fd : FuncData} (FD : FunD K (nm .l_tall) (ql .l_tall) (defArgs (st .l_tall)) (defBody (st .l_tall)) (defScope (st .l_tall)) [] [] (He.fAd K (at_ .l_tall)) fd) : Binds K fd (ps .l_tall) [] := FD.bindsN fun _ _ _ _ _ _ us hl => match us, hl with | [_], _ => rfl
theorem ok_l_tall (T : FT w K mg) {n : Nat} (ih : ∀ y, Ok P w K mg base n y) : Ok P w K mg base (n + 1) .l_tall := by
  refine calmN_of T.toFactsN .l_tall rfl sc_l_tall (by decide) (fun fd FD => bd_l_tall FD) fun cdv A outer s H E gd hr => ?_
  have hu := hr.units
  have hu5 := room65 hr
  have hu1 := room1 hr
  have hu12 := room12 hr
  have tk : L2N.Takes (cxOf (L2N.CX P w) P w K mg base N_l_tall (ql .l_tall) (defScope (st .l_tall)) (He.fAd K (at_ .l_tall)) cdv A outer s H E) (fun cls d _ H => E cls d H) := L2N.takes_of rfl rfl rfl rfl
  have po : PassesOwn (model P w) (cxOf (L2N.CX P w) P w K mg base N_l_tall (ql .l_tall) (defScope (st .l_tall)) (He.fAd K (at_ .l_tall)) cdv A outer s H E).A (cxOf (L2N.CX P w) P w K mg base N_l_tall (ql .l_tall) (defScope (st .l_tall)) (He.fAd K (at_ .l_tall)) cdv A outer s H E).env (cxOf (L2N.CX P w) P w K mg base N_l_tall (ql .l_tall) (defScope (st .l_tall)) (He.fAd K (at_ .l_tall)) cdv A outer s H E).xe := passes_of rfl
  exact (dss_cons (ds_set 1 sc_l_tall.nd rfl (by first | exact Or.inl rfl | exact Or.inr rfl) (dcall (ih .l_leaf) gd hr tk rfl rfl (da_cons (dv 0) da_nil))) (dss_cons (ds_for po rfl (di_range rfl (T.fr "range" (by decide +kernel)) de_int) (pg_name (i := 2) sc_l_tall.nd rfl (by first | exact Or.inl rfl | exact Or.inr rfl)) (tgok_name _ 2) (dss_one (ds_set 1 sc_l_tall.nd rfl (by first | exact Or.inl rfl | exact Or.inr rfl) (dcall (ih .l_upon) gd hr tk rfl rfl (da_cons (dv 0) (da_cons (de_ix (de_lst (da_cons de_int (da_cons de_int (da_cons de_int (da_cons de_int (da_cons de_int (da_cons de_int da_nil))))))) (dcall (ih .l_take) gd hr tk rfl rfl (da_cons (dv 0) (da_cons de_int da_nil)))) (da_cons (dv 1) da_nil))))))) (dss_one (ds_ret (dv 1)))))
theorem bd_l_parts {fd : FuncData} (FD : FunD K (nm .l_parts) (ql .l_parts) (defArgs (st .l_parts)) (defBody (st .l_parts)) (defScope (st .l_parts)) [] [] (He.fAd K (at_ .l_parts)) fd) : Binds K fd (ps .l_parts) [] := FD.bindsN fun _ _ _ _ _ _ us hl => match us, hl with | [_], _ => rfl
theorem ok_l_parts (T : FT w K mg) {n : Nat} (ih : ∀ y, Ok P w K mg base n y) : Ok P w K mg base (n + 1) .l_parts := by
  refine calmN_of T.toFactsN .l_parts rfl sc_l_parts (by decide) (fun fd FD => bd_l_parts FD) fun cdv A outer s H E gd hr => ?_
  have hu := hr.units
  have hu5 := room65 hr
  have hu1 := room1 hr
  have hu12 := room12 hr
  have tk : L2N.Takes (cxOf (L2N.CX P w) P w K mg base N_l_parts (ql .l_parts) (defScope (st .l_parts)) (He.fAd K (at_ .l_parts)) cdv A outer s H E) (fun cls d _ H => E cls d H) := L2N.takes_of rfl rfl rfl rfl
  have po : PassesOwn (model P w) (cxOf (L2N.CX P w) P w K mg base N_l_parts (ql .l_parts) (defScope (st .l_parts)) (He.fAd K (at_ .l_parts)) cdv A outer s H E).A (cxOf (L2N.CX P w) P w K mg base N_l_parts (ql .l_parts) (defScope (st .l_parts)) (He.fAd K (at_ .l_parts)) cdv A outer s H E).env (cxOf (L2N.CX P w) P w K mg base N_l_parts (ql .l_parts) (defScope (st .l_parts)) (He.fAd K (at_ .l_parts)) cdv A outer s H E).xe := passes_of rfl
  exact (dss_cons (ds_if (dt_cmp (od_in hu5) (de_ix (dv 0) de_int) (de_tup (da_cons de_str (da_cons de_str (da_cons de_str (da_cons de_str da_nil)))))) (dss_one (ds_ret de_int)) dss_nil) (dss_cons (ds_set 1 sc_l_parts.nd rfl (by first | exact Or.inl rfl | exact Or.inr rfl) (de_lst (da_cons (de_ix (dv 0) (de_un ud_neg de_int)) da_nil))) (dss_cons (ds_if (dt_cmp (od_in hu5) (de_ix (dv 0) de_int) (de_tup (da_cons de_str (da_cons de_str da_nil)))) (dss_one (ds_set 1 sc_l_parts.nd rfl (by first | exact Or.inl rfl | exact Or.inr rfl) (de_ix (dv 0) de_int))) dss_nil) (dss_cons (ds_if (dt_cmp (od_eq hu) (de_ix (dv 0) de_int) de_str) (dss_one (ds_set 1 sc_l_parts.nd rfl (by first | exact Or.inl rfl | exact Or.inr rfl) (de_sl (dv 0) (dp_at de_int) dp_no))) dss_nil) (dss_one (ds_ret (de_op od_add de_int (de_callB (cd_sum rfl) rfl (T.fr "sum" (by decide +kernel)) (by decide +kernel) (da_cons (de_comp (own := [("_law_one", 2)]) rfl sc_l_parts.nd (di_seq (dv 1)) (blkOk_by (own := [("_law_one", 2)]) (N := N_l_parts) (sc := defScope (st .l_parts)) (by decide +kernel)) (fun _ _ _ _ _ => (pg_name (i := 2) sc_l_parts.nd rfl (by first | exact Or.inl rfl | exact Or.inr rfl))) (tgok_name _ 2) (by decide) (fun _ _ _ _ _ => (dcall (ih .l_parts) gd hr takes0N rfl rfl (da_cons (dv 2) da_nil)))) da_nil)))))))))
theorem bd_l_deep {fd : FuncData} (FD : FunD K (nm .l_deep) (ql .l_deep) (defArgs (st .l_deep)) (defBody (st .l_deep)) (defScope (st .l_deep)) [] [] (He.fAd K (at_ .l_deep)) fd) : Binds K fd (ps .l_deep) [] := FD.bindsN fun _ _ _ _ _ _ us hl => match us, hl with | [_], _ => rfl
theorem ok_l_deep (T : FT w K mg) {n : Nat} (ih : ∀ y, Ok P w K mg base n y) : Ok P w K mg base (n + 1) .l_deep := by
  refine calmN_of T.toFactsN .l_deep rfl sc_l_deep (by decide) (fun fd FD => bd_l_deep FD) fun cdv A outer s H E gd hr => ?_
  have hu := hr.units
  have hu5 := room65 hr
  have hu1 := room1 hr
  have hu12 := room12 hr
  have tk : L2N.Takes (cxOf (L2N.CX P w) P w K mg base N_l_deep (ql .l_deep) (defScope (st .l_deep)) (He.fAd K (at_ .l_deep)) cdv A outer s H E) (fun cls d _ H => E cls d H) := L2N.takes_of rfl rfl rfl rfl
  have po : PassesOwn (model P w) (cxOf (L2N.CX P w) P w K mg base N_l_deep (ql .l_deep) (defScope (st .l_deep)) (He.fAd K (at_ .l_deep)) cdv A outer s H E).A (cxOf (L2N.CX P w) P w K mg base N_l_deep (ql .l_deep) (defScope (st .l_deep)) (He.fAd K (at_ .l_deep)) cdv A outer s H E).env (cxOf (L2N.CX P w) P w K mg base N_l_deep (ql .l_deep) (defScope (st .l_deep)) (He.fAd K (at_ .l_deep)) cdv A outer s H E).xe := passes_of rfl
  exact (dss_cons (ds_set 1 sc_l_deep.nd rfl (by first | exact Or.inl rfl | exact Or.inr rfl) (de_tup (da_cons (dcall (ih .l_look) gd hr tk rfl rfl (da_cons (dv 0) (da_cons de_int da_nil))) da_nil))) (dss_cons (ds_for po rfl (di_range rfl (T.fr "range" (by decide +kernel)) de_int) (pg_name (i := 2) sc_l_deep.nd rfl (by first | exact Or.inl rfl | exact Or.inr rfl)) (tgok_name _ 2) (dss_one (ds_set 1 sc_l_deep.nd rfl (by first | exact Or.inl rfl | exact Or.inr rfl) (de_tup (da_cons (de_tup (da_cons de_str (da_cons (dcall (ih .l_rule) gd hr tk rfl rfl (da_cons (dv 0) da_nil)) (da_cons (dv 1) da_nil)))) da_nil))))) (dss_one (ds_ret (de_tup (da_cons (de_ix (de_lst (da_cons de_str (da_cons de_str da_nil))) (dcall (ih .l_take) gd hr tk rfl rfl (da_cons (dv 0) (da_cons de_int da_nil)))) (da_cons (dv 1) (da_cons (dcall (ih .l_leaf) gd hr tk rfl rfl (da_cons (dv 0) da_nil)) da_nil))))))))
theorem bd_l_bounded {fd : FuncData} (FD : FunD K (nm .l_bounded) (ql .l_bounded) (defArgs (st .l_bounded)) (defBody (st .l_bounded)) (defScope (st .l_bounded)) [] [] (He.fAd K (at_ .l_bounded)) fd) : Binds K fd (ps .l_bounded) [] := FD.bindsN fun _ _ _ _ _ _ us hl => match us, hl with | [_], _ => rfl
theorem ok_l_bounded (T : FT w K mg) {n : Nat} (ih : ∀ y, Ok P w K mg base n y) : Ok P w K mg base (n + 1) .l_bounded := by
  refine calmN_of T.toFactsN .l_bounded rfl sc_l_bounded (by decide) (fun fd FD => bd_l_bounded FD) fun cdv A outer s H E gd hr => ?_
  have hu := hr.units
  have hu5 := room65 hr
  have hu1 := room1 hr
  have hu12 := room12 hr
  have tk : L2N.Takes (cxOf (L2N.CX P w) P w K mg base N_l_bounded (ql .l_bounded) (defScope (st .l_bounded)) (He.fAd K (at_ .l_bounded)) cdv A outer s H E) (fun cls d _ H => E cls d H) := L2N.takes_of rfl rfl rfl rfl
  have po : PassesOwn (model P w) (cxOf (L2N.CX P w) P w K mg base N_l_bounded (ql .l_bounded) (defScope (st .l_bounded)) (He.fAd K (at_ .l_bounded)) cdv A outer s H E).A (cxOf (L2N.CX P w) P w K mg base N_l_bounded (ql .l_bounded) (defScope (st .l_bounded)) (He.fAd K (at_ .l_bounded)) cdv A outer s H E).env (cxOf (L2N.CX P w) P w K mg base N_l_bounded (ql .l_bounded) (defScope (st .l_bounded)) (He.fAd K (at_ .l_bounded)) cdv A outer s H E).xe := passes_of rfl
  exact (dss_cons (ds_set 1 sc_l_bounded.nd rfl (by first | exact Or.inl rfl | exact Or.inr rfl) (dcall (ih .l_take) gd hr tk rfl rfl (da_cons (dv 0) (da_cons de_int da_nil)))) (dss_cons (ds_if (dt_cmp od_gt (dv 1) de_int) (dss_one (ds_ret (de_if (dt_cmp (od_eq hu) (dv 1) de_int) (dcall (ih .l_tall) gd hr tk rfl rfl (da_cons (dv 0) da_nil)) (dcall (ih .l_deep) gd hr tk rfl rfl (da_cons (dv 0) da_nil))))) dss_nil) (dss_cons (ds_set 2 sc_l_bounded.nd rfl (by first | exact Or.inl rfl | exact Or.inr rfl) (dcall (ih .l_plan) gd hr tk rfl rfl (da_cons (dv 0) (da_cons de_int da_nil)))) (dss_cons (ds_if (dt_cmp od_gt (dcall (ih .l_parts) gd hr tk rfl rfl (da_cons (dv 2) da_nil)) de_int) (dss_one (ds_set 2 sc_l_bounded.nd rfl (by first | exact Or.inl rfl | exact Or.inr rfl) (dcall (ih .l_plan) gd hr tk rfl rfl (da_cons (dv 0) (da_cons de_int da_nil))))) dss_nil) (dss_one (ds_ret (dv 2)))))))
theorem bd_l_right {fd : FuncData} (FD : FunD K (nm .l_right) (ql .l_right) (defArgs (st .l_right)) (defBody (st .l_right)) (defScope (st .l_right)) [] [] (He.fAd K (at_ .l_right)) fd) : Binds K fd (ps .l_right) [] := FD.bindsN fun _ _ _ _ _ _ us hl => match us, hl with | [_], _ => rfl
theorem ok_l_right (T : FT w K mg) {n : Nat} (ih : ∀ y, Ok P w K mg base n y) : Ok P w K mg base (n + 1) .l_right := by
  refine calmN_of T.toFactsN .l_right rfl sc_l_right (by decide) (fun fd FD => bd_l_right FD) fun cdv A outer s H E gd hr => ?_
  have hu := hr.units
  have hu5 := room65 hr
  have hu1 := room1 hr
  have hu12 := room12 hr
  have tk : L2N.Takes (cxOf (L2N.CX P w) P w K mg base N_l_right (ql .l_right) (defScope (st .l_right)) (He.fAd K (at_ .l_right)) cdv A outer s H E) (fun cls d _ H => E cls d H) := L2N.takes_of rfl rfl rfl rfl
  have po : PassesOwn (model P w) (cxOf (L2N.CX P w) P w K mg base N_l_right (ql .l_right) (defScope (st .l_right)) (He.fAd K (at_ .l_right)) cdv A outer s H E).A (cxOf (L2N.CX P w) P w K mg base N_l_right (ql .l_right) (defScope (st .l_right)) (He.fAd K (at_ .l_right)) cdv A outer s H E).env (cxOf (L2N.CX P w) P w K mg base N_l_right (ql .l_right) (defScope (st .l_right)) (He.fAd K (at_ .l_right)) cdv A outer s H E).xe := passes_of rfl
  exact (dss_cons (ds_set 1 sc_l_right.nd rfl (by first | exact Or.inl rfl | exact Or.inr rfl) (de_join de_str (dcall (ih .l_words) gd hr tk rfl rfl (da_cons de_str (da_cons (dv 0) da_nil))))) (dss_cons (ds_set 2 sc_l_right.nd rfl (by first | exact Or.inl rfl | exact Or.inr rfl) (de_callB (cd_reprA gd hu) rfl (T.fr "repr" (by decide +kernel)) (by decide +kernel) (da_cons (dv 0) da_nil))) (dss_cons (ds_if (dt_w (dw_or (dt_cmp od_notB (dcall (ih .is_plan) gd hr tk rfl rfl (da_cons (dv 0) da_nil)) de_bl) (dw_or (dt_cmp od_neS (dcall (ih .plan_text) gd hr tk rfl rfl (da_cons (dv 0) da_nil)) (dv 1)) (dw_or1 (dt_not (dt_val (de_isi ty_str (dcall (ih .plan_text) gd hr tk rfl rfl (da_cons (dv 0) da_nil)) rfl (T.fr "isinstance" (by decide +kernel)) rfl (T.fr "str" (by decide +kernel)) (by decide +kernel)))))))) (dss_one (ds_ret de_bl)) dss_nil) (dss_one (ds_ret (de_and (de_cmp od_eqS (de_callB (cd_reprA gd hu) rfl (T.fr "repr" (by decide +kernel)) (by decide +kernel) (da_cons (dcall (ih .read_plan) gd hr tk rfl rfl (da_cons (dv 1) da_nil)) da_nil)) (dv 2)) (de_and (de_cmp od_eqS (dcall (ih .plan_text) gd hr tk rfl rfl (da_cons (dcall (ih .read_plan) gd hr tk rfl rfl (da_cons (dv 1) da_nil)) da_nil)) (dv 1)) (de_one (de_cmp od_eqS (de_callB (cd_reprA gd hu) rfl (T.fr "repr" (by decide +kernel)) (by decide +kernel) (da_cons (dv 0) da_nil)) (dv 2))))))))))
theorem bd_law {fd : FuncData} (FD : FunD K (nm .law) (ql .law) (defArgs (st .law)) (defBody (st .law)) (defScope (st .law)) [] [] (He.fAd K (at_ .law)) fd) : Binds K fd (ps .law) [] := FD.bindsN fun _ _ _ _ _ _ us hl => match us, hl with | [_], _ => rfl
theorem ok_law (T : FT w K mg) {n : Nat} (ih : ∀ y, Ok P w K mg base n y) : Ok P w K mg base (n + 1) .law := by
  refine calmN_of T.toFactsN .law rfl sc_law (by decide) (fun fd FD => bd_law FD) fun cdv A outer s H E gd hr => ?_
  have hu := hr.units
  have hu5 := room65 hr
  have hu1 := room1 hr
  have hu12 := room12 hr
  have tk : L2N.Takes (cxOf (L2N.CX P w) P w K mg base N_law (ql .law) (defScope (st .law)) (He.fAd K (at_ .law)) cdv A outer s H E) (fun cls d _ H => E cls d H) := L2N.takes_of rfl rfl rfl rfl
  have po : PassesOwn (model P w) (cxOf (L2N.CX P w) P w K mg base N_law (ql .law) (defScope (st .law)) (He.fAd K (at_ .law)) cdv A outer s H E).A (cxOf (L2N.CX P w) P w K mg base N_law (ql .law) (defScope (st .law)) (He.fAd K (at_ .law)) cdv A outer s H E).env (cxOf (L2N.CX P w) P w K mg base N_law (ql .law) (defScope (st .law)) (He.fAd K (at_ .law)) cdv A outer s H E).xe := passes_of rfl
  exact (dss_cons (ds_set 1 sc_law.nd rfl (by first | exact Or.inl rfl | exact Or.inr rfl) (de_newL da_nil)) (dss_cons (ds_for po rfl (di_range rfl (T.fr "range" (by decide +kernel)) (de_callB (cd_max2 rfl) rfl (T.fr "max" (by decide +kernel)) (by decide +kernel) (da_cons de_int (da_cons (de_callB (cd_min2 rfl) rfl (T.fr "min" (by decide +kernel)) (by decide +kernel) (da_cons de_int (da_cons (de_callB cd_len rfl (T.fr "len" (by decide +kernel)) (by decide +kernel) (da_cons (dv 0) da_nil)) da_nil))) da_nil)))) (pg_name (i := 2) sc_law.nd rfl (by first | exact Or.inl rfl | exact Or.inr rfl)) (tgok_name _ 2) (dss_one (ds_expr (de_append (dv 1) (dcall (ih .l_bounded) gd hr tk rfl rfl (da_cons (dcall (ih .l_pot) gd hr tk rfl rfl (da_cons (dv 0) (da_cons (dv 2) da_nil))) da_nil)))))) (dss_one (ds_ret (de_callB (cd_all rfl) rfl (T.fr "all" (by decide +kernel)) (by decide +kernel) (da_cons (de_comp (own := [("_law_plan_here", 3)]) rfl sc_law.nd (di_seq (de_op od_addC (dv 1) (de_revC (dv 1)))) (blkOk_by (own := [("_law_plan_here", 3)]) (N := N_law) (sc := defScope (st .law)) (by decide +kernel)) (fun _ _ _ _ _ => (pg_name (i := 3) sc_law.nd rfl (by first | exact Or.inl rfl | exact Or.inr rfl))) (tgok_name _ 3) (by decide) (fun _ _ _ _ _ => (dcall (ih .l_right) gd hr takes0N rfl rfl (da_cons (dv 3) da_nil)))) da_nil))))))
theorem fm_law (T : FT w K mg) {n : Nat} (ih : ∀ y, Ok P w K mg base n y) {fd : FuncData} (FD : FunD K (nm .law) (ql .law) (defArgs (st .law)) (defBody (st .law)) (defScope (st .law)) [] [] (He.fAd K (at_ .law)) fd) : FnM P w K mg base (n + 1) (He.fAd K (at_ .law)) fd (ps .law) (fns (n + 1) .law) := by
  refine fnm_of FD sc_law (by decide) fun cdv A outer s H E gd hr => ?_
  have hu := hr.units
  have hu5 := room65 hr
  have hu1 := room1 hr
  have hu12 := room12 hr
  have tk : L2N.Takes (cxOf (L2N.CX P w) P w K mg base N_law (ql .law) (defScope (st .law)) (He.fAd K (at_ .law)) cdv A outer s H E) (fun cls d _ H => E cls d H) := L2N.takes_of rfl rfl rfl rfl
  have po : PassesOwn (model P w) (cxOf (L2N.CX P w) P w K mg base N_law (ql .law) (defScope (st .law)) (He.fAd K (at_ .law)) cdv A outer s H E).A (cxOf (L2N.CX P w) P w K mg base N_law (ql .law) (defScope (st .law)) (He.fAd K (at_ .law)) cdv A outer s H E).env (cxOf (L2N.CX P w) P w K mg base N_law (ql .law) (defScope (st .law)) (He.fAd K (at_ .law)) cdv A outer s H E).xe := passes_of rfl
  exact (dss_cons (ds_set 1 sc_law.nd rfl (by first | exact Or.inl rfl | exact Or.inr rfl) (de_newL da_nil)) (dss_cons (ds_for po rfl (di_range rfl (T.fr "range" (by decide +kernel)) (de_callB (cd_max2 rfl) rfl (T.fr "max" (by decide +kernel)) (by decide +kernel) (da_cons de_int (da_cons (de_callB (cd_min2 rfl) rfl (T.fr "min" (by decide +kernel)) (by decide +kernel) (da_cons de_int (da_cons (de_callB cd_len rfl (T.fr "len" (by decide +kernel)) (by decide +kernel) (da_cons (dv 0) da_nil)) da_nil))) da_nil)))) (pg_name (i := 2) sc_law.nd rfl (by first | exact Or.inl rfl | exact Or.inr rfl)) (tgok_name _ 2) (dss_one (ds_expr (de_append (dv 1) (dcall (ih .l_bounded) gd hr tk rfl rfl (da_cons (dcall (ih .l_pot) gd hr tk rfl rfl (da_cons (dv 0) (da_cons (dv 2) da_nil))) da_nil)))))) (dss_one (ds_ret (de_callB (cd_all rfl) rfl (T.fr "all" (by decide +kernel)) (by decide +kernel) (da_cons (de_comp (own := [("_law_plan_here", 3)]) rfl sc_law.nd (di_seq (de_op od_addC (dv 1) (de_revC (dv 1)))) (blkOk_by (own := [("_law_plan_here", 3)]) (N := N_law) (sc := defScope (st .law)) (by decide +kernel)) (fun _ _ _ _ _ => (pg_name (i := 3) sc_law.nd rfl (by first | exact Or.inl rfl | exact Or.inr rfl))) (tgok_name _ 3) (by decide) (fun _ _ _ _ _ => (dcall (ih .l_right) gd hr takes0N rfl rfl (da_cons (dv 3) da_nil)))) da_nil))))))
theorem bd_Words_init {fd : FuncData} (FD : FunD K (nm .Words_init) (ql .Words_init) (defArgs (st .Words_init)) (defBody (st .Words_init)) (defScope (st .Words_init)) [] [] (He.fAd K (at_ .Words_init)) fd) : Binds K fd (ps .Words_init) [] := FD.bindsN fun _ _ _ _ _ _ us hl => match us, hl with | [_, _], _ => rfl
theorem ok_Words_init (T : FT w K mg) {n : Nat} (ih : ∀ y, Ok P w K mg base n y) : Ok P w K mg base (n + 1) .Words_init := by
  refine metN_of T.toFactsN .Words_init rfl T.cl.cls (T.mt "__init__" (by decide +kernel)) sc_Words_init (by decide) (fun fd FD => bd_Words_init FD) fun cdv A outer s H E gd hr => ?_
  have hu := hr.units
  have hu5 := room65 hr
  have hu1 := room1 hr
  have hu12 := room12 hr
  have tk : L2N.Takes (cxOf (L2N.CX P w) P w K mg base N_Words_init (ql .Words_init) (defScope (st .Words_init)) (He.fAd K (at_ .Words_init)) cdv A outer s H E) (fun cls d _ H => E cls d H) := L2N.takes_of rfl rfl rfl rfl
  have po : PassesOwn (model P w) (cxOf (L2N.CX P w) P w K mg base N_Words_init (ql .Words_init) (defScope (st .Words_init)) (He.fAd K (at_ .Words_init)) cdv A outer s H E).A (cxOf (L2N.CX P w) P w K mg base N_Words_init (ql .Words_init) (defScope (st .Words_init)) (He.fAd K (at_ .Words_init)) cdv A outer s H E).env (cxOf (L2N.CX P w) P w K mg base N_Words_init (ql .Words_init) (defScope (st .Words_init)) (He.fAd K (at_ .Words_init)) cdv A outer s H E).xe := passes_of rfl
  exact (dss_cons (ds_fld T.cl (by decide +kernel) (dv 0) (dv 1)) (dss_one (ds_fld T.cl (by decide +kernel) (dv 0) de_int)))
theorem bd_Words_is_read {fd : FuncData} (FD : FunD K (nm .Words_is_read) (ql .Words_is_read) (defArgs (st .Words_is_read)) (defBody (st .Words_is_read)) (defScope (st .Words_is_read)) [] [] (He.fAd K (at_ .Words_is_read)) fd) : Binds K fd (ps .Words_is_read) [] := FD.bindsN fun _ _ _ _ _ _ us hl => match us, hl with | [_], _ => rfl
theorem ok_Words_is_read (T : FT w K mg) {n : Nat} (ih : ∀ y, Ok P w K mg base n y) : Ok P w K mg base (n + 1) .Words_is_read := by
  refine metN_of T.toFactsN .Words_is_read rfl T.cl.cls (T.mt "is_read" (by decide +kernel)) sc_Words_is_read (by decide) (fun fd FD => bd_Words_is_read FD) fun cdv A outer s H E gd hr => ?_
  have hu := hr.units
  have hu5 := room65 hr
  have hu1 := room1 hr
  have hu12 := room12 hr
  have tk : L2N.Takes (cxOf (L2N.CX P w) P w K mg base N_Words_is_read (ql .Words_is_read) (defScope (st .Words_is_read)) (He.fAd K (at_ .Words_is_read)) cdv A outer s H E) (fun cls d _ H => E cls d H) := L2N.takes_of rfl rfl rfl rfl
  have po : PassesOwn (model P w) (cxOf (L2N.CX P w) P w K mg base N_Words_is_read (ql .Words_is_read) (defScope (st .Words_is_read)) (He.fAd K (at_ .Words_is_read)) cdv A outer s H E).A (cxOf (L2N.CX P w) P w K mg base N_Words_is_read (ql .Words_is_read) (defScope (st .Words_is_read)) (He.fAd K (at_ .Words_is_read)) cdv A outer s H E).env (cxOf (L2N.CX P w) P w K mg base N_Words_is_read (ql .Words_is_read) (defScope (st .Words_is_read)) (He.fAd K (at_ .Words_is_read)) cdv A outer s H E).xe := passes_of rfl
  exact (dss_one (ds_ret (de_cmp (od_eq hu) (de_fld T.cl (by decide +kernel) (dv 0)) (de_callB cd_len rfl (T.fr "len" (by decide +kernel)) (by decide +kernel) (da_cons (de_fld T.cl (by decide +kernel) (dv 0)) da_nil)))))
theorem bd_Words_next_word {fd : FuncData} (FD : FunD K (nm .Words_next_word) (ql .Words_next_word) (defArgs (st .Words_next_word)) (defBody (st .Words_next_word)) (defScope (st .Words_next_word)) [] [] (He.fAd K (at_ .Words_next_word)) fd) : Binds K fd (ps .Words_next_word) [] := FD.bindsN fun _ _ _ _ _ _ us hl => match us, hl with | [_], _ => rfl
theorem ok_Words_next_word (T : FT w K mg) {n : Nat} (ih : ∀ y, Ok P w K mg base n y) : Ok P w K mg base (n + 1) .Words_next_word := by
  refine metN_of T.toFactsN .Words_next_word rfl T.cl.cls (T.mt "next_word" (by decide +kernel)) sc_Words_next_word (by decide) (fun fd FD => bd_Words_next_word FD) fun cdv A outer s H E gd hr => ?_
  have hu := hr.units
  have hu5 := room65 hr
  have hu1 := room1 hr
  have hu12 := room12 hr
  have tk : L2N.Takes (cxOf (L2N.CX P w) P w K mg base N_Words_next_word (ql .Words_next_word) (defScope (st .Words_next_word)) (He.fAd K (at_ .Words_next_word)) cdv A outer s H E) (fun cls d _ H => E cls d H) := L2N.takes_of rfl rfl rfl rfl
  have po : PassesOwn (model P w) (cxOf (L2N.CX P w) P w K mg base N_Words_next_word (ql .Words_next_word) (defScope (st .Words_next_word)) (He.fAd K (at_ .Words_next_word)) cdv A outer s H E).A (cxOf (L2N.CX P w) P w K mg base N_Words_next_word (ql .Words_next_word) (defScope (st .Words_next_word)) (He.fAd K (at_ .Words_next_word)) cdv A outer s H E).env (cxOf (L2N.CX P w) P w K mg base N_Words_next_word (ql .Words_next_word) (defScope (st .Words_next_word)) (He.fAd K (at_ .Words_next_word)) cdv A outer s H E).xe := passes_of rfl
  exact (dss_cons (ds_if (dt_val (dmeth0 (ih .Words_is_read) gd hr tk rfl (dv 0))) (dss_one (ds_raise rfl (T.X.xc "NoText" (by decide +kernel)) tk rfl rfl de_str)) dss_nil) (dss_cons (ds_fldAdd T.cl (by decide +kernel) (dv 0) de_int) (dss_one (ds_ret (de_ix (de_fld T.cl (by decide +kernel) (dv 0)) (de_op od_sub (de_fld T.cl (by decide +kernel) (dv 0)) de_int))))))
theorem bd_Words_next_number {fd : FuncData} (FD : FunD K (nm .Words_next_number) (ql .Words_next_number) (defArgs (st .Words_next_number)) (defBody (st .Words_next_number)) (defScope (st .Words_next_number)) [] [] (He.fAd K (at_ .Words_next_number)) fd) : Binds K fd (ps .Words_next_number) [] := FD.bindsN fun _ _ _ _ _ _ us hl => match us, hl with | [_], _ => rfl
theorem ok_Words_next_number (T : FT w K mg) {n : Nat} (ih : ∀ y, Ok P w K mg base n y) : Ok P w K mg base (n + 1) .Words_next_number := by
  refine metN_of T.toFactsN .Words_next_number rfl T.cl.cls (T.mt "next_number" (by decide +kernel)) sc_Words_next_number (by decide) (fun fd FD => bd_Words_next_number FD) fun cdv A outer s H E gd hr => ?_
  have hu := hr.units
  have hu5 := room65 hr
  have hu1 := room1 hr
  have hu12 := room12 hr
  have tk : L2N.Takes (cxOf (L2N.CX P w) P w K mg base N_Words_next_number (ql .Words_next_number) (defScope (st .Words_next_number)) (He.fAd K (at_ .Words_next_number)) cdv A outer s H E) (fun cls d _ H => E cls d H) := L2N.takes_of rfl rfl rfl rfl
  have po : PassesOwn (model P w) (cxOf (L2N.CX P w) P w K mg base N_Words_next_number (ql .Words_next_number) (defScope (st .Words_next_number)) (He.fAd K (at_ .Words_next_number)) cdv A outer s H E).A (cxOf (L2N.CX P w) P w K mg base N_Words_next_number (ql .Words_next_number) (defScope (st .Words_next_number)) (He.fAd K (at_ .Words_next_number)) cdv A outer s H E).env (cxOf (L2N.CX P w) P w K mg base N_Words_next_number (ql .Words_next_number) (defScope (st .Words_next_number)) (He.fAd K (at_ .Words_next_number)) cdv A outer s H E).xe := passes_of rfl
  exact (dss_cons (ds_set 1 sc_Words_next_number.nd rfl (by first | exact Or.inl rfl | exact Or.inr rfl) (dmeth0 (ih .Words_next_word) gd hr tk rfl (dv 0))) (dss_cons (ds_if (dt_not (dt_val (dcall (ih .is_figures) gd hr tk rfl rfl (da_cons (dv 1) da_nil)))) (dss_one (ds_raise rfl (T.X.xc "NoText" (by decide +kernel)) tk rfl rfl de_str)) dss_nil) (dss_one (ds_ret (de_callTy cd_int rfl (T.fr "int" (by decide +kernel)) (by decide +kernel) (da_cons (dv 1) da_nil))))))
theorem bd_Words_headed {fd : FuncData} (FD : FunD K (nm .Words_headed) (ql .Words_headed) (defArgs (st .Words_headed)) (defBody (st .Words_headed)) (defScope (st .Words_headed)) [] [] (He.fAd K (at_ .Words_headed)) fd) : Binds K fd (ps .Words_headed) [] := FD.bindsN fun _ _ _ _ _ _ us hl => match us, hl with | [_, _, _], _ => rfl
theorem ok_Words_headed (T : FT w K mg) {n : Nat} (ih : ∀ y, Ok P w K mg base n y) : Ok P w K mg base (n + 1) .Words_headed := by
  refine metN_of T.toFactsN .Words_headed rfl T.cl.cls (T.mt "headed" (by decide +kernel)) sc_Words_headed (by decide) (fun fd FD => bd_Words_headed FD) fun cdv A outer s H E gd hr => ?_
  have hu := hr.units
  have hu5 := room65 hr
  have hu1 := room1 hr
  have hu12 := room12 hr
  have tk : L2N.Takes (cxOf (L2N.CX P w) P w K mg base N_Words_headed (ql .Words_headed) (defScope (st .Words_headed)) (He.fAd K (at_ .Words_headed)) cdv A outer s H E) (fun cls d _ H => E cls d H) := L2N.takes_of rfl rfl rfl rfl
  have po : PassesOwn (model P w) (cxOf (L2N.CX P w) P w K mg base N_Words_headed (ql .Words_headed) (defScope (st .Words_headed)) (He.fAd K (at_ .Words_headed)) cdv A outer s H E).A (cxOf (L2N.CX P w) P w K mg base N_Words_headed (ql .Words_headed) (defScope (st .Words_headed)) (He.fAd K (at_ .Words_headed)) cdv A outer s H E).env (cxOf (L2N.CX P w) P w K mg base N_Words_headed (ql .Words_headed) (defScope (st .Words_headed)) (He.fAd K (at_ .Words_headed)) cdv A outer s H E).xe := passes_of rfl
  exact (dss_cons (ds_set 3 sc_Words_headed.nd rfl (by first | exact Or.inl rfl | exact Or.inr rfl) (dmeth0 (ih .Words_next_word) gd hr tk rfl (dv 0))) (dss_cons (ds_if (dt_cmp (od_notInK T.tabs) (dv 3) (dv 1)) (dss_one (ds_raise rfl (T.X.xc "NoText" (by decide +kernel)) tk rfl rfl de_str)) dss_nil) (dss_one (ds_ret (de_op od_add (de_tup (da_cons (dv 3) da_nil)) (de_callTy cd_tuple rfl (T.fr "tuple" (by decide +kernel)) (by decide +kernel) (da_cons (de_comp (own := [("sort", 4)]) rfl sc_Words_headed.nd (di_seq (de_ixK T.tabs (dv 1) (dv 3))) (blkOk_by (own := [("sort", 4)]) (N := N_Words_headed) (sc := defScope (st .Words_headed)) (by decide +kernel)) (fun _ _ _ _ _ => (pg_name (i := 4) sc_Words_headed.nd rfl (by first | exact Or.inl rfl | exact Or.inr rfl))) (tgok_name _ 4) (by decide) (fun _ _ _ _ _ => (dmeth (ih .Words_thing_of) gd hr takes0N rfl (dv 0) (da_cons (dv 4) (da_cons (de_op od_add (dv 2) de_int) da_nil))))) da_nil)))))))
theorem bd_Words_several {fd : FuncData} (FD : FunD K (nm .Words_several) (ql .Words_several) (defArgs (st .Words_several)) (defBody (st .Words_several)) (defScope (st .Words_several)) [] [] (He.fAd K (at_ .Words_several)) fd) : Binds K fd (ps .Words_several) [] := FD.bindsN fun _ _ _ _ _ _ us hl => match us, hl with | [_, _, _], _ => rfl
theorem ok_Words_several (T : FT w K mg) {n : Nat} (ih : ∀ y, Ok P w K mg base n y) : Ok P w K mg base (n + 1) .Words_several := by
  refine metN_of T.toFactsN .Words_several rfl T.cl.cls (T.mt "several" (by decide +kernel)) sc_Words_several (by decide) (fun fd FD => bd_Words_several FD) fun cdv A outer s H E gd hr => ?_
  have hu := hr.units
  have hu5 := room65 hr
  have hu1 := room1 hr
  have hu12 := room12 hr
  have tk : L2N.Takes (cxOf (L2N.CX P w) P w K mg base N_Words_several (ql .Words_several) (defScope (st .Words_several)) (He.fAd K (at_ .Words_several)) cdv A outer s H E) (fun cls d _ H => E cls d H) := L2N.takes_of rfl rfl rfl rfl
  have po : PassesOwn (model P w) (cxOf (L2N.CX P w) P w K mg base N_Words_several (ql .Words_several) (defScope (st .Words_several)) (He.fAd K (at_ .Words_several)) cdv A outer s H E).A (cxOf (L2N.CX P w) P w K mg base N_Words_several (ql .Words_several) (defScope (st .Words_several)) (He.fAd K (at_ .Words_several)) cdv A outer s H E).env (cxOf (L2N.CX P w) P w K mg base N_Words_several (ql .Words_several) (defScope (st .Words_several)) (He.fAd K (at_ .Words_several)) cdv A outer s H E).xe := passes_of rfl
  exact (dss_cons (ds_set 3 sc_Words_several.nd rfl (by first | exact Or.inl rfl | exact Or.inr rfl) (dmeth0 (ih .Words_next_number) gd hr tk rfl (dv 0))) (dss_cons (ds_if (dt_cmp od_lt (dv 3) de_int) (dss_one (ds_raise rfl (T.X.xc "NoText" (by decide +kernel)) tk rfl rfl de_str)) dss_nil) (dss_one (ds_ret (de_callTy cd_tuple rfl (T.fr "tuple" (by decide +kernel)) (by decide +kernel) (da_cons (de_comp (own := [("k", 4)]) rfl sc_Words_several.nd (di_range rfl (T.fr "range" (by decide +kernel)) (dv 3)) (blkOk_by (own := [("k", 4)]) (N := N_Words_several) (sc := defScope (st .Words_several)) (by decide +kernel)) (fun _ _ _ _ _ => (pg_name (i := 4) sc_Words_several.nd rfl (by first | exact Or.inl rfl | exact Or.inr rfl))) (tgok_name _ 4) (by decide) (fun _ _ _ _ _ => (dmeth (ih .Words_thing_of) gd hr takes0N rfl (dv 0) (da_cons (dv 1) (da_cons (de_op od_add (dv 2) de_int) da_nil))))) da_nil))))))
theorem bd_Words_thing_of {fd : FuncData} (FD : FunD K (nm .Words_thing_of) (ql .Words_thing_of) (defArgs (st .Words_thing_of)) (defBody (st .Words_thing_of)) (defScope (st .Words_thing_of)) [] [] (He.fAd K (at_ .Words_thing_of)) fd) : Binds K fd (ps .Words_thing_of) [] := FD.bindsN fun _ _ _ _ _ _ us hl => match us, hl with | [_, _, _], _ => rfl
theorem ok_Words_thing_of (T : FT w K mg) {n : Nat} (ih : ∀ y, Ok P w K mg base n y) : Ok P w K mg base (n + 1) .Words_thing_of := by
  refine metN_of T.toFactsN .Words_thing_of rfl T.cl.cls (T.mt "thing_of" (by decide +kernel)) sc_Words_thing_of (by decide) (fun fd FD => bd_Words_thing_of FD) fun cdv A outer s H E gd hr => ?_
  have hu := hr.units
  have hu5 := room65 hr
  have hu1 := room1 hr
  have hu12 := room12 hr
  have tk : L2N.Takes (cxOf (L2N.CX P w) P w K mg base N_Words_thing_of (ql .Words_thing_of) (defScope (st .Words_thing_of)) (He.fAd K (at_ .Words_thing_of)) cdv A outer s H E) (fun cls d _ H => E cls d H) := L2N.takes_of rfl rfl rfl rfl
  have po : PassesOwn (model P w) (cxOf (L2N.CX P w) P w K mg base N_Words_thing_of (ql .Words_thing_of) (defScope (st .Words_thing_of)) (He.fAd K (at_ .Words_thing_of)) cdv A outer s H E).A (cxOf (L2N.CX P w) P w K mg base N_Words_thing_of (ql .Words_thing_of) (defScope (st .Words_thing_of)) (He.fAd K (at_ .Words_thing_of)) cdv A outer s H E).env (cxOf (L2N.CX P w) P w K mg base N_Words_thing_of (ql .Words_thing_of) (defScope (st .Words_thing_of)) (He.fAd K (at_ .Words_thing_of)) cdv A outer s H E).xe := passes_of rfl
  exact (dss_cons (ds_if (dt_cmp od_gt (dv 2) (de_con rfl T.c_DEEPEST)) (dss_one (ds_raise rfl (T.X.xc "NoText" (by decide +kernel)) tk rfl rfl de_str)) dss_nil) (dss_cons (ds_if (dt_cmp od_eqS (dv 1) de_str) (dss_one (ds_ret (dmeth0 (ih .Words_next_number) gd hr tk rfl (dv 0)))) dss_nil) (dss_cons (ds_if (dt_cmp od_eqS (dv 1) de_str) (dss_one (ds_ret (dmeth0 (ih .Words_next_word) gd hr tk rfl (dv 0)))) dss_nil) (dss_cons (ds_if (dt_cmp (od_inK T.tabs) (dv 1) (de_tab rfl (T.tm "SEVERAL" (by decide +kernel)))) (dss_one (ds_ret (dmeth (ih .Words_several) gd hr tk rfl (dv 0) (da_cons (de_ixK T.tabs (de_tab rfl (T.tm "SEVERAL" (by decide +kernel))) (dv 1)) (da_cons (dv 2) da_nil))))) dss_nil) (dss_one (ds_ret (dmeth (ih .Words_headed) gd hr tk rfl (dv 0) (da_cons (de_ixK T.tabs (de_tab rfl (T.tm "HEADS" (by decide +kernel))) (dv 1)) (da_cons (dv 2) da_nil)))))))))
theorem all_ok (T : FT w K mg) : ∀ (n : Nat) (y : Fn), Ok P w K mg base n y
  | 0, y => by
    cases y with
    | is_whole => obtain ⟨fd, FD⟩ := T.fd .is_whole; exact calm_zero (T.mgf .is_whole _ rfl) FD.kp (bd_is_whole FD)
    | is_rule => obtain ⟨fd, FD⟩ := T.fd .is_rule; exact calm_zero (T.mgf .is_rule _ rfl) FD.kp (bd_is_rule FD)
    | is_change => obtain ⟨fd, FD⟩ := T.fd .is_change; exact calm_zero (T.mgf .is_change _ rfl) FD.kp (bd_is_change FD)
    | is_test => obtain ⟨fd, FD⟩ := T.fd .is_test; exact calm_zero (T.mgf .is_test _ rfl) FD.kp (bd_is_test FD)
    | is_look => obtain ⟨fd, FD⟩ := T.fd .is_look; exact calm_zero (T.mgf .is_look _ rfl) FD.kp (bd_is_look FD)
    | is_between => obtain ⟨fd, FD⟩ := T.fd .is_between; exact calm_zero (T.mgf .is_between _ rfl) FD.kp (bd_is_between FD)
    | is_word => obtain ⟨fd, FD⟩ := T.fd .is_word; exact calm_zero (T.mgf .is_word _ rfl) FD.kp (bd_is_word FD)
    | are_numbers => obtain ⟨fd, FD⟩ := T.fd .are_numbers; exact calm_zero (T.mgf .are_numbers _ rfl) FD.kp (bd_are_numbers FD)
    | is_leaf => obtain ⟨fd, FD⟩ := T.fd .is_leaf; exact calm_zero (T.mgf .is_leaf _ rfl) FD.kp (bd_is_leaf FD)
    | is_joined => obtain ⟨fd, FD⟩ := T.fd .is_joined; exact calm_zero (T.mgf .is_joined _ rfl) FD.kp (bd_is_joined FD)
    | has_numbers => obtain ⟨fd, FD⟩ := T.fd .has_numbers; exact calm_zero (T.mgf .has_numbers _ rfl) FD.kp (bd_has_numbers FD)
    | is_plan => obtain ⟨fd, FD⟩ := T.fd .is_plan; exact calm_zero (T.mgf .is_plan _ rfl) FD.kp (bd_is_plan FD)
    | words_for => obtain ⟨fd, FD⟩ := T.fd .words_for; exact calm_zero (T.mgf .words_for _ rfl) FD.kp (bd_words_for FD)
    | plan_text => obtain ⟨fd, FD⟩ := T.fd .plan_text; exact calm_zero (T.mgf .plan_text _ rfl) FD.kp (bd_plan_text FD)
    | is_figures => obtain ⟨fd, FD⟩ := T.fd .is_figures; exact calm_zero (T.mgf .is_figures _ rfl) FD.kp (bd_is_figures FD)
    | read_plan => obtain ⟨fd, FD⟩ := T.fd .read_plan; exact calm_zero (T.mgf .read_plan _ rfl) FD.kp (bd_read_plan FD)
    | l_pot => obtain ⟨fd, FD⟩ := T.fd .l_pot; exact calm_zero (T.mgf .l_pot _ rfl) FD.kp (bd_l_pot FD)
    | l_take => obtain ⟨fd, FD⟩ := T.fd .l_take; exact calm_zero (T.mgf .l_take _ rfl) FD.kp (bd_l_take FD)
    | l_number => obtain ⟨fd, FD⟩ := T.fd .l_number; exact calm_zero (T.mgf .l_number _ rfl) FD.kp (bd_l_number FD)
    | l_word => obtain ⟨fd, FD⟩ := T.fd .l_word; exact calm_zero (T.mgf .l_word _ rfl) FD.kp (bd_l_word FD)
    | l_rest => obtain ⟨fd, FD⟩ := T.fd .l_rest; exact calm_zero (T.mgf .l_rest _ rfl) FD.kp (bd_l_rest FD)
    | l_change => obtain ⟨fd, FD⟩ := T.fd .l_change; exact calm_zero (T.mgf .l_change _ rfl) FD.kp (bd_l_change FD)
    | l_rule => obtain ⟨fd, FD⟩ := T.fd .l_rule; exact calm_zero (T.mgf .l_rule _ rfl) FD.kp (bd_l_rule FD)
    | l_look => obtain ⟨fd, FD⟩ := T.fd .l_look; exact calm_zero (T.mgf .l_look _ rfl) FD.kp (bd_l_look FD)
    | l_test => obtain ⟨fd, FD⟩ := T.fd .l_test; exact calm_zero (T.mgf .l_test _ rfl) FD.kp (bd_l_test FD)
    | l_leaf => obtain ⟨fd, FD⟩ := T.fd .l_leaf; exact calm_zero (T.mgf .l_leaf _ rfl) FD.kp (bd_l_leaf FD)
    | l_upon => obtain ⟨fd, FD⟩ := T.fd .l_upon; exact calm_zero (T.mgf .l_upon _ rfl) FD.kp (bd_l_upon FD)
    | l_plan => obtain ⟨fd, FD⟩ := T.fd .l_plan; exact calm_zero (T.mgf .l_plan _ rfl) FD.kp (bd_l_plan FD)
    | l_sorts => obtain ⟨fd, FD⟩ := T.fd .l_sorts; exact calm_zero (T.mgf .l_sorts _ rfl) FD.kp (bd_l_sorts FD)
    | l_words => obtain ⟨fd, FD⟩ := T.fd .l_words; exact calm_zero (T.mgf .l_words _ rfl) FD.kp (bd_l_words FD)
    | l_tall => obtain ⟨fd, FD⟩ := T.fd .l_tall; exact calm_zero (T.mgf .l_tall _ rfl) FD.kp (bd_l_tall FD)
    | l_parts => obtain ⟨fd, FD⟩ := T.fd .l_parts; exact calm_zero (T.mgf .l_parts _ rfl) FD.kp (bd_l_parts FD)
    | l_deep => obtain ⟨fd, FD⟩ := T.fd .l_deep; exact calm_zero (T.mgf .l_deep _ rfl) FD.kp (bd_l_deep FD)
    | l_bounded => obtain ⟨fd, FD⟩ := T.fd .l_bounded; exact calm_zero (T.mgf .l_bounded _ rfl) FD.kp (bd_l_bounded FD)
    | l_right => obtain ⟨fd, FD⟩ := T.fd .l_right; exact calm_zero (T.mgf .l_right _ rfl) FD.kp (bd_l_right FD)
    | law => obtain ⟨fd, FD⟩ := T.fd .law; exact calm_zero (T.mgf .law _ rfl) FD.kp (bd_law FD)
    | Words_init => obtain ⟨fd, FD⟩ := T.fd .Words_init; exact metm_zero T.cl.cls (T.mt "__init__" (by decide +kernel)) (bd_Words_init FD)
    | Words_is_read => obtain ⟨fd, FD⟩ := T.fd .Words_is_read; exact metm_zero T.cl.cls (T.mt "is_read" (by decide +kernel)) (bd_Words_is_read FD)
    | Words_next_word => obtain ⟨fd, FD⟩ := T.fd .Words_next_word; exact metm_zero T.cl.cls (T.mt "next_word" (by decide +kernel)) (bd_Words_next_word FD)
    | Words_next_number => obtain ⟨fd, FD⟩ := T.fd .Words_next_number; exact metm_zero T.cl.cls (T.mt "next_number" (by decide +kernel)) (bd_Words_next_number FD)
    | Words_headed => obtain ⟨fd, FD⟩ := T.fd .Words_headed; exact metm_zero T.cl.cls (T.mt "headed" (by decide +kernel)) (bd_Words_headed FD)
    | Words_several => obtain ⟨fd, FD⟩ := T.fd .Words_several; exact metm_zero T.cl.cls (T.mt "several" (by decide +kernel)) (bd_Words_several FD)
    | Words_thing_of => obtain ⟨fd, FD⟩ := T.fd .Words_thing_of; exact metm_zero T.cl.cls (T.mt "thing_of" (by decide +kernel)) (bd_Words_thing_of FD)
    | new_Words => exact mkN_zero T.mkr T.cl.mg_
  | n + 1, y => by
    have ih := fun y => all_ok T n y
    cases y with
    | is_whole => exact ok_is_whole T ih
    | is_rule => exact ok_is_rule T ih
    | is_change => exact ok_is_change T ih
    | is_test => exact ok_is_test T ih
    | is_look => exact ok_is_look T ih
    | is_between => exact ok_is_between T ih
    | is_word => exact ok_is_word T ih
    | are_numbers => exact ok_are_numbers T ih
    | is_leaf => exact ok_is_leaf T ih
    | is_joined => exact ok_is_joined T ih
    | has_numbers => exact ok_has_numbers T ih
    | is_plan => exact ok_is_plan T ih
    | words_for => exact ok_words_for T ih
    | plan_text => exact ok_plan_text T ih
    | is_figures => exact ok_is_figures T ih
    | read_plan => exact ok_read_plan T ih
    | l_pot => exact ok_l_pot T ih
    | l_take => exact ok_l_take T ih
    | l_number => exact ok_l_number T ih
    | l_word => exact ok_l_word T ih
    | l_rest => exact ok_l_rest T ih
    | l_change => exact ok_l_change T ih
    | l_rule => exact ok_l_rule T ih
    | l_look => exact ok_l_look T ih
    | l_test => exact ok_l_test T ih
    | l_leaf => exact ok_l_leaf T ih
    | l_upon => exact ok_l_upon T ih
    | l_plan => exact ok_l_plan T ih
    | l_sorts => exact ok_l_sorts T ih
    | l_words => exact ok_l_words T ih
    | l_tall => exact ok_l_tall T ih
    | l_parts => exact ok_l_parts T ih
    | l_deep => exact ok_l_deep T ih
    | l_bounded => exact ok_l_bounded T ih
    | l_right => exact ok_l_right T ih
    | law => exact ok_law T ih
    | Words_init => exact ok_Words_init T ih
    | Words_is_read => exact ok_Words_is_read T ih
    | Words_next_word => exact ok_Words_next_word T ih
    | Words_next_number => exact ok_Words_next_number T ih
    | Words_headed => exact ok_Words_headed T ih
    | Words_several => exact ok_Words_several T ih
    | Words_thing_of => exact ok_Words_thing_of T ih
    | new_Words => exact mkN_of T.mkr T.cl.mg_ (ih .Words_init)
end
/-! ## the head -/
def dfn (y : Fd) : He.DefD := ⟨at_ y, nm y, ql y, defArgs (st y), defBody (st y), defScope (st y), [], []⟩
def fnl : List Fd := [.is_whole, .is_rule, .is_change, .is_test, .is_look, .is_between, .is_word, .are_numbers, .is_leaf, .is_joined, .has_numbers, .is_plan, .words_for, .plan_text, .is_figures, .read_plan, .l_pot, .l_take, .l_number, .l_word, .l_rest, .l_change, .l_rule, .l_look, .l_test, .l_leaf, .l_upon, .l_plan, .l_sorts, .l_words, .l_tall, .l_parts, .l_deep, .l_bounded, .l_right, .law, .Words_init, .Words_is_read, .Words_next_word, .Words_next_number, .Words_headed, .Words_several, .Words_thing_of]
def fn : List He.DefD := fnl.map dfn
def fac : List He.Fa := [.int "DEEPEST" 150, .str "FIGURES" "0123456789", .glo "LEAVES", .str "LETTERS" "abcdefghijklmnopqrstuvwxyz", .int "MOST" 200, .int "MOST_JOINED" 6, .int "MOST_ROWS" 60, .int "WIDEST" 20] ++ (["GiftError", "NoText", "NoPlan", "Words", "PLANS", "CHANGES", "LOOKS", "HEADS", "SEVERAL"] : List Str).map He.Fa.glo
def fa : List He.Fa := (fnl.map fun y => He.Fa.glo (at_ y).1) ++ free.map He.Fa.free ++ fac
def exm (K : PySem.W.Frag) : Bool := He.tupB K "LEAVES" [.str "list", .str "broken", .str "count", .str "row"] && excB exn K && (He.Fa.cls "Words").ok K && ((["all_words", "many_read"] : List Str).all fun f => (He.Fa.noat "Words" f).ok K) && (He.Fa.mkr "Words").ok K && ((["__init__", "is_read", "next_word", "next_number", "headed", "several", "thing_of"] : List Str).all fun m => (He.Fa.meth "Words" m).ok K) && (tabs.all fun t => tabB K t.1 t.2)
abbrev R : PySem.W.OpenRow := PySem.W.OpenLaw.row PySem.Challenge.rw_giftstreams_k91_plan_texts
def tbs : List He.Tab := [(fun K => He.ga K "PLANS", ["list", "broken", "count", "row", "turn", "sieve", "upto", "cut", "left", "chain", "beside", "ahead", "windows", "marks", "spare", "wanted"]), (fun K => He.ga K "CHANGES", ["add", "times", "rest", "one", "sum"]), (fun K => He.ga K "LOOKS", ["rest", "below", "after"]), (fun K => He.ga K "HEADS", ["plan", "change", "look"]), (fun K => He.ga K "SEVERAL", ["numbers", "rule", "test", "plans"])]
abbrev hk : PySem.W.Hook := hookN 6 fa fn tbs exm
def ob (s : PySem.W.SharedT) : He.AlT × Bool := obsN 6 fa fn tbs exm (HandSHeadRun.getT s)
theorem ob_eq (s : PySem.W.SharedT) : ob s = hk.obs s.abs := obsN_eq (HandSHeadRun.getT_eq s)
def names : List PySem.Str := (["GiftError", "NoText", "NoPlan", "is_whole", "is_rule", "is_change", "is_test", "is_look", "LETTERS", "LEAVES", "MOST", "MOST_ROWS", "WIDEST", "MOST_JOINED", "is_between", "is_word", "are_numbers", "is_leaf", "is_joined", "has_numbers", "is_plan", "FIGURES", "DEEPEST", "PLANS", "CHANGES", "LOOKS", "HEADS", "SEVERAL", "words_for", "plan_text"] : List PySem.Str) ++ (["is_figures", "Words", "read_plan", "_law_pot", "_law_take", "_law_number", "_law_word", "_law_rest", "_law_change", "_law_rule", "_law_look", "_law_test", "_law_leaf", "_law_upon", "_law_plan", "_law_sorts", "_law_words", "_law_tall", "_law_parts", "_law_deep", "_law_bounded", "_law_right"] : List PySem.Str)
/-- a world, with what it says of one row put out -/
def wB (b : Bool) (w : World) : World := ⟨w.draws, { w.params with followText := fun r => cond (r == "special-get-raises") b (w.params.followText r) }⟩
theorem wB_eq (w : World) : wB (w.params.followText "special-get-raises") w = w := by
  obtain ⟨d, p⟩ := w
  show (⟨d, { p with followText := fun r => cond (r == "special-get-raises") (p.followText "special-get-raises") (p.followText r) }⟩ : World) = ⟨d, p⟩
  have e : (fun r => cond (r == "special-get-raises") (p.followText "special-get-raises") (p.followText r)) = p.followText := by
    funext r
    cases h : (r == "special-get-raises") with
    | false => rfl
    | true => rw [eq_of_beq h]; rfl
  rw [e]
theorem run_true (w : World) : HandSHeadRun.RunEq R (PySem.W.view R.prog [58]) hk ob 20000 names (wB true w) := by
  intro os
  kernel_rfl
theorem run_false (w : World) : HandSHeadRun.RunEq R (PySem.W.view R.prog [58]) hk ob 20000 names (wB false w) := by
  intro os
  kernel_rfl
theorem run (w : World) : HandSHeadRun.RunEq R (PySem.W.view R.prog [58]) hk ob 20000 names w := by
  rw [← wB_eq w]
  cases w.params.followText "special-get-raises" with
  | true => exact run_true w
  | false => exact run_false w
theorem mem_fnl (y : Fd) : y ∈ fnl := by cases y <;> simp [fnl]
theorem facts {w : World} {K : PySem.W.Frag} {h : Heap} {mg : Str → Option Value} (X : K.In h) (G : h.Ns mainGlobals mg) (c0 : He.SaysT fa fn tbs w K) (cx : exm K = true) : FT w K mg := by
  have c := c0.d
  have gl : ∀ (i : Nat) (x : Str), fac[i]? = some (He.Fa.glo x) → mg x = some (.ref (He.ga K x)) := fun i x hi => by
    refine He.glo_ok X G (c.fact (fnl.length + free.length + i) (f := .glo x) ?_)
    unfold fa
    rw [List.getElem?_append_right (by simp)]
    simpa using hi
  have tm : ∀ x ∈ (["PLANS", "CHANGES", "LOOKS", "HEADS", "SEVERAL"] : List Str), mg x = some (.ref (He.ga K x)) := fun x hx => by
    obtain ⟨i, hi⟩ := List.getElem?_of_mem (show He.Fa.glo x ∈ fac by simp only [List.mem_cons, List.not_mem_nil, or_false] at hx; rcases hx with rfl | rfl | rfl | rfl | rfl <;> simp [fac])
    exact gl i x hi
  exact {
  mgf := fun y x hx => by
    obtain ⟨i, hi⟩ := List.getElem?_of_mem (mem_fnl y)
    have hl : i < fnl.length := (List.getElem?_eq_some_iff.mp hi).1
    refine He.glo_ok X G (c.fact i (f := .glo x) ?_)
    unfold fa
    rw [List.append_assoc, List.getElem?_append_left (by simpa using hl), List.getElem?_map, hi]
    simp [hx]
  fd := fun y => by
    obtain ⟨i, hi⟩ := List.getElem?_of_mem (mem_fnl y)
    exact c.def_ i (d := dfn y) (by unfold fn; rw [List.getElem?_map, hi]; rfl)
  fr := fun x hx => by
    obtain ⟨i, hi⟩ := List.getElem?_of_mem hx
    refine He.free_ok X G (c.fact (fnl.length + i) (f := .free x) ?_)
    have hl2 : i < free.length := (List.getElem?_eq_some_iff.mp hi).1
    unfold fa
    rw [List.append_assoc, List.getElem?_append_right (by simp), List.getElem?_append_left (by simp; omega), List.getElem?_map]
    simp [hi]
  tm := tm
  X := by
    have cx := cx
    simp only [exm, Bool.and_eq_true] at cx
    refine excB_ok (fun x hx => ?_) cx.1.1.1.1.1.2
    obtain ⟨i, hi⟩ := List.getElem?_of_mem (show He.Fa.glo x ∈ fac by
      simp only [exn, List.mem_cons, List.not_mem_nil, or_false] at hx
      rcases hx with rfl | rfl | rfl <;> simp [fac])
    exact gl i x hi
  tabs := fun c l hc => by
    have cx := cx
    simp only [exm, Bool.and_eq_true] at cx
    unfold tabOf at hc
    cases q : tabs.find? (fun p => decide (p.1 = c)) with
    | none => rw [q] at hc; cases hc
    | some p =>
      rw [q] at hc
      have hl : p.2 = l := by simpa using hc
      have h1 : p.1 = c := of_decide_eq_true (List.find?_some (p := fun p : Str × List (Str × D) => decide (p.1 = c)) q)
      have hm := List.mem_of_find?_eq_some q
      have h2 := List.all_eq_true.mp cx.2 p hm
      subst hl h1
      refine ⟨?_, h2⟩
      simp only [tabs, List.mem_cons, List.not_mem_nil, or_false] at hm
      rcases hm with rfl | rfl | rfl | rfl | rfl
      · exact c0.tab 0 (t := (fun K => He.ga K "PLANS", ["list", "broken", "count", "row", "turn", "sieve", "upto", "cut", "left", "chain", "beside", "ahead", "windows", "marks", "spare", "wanted"])) rfl
      · exact c0.tab 1 (t := (fun K => He.ga K "CHANGES", ["add", "times", "rest", "one", "sum"])) rfl
      · exact c0.tab 2 (t := (fun K => He.ga K "LOOKS", ["rest", "below", "after"])) rfl
      · exact c0.tab 3 (t := (fun K => He.ga K "HEADS", ["plan", "change", "look"])) rfl
      · exact c0.tab 4 (t := (fun K => He.ga K "SEVERAL", ["numbers", "rule", "test", "plans"])) rfl
  cl := by
    have cx := cx
    simp only [exm, Bool.and_eq_true] at cx
    obtain ⟨i, hi⟩ := List.getElem?_of_mem (show He.Fa.glo "Words" ∈ fac by simp [fac])
    exact ⟨gl i _ hi, He.cls_ok cx.1.1.1.1.2, fun f hf => He.noat_ok (List.all_eq_true.mp cx.1.1.1.2 f hf)⟩
  mkr := by
    have cx := cx
    simp only [exm, Bool.and_eq_true] at cx
    exact He.mkr_ok cx.1.1.2
  mt := fun m hm => by
    have cx := cx
    simp only [exm, Bool.and_eq_true] at cx
    exact He.meth_ok (List.all_eq_true.mp cx.1.2 m hm)
  c_DEEPEST := by
    have hf := c.fact (fnl.length + free.length + 0) (f := .int "DEEPEST" 150) (by unfold fa; rw [List.getElem?_append_right (by simp)]; simp [fac])
    obtain ⟨t, h⟩ := He.int_ok X G hf
    exact .int h
  c_FIGURES := by
    have hf := c.fact (fnl.length + free.length + 1) (f := .str "FIGURES" "0123456789") (by unfold fa; rw [List.getElem?_append_right (by simp)]; simp [fac])
    obtain ⟨t, h⟩ := He.str_ok X G hf
    exact .str h
  c_LEAVES := by
    have hf := c.fact (fnl.length + free.length + 2) (f := .glo "LEAVES") (by unfold fa; rw [List.getElem?_append_right (by simp)]; simp [fac])
    have cx := cx
    simp only [exm, Bool.and_eq_true] at cx
    exact .tup (zs := ["list", "broken", "count", "row"]) (He.glo_ok X G hf) (fun H => He.tupB_ok cx.1.1.1.1.1.1 H) (Nat.le_of_ble_eq_true rfl)
  c_LETTERS := by
    have hf := c.fact (fnl.length + free.length + 3) (f := .str "LETTERS" "abcdefghijklmnopqrstuvwxyz") (by unfold fa; rw [List.getElem?_append_right (by simp)]; simp [fac])
    obtain ⟨t, h⟩ := He.str_ok X G hf
    exact .str h
  c_MOST := by
    have hf := c.fact (fnl.length + free.length + 4) (f := .int "MOST" 200) (by unfold fa; rw [List.getElem?_append_right (by simp)]; simp [fac])
    obtain ⟨t, h⟩ := He.int_ok X G hf
    exact .int h
  c_MOST_JOINED := by
    have hf := c.fact (fnl.length + free.length + 5) (f := .int "MOST_JOINED" 6) (by unfold fa; rw [List.getElem?_append_right (by simp)]; simp [fac])
    obtain ⟨t, h⟩ := He.int_ok X G hf
    exact .int h
  c_MOST_ROWS := by
    have hf := c.fact (fnl.length + free.length + 6) (f := .int "MOST_ROWS" 60) (by unfold fa; rw [List.getElem?_append_right (by simp)]; simp [fac])
    obtain ⟨t, h⟩ := He.int_ok X G hf
    exact .int h
  c_WIDEST := by
    have hf := c.fact (fnl.length + free.length + 7) (f := .int "WIDEST" 20) (by unfold fa; rw [List.getElem?_append_right (by simp)]; simp [fac])
    obtain ⟨t, h⟩ := He.int_ok X G hf
    exact .int h
  }
end K91
end

section
open PySem PySem.W PySem.Calls PyProof.Rows
set_option maxRecDepth 100000 in
set_option maxHeartbeats 0 in
theorem PySem.Challenge.cw_giftstreams_k91_plan_texts_holds : PySem.Challenge.rw_giftstreams_k91_plan_texts.Holds := by
  w_on; o_law
  refine HandSHeadRun.head_any (r := OpenLaw.row PySem.Challenge.rw_giftstreams_k91_plan_texts) (q := view (OpenLaw.row PySem.Challenge.rw_giftstreams_k91_plan_texts).prog [58]) (H := K91.hk) (ob := K91.ob) (M := 20000) (loose := K91.names) (d := HandSHeadRun.topDef (OpenLaw.row PySem.Challenge.rw_giftstreams_k91_plan_texts).prog 58) (kwd := []) K91.ob_eq
    (by kernel_rfl) (fun s => by kernel_rfl) K91.run (by kernel_rfl) (by kernel_rfl) (by kernel_rfl) (by rfl) (by first | assumption | decide +kernel) (by decide +kernel) ⟨rfl, rfl, rfl, rfl, rfl, by decide +kernel⟩ ?hw ?hc
  case hw => w_witness2
  case hc =>
    refine G.walkG (l := PySem.Challenge.rw_giftstreams_k91_plan_texts) (k := 100) (x := "_law_script") (F := K91.fns 100 .law) rfl (by kernel_rfl) ⟨rfl, by decide, by decide⟩ ?F K91.tells_true
    intro w mg fa h Y Gr hmg0
    obtain ⟨K, KX, c, cx⟩ := Y
    have hmg : mg ("law" : PySem.Str) = some (.ref fa) := by
      have e : (HandSHeadRun.topDef (OpenLaw.row PySem.Challenge.rw_giftstreams_k91_plan_texts).prog 58).name = ("law" : PySem.Str) := by kernel_rfl
      rw [← e]
      exact hmg0
    have T := K91.facts KX Gr c cx
    have z := hmg.symm.trans (T.mgf .law _ rfl)
    cases z
    obtain ⟨fd, FD⟩ := T.fd .law
    refine ⟨K, fd, KX, ?_, fun base kb nb => ?_⟩
    · have b := L2.FunD.bindsA (ps := ["_law_script"]) FD fun _ _ _ _ _ _ us hl => match us, hl with | [_], _ => rfl
      exact fun s v => b s [v] rfl
    · exact K91.fm_law T (fun y => K91.all_ok T 99 y) FD
end
