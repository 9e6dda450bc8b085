import PyProof.Rows.All
import Wide.All
import OpenK.AllK
import Wide.FinOn
import HandS.ForMost
import HandS.Wide
import HandS.TupAny
import HandS.IsInst
import HandS.Style
import HandS.SortInts
import KE.GoesEnum
import KE.KRevSl
import HandS.Zip
import KE.SortData
import HandS.Star
import HandS.Conv
import KE.GoesEnumKw
import KE.KDictPairs
import KE.GoesMore
import HandS.TupMul
import KE.DataAny
import HandS.TryOnly
import HandS.More
import KE.KDictSum
import PySem.Challenge.RW_framesheld_k53_parters_of_frames
set_option Elab.async false
set_option linter.all false
set_option maxRecDepth 100000
set_option maxHeartbeats 8000000
/-! A layer of data: what a reading does, told by plain data (PyData) alone. -/
namespace Pu
open PySem L2

/-! ### data that stand in a heap -/
/-- a value without parts -/
def flV : PyData → Option V
  | .none => some .non
  | .bool b => some (.bl b)
  | .int i => some (.int i)
  | .str x => some (.str x)
  | _ => none
/-- a tuple of ints and texts, as a key -/
def keyD (ks : List Key) : PyData := .tuple (ks.map fun k => match k with | .inl i => .int i | .inr x => .str x)
/-- a dict whose keys are such tuples, its values without parts -/
def TabD (kvs : List (PyData × PyData)) (xs : List (List Key × V)) : Prop := kvs.map (fun p => (p.1, flV p.2)) = xs.map (fun q => (keyD q.1, some q.2))
/-- a number or a text, as a key -/
def keD : Key → PyData
  | .inl i => .int i
  | .inr x => .str x
mutual
def Da (F : Hp) : PyData → V → Prop
  | .none, v => v = .non
  | .bool b, v => v = .bl b
  | .int i, v => v = .int i
  | .str x, v => v = .str x
  | .list ds, v => ∃ a xs, v = .ref a ∧ F a = some (.lst xs) ∧ Das F ds xs
  | .tuple ds, v => ∃ a xs, v = .ref a ∧ F a = some (.tup xs) ∧ Das F ds xs
  | .dict kvs, v => ∃ a, v = .ref a ∧ ((kvs = [] ∧ F a = some (.dK [])) ∨ (kvs ≠ [] ∧ ∃ xs, TabD kvs xs ∧ F a = some (.dT xs)) ∨ DaM F kvs (F a))
/-- a dict of a def's own, as data: its first entry is a mark (not in the dict) that tells which keys it has -/
def DaM (F : Hp) : List (PyData × PyData) → Option HO → Prop
  | [], _ => False
  | (a, b) :: r, o => a = .none ∧ ((b = .none ∧ ∃ xs, o = some (.dT xs) ∧ DaT F r xs) ∨ (b = .bool true ∧ ∃ xs, o = some (.dK xs) ∧ DaK F r xs))
def DaT (F : Hp) : List (PyData × PyData) → List (List Key × V) → Prop
  | [], xs => xs = []
  | (a, b) :: r, xs => ∃ k y ys, xs = (k, y) :: ys ∧ a = keyD k ∧ Da F b y ∧ DaT F r ys
def DaK (F : Hp) : List (PyData × PyData) → List (Key × V) → Prop
  | [], xs => xs = []
  | (a, b) :: r, xs => ∃ k y ys, xs = (k, y) :: ys ∧ a = keD k ∧ Da F b y ∧ DaK F r ys
def Das (F : Hp) : List PyData → List V → Prop
  | [], xs => xs = []
  | d :: ds, xs => ∃ y ys, xs = y :: ys ∧ Da F d y ∧ Das F ds ys
end

mutual
theorem Da.mono {F F' : Hp} (h : ∀ a o, F a = some o → F' a = some o) : ∀ (d : PyData) (v : V), Da F d v → Da F' d v
  | .none, _, e => by simpa only [Da] using e
  | .bool _, _, e => by simpa only [Da] using e
  | .int _, _, e => by simpa only [Da] using e
  | .str _, _, e => by simpa only [Da] using e
  | .list ds, v, e => by
    simp only [Da] at e ⊢
    obtain ⟨a, xs, e1, e2, e3⟩ := e
    exact ⟨a, xs, e1, h _ _ e2, Das.mono h ds xs e3⟩
  | .tuple ds, v, e => by
    simp only [Da] at e ⊢
    obtain ⟨a, xs, e1, e2, e3⟩ := e
    exact ⟨a, xs, e1, h _ _ e2, Das.mono h ds xs e3⟩
  | .dict kvs, v, e => by
    simp only [Da] at e ⊢
    obtain ⟨a, e1, e2⟩ := e
    rcases e2 with ⟨e0, e2⟩ | ⟨e0, xs, e3, e2⟩ | e2
    · exact ⟨a, e1, .inl ⟨e0, h _ _ e2⟩⟩
    · exact ⟨a, e1, .inr (.inl ⟨e0, xs, e3, h _ _ e2⟩)⟩
    · exact ⟨a, e1, .inr (.inr (DaM.mono h kvs a e2))⟩
theorem DaM.mono {F F' : Hp} (h : ∀ a o, F a = some o → F' a = some o) : ∀ (kvs : List (PyData × PyData)) (a : Addr), DaM F kvs (F a) → DaM F' kvs (F' a)
  | [], _, e => by simp only [DaM] at e
  | (x, y) :: r, a, e => by
    simp only [DaM] at e ⊢
    rcases e with ⟨e0, ⟨e1, xs, e2, e3⟩ | ⟨e1, xs, e2, e3⟩⟩
    · exact ⟨e0, .inl ⟨e1, xs, h _ _ e2, DaT.mono h r xs e3⟩⟩
    · exact ⟨e0, .inr ⟨e1, xs, h _ _ e2, DaK.mono h r xs e3⟩⟩
theorem DaT.mono {F F' : Hp} (h : ∀ a o, F a = some o → F' a = some o) : ∀ (kvs : List (PyData × PyData)) (xs : List (List Key × V)), DaT F kvs xs → DaT F' kvs xs
  | [], _, e => by simpa only [DaT] using e
  | (x, z) :: r, xs, e => by
    simp only [DaT] at e ⊢
    obtain ⟨k, y, ys, e1, e2, e3, e4⟩ := e
    exact ⟨k, y, ys, e1, e2, Da.mono h z y e3, DaT.mono h r ys e4⟩
theorem DaK.mono {F F' : Hp} (h : ∀ a o, F a = some o → F' a = some o) : ∀ (kvs : List (PyData × PyData)) (xs : List (Key × V)), DaK F kvs xs → DaK F' kvs xs
  | [], _, e => by simpa only [DaK] using e
  | (x, z) :: r, xs, e => by
    simp only [DaK] at e ⊢
    obtain ⟨k, y, ys, e1, e2, e3, e4⟩ := e
    exact ⟨k, y, ys, e1, e2, Da.mono h z y e3, DaK.mono h r ys e4⟩
theorem Das.mono {F F' : Hp} (h : ∀ a o, F a = some o → F' a = some o) : ∀ (ds : List PyData) (vs : List V), Das F ds vs → Das F' ds vs
  | [], _, e => by simpa only [Das] using e
  | d :: ds, vs, e => by
    simp only [Das] at e ⊢
    obtain ⟨y, ys, e1, e2, e3⟩ := e
    exact ⟨y, ys, e1, Da.mono h d y e2, Das.mono h ds ys e3⟩
end

mutual
def noD : PyData → Bool
  | .dict _ => false
  | .list ds => noDs ds
  | .tuple ds => noDs ds
  | _ => true
def noDs : List PyData → Bool
  | [] => true
  | d :: ds => noD d && noDs ds
end
mutual
theorem Da.dp {K : PySem.W.Frag} {F H : Hp} (h : ∀ a o, F a = some o → H a = some o) : ∀ (d : PyData) (v : V), noD d = true → Da F d v → Dp K H v d
  | .none, _, _, e => by
    simp only [Da] at e
    subst e; exact .non
  | .bool b, _, _, e => by
    simp only [Da] at e
    subst e; exact .bl b
  | .int i, _, _, e => by
    simp only [Da] at e
    subst e; exact .int i
  | .str x, _, _, e => by
    simp only [Da] at e
    subst e; exact .str x
  | .list ds, v, n, e => by
    simp only [Da] at e
    obtain ⟨a, xs, e1, e2, e3⟩ := e
    subst e1
    exact .lst (SqL.of (h _ _ e2)) (Das.dp h ds xs (by simpa only [noD] using n) e3)
  | .tuple ds, v, n, e => by
    simp only [Da] at e
    obtain ⟨a, xs, e1, e2, e3⟩ := e
    subst e1
    exact .tup (SqT.of (h _ _ e2)) (Das.dp h ds xs (by simpa only [noD] using n) e3)
  | .dict kvs, v, n, e => by simp [noD] at n
theorem Das.dp {K : PySem.W.Frag} {F H : Hp} (h : ∀ a o, F a = some o → H a = some o) : ∀ (ds : List PyData) (vs : List V), noDs ds = true → Das F ds vs → DpAll K H vs ds
  | [], _, _, e => by
    simp only [Das] at e
    subst e; exact .nil
  | d :: ds, vs, n, e => by
    simp only [Das] at e
    obtain ⟨y, ys, e1, e2, e3⟩ := e
    subst e1
    simp only [noDs, Bool.and_eq_true] at n
    exact .cons (Da.dp h d y n.1 e2) (Das.dp h ds ys n.2 e3)
end

section
variable {F F' H : Hp} {ds es : List PyData} {d : PyData} {vs ws : List V} {v : V}
theorem Das.nil : Das F [] [] := by simp only [Das]
theorem Das.cons (h : Da F d v) (t : Das F ds vs) : Das F (d :: ds) (v :: vs) := by
  simp only [Das]
  exact ⟨v, vs, rfl, h, t⟩
theorem Das.inv_nil (h : Das F [] vs) : vs = [] := by simpa only [Das] using h
theorem Das.inv_cons (h : Das F (d :: ds) vs) : ∃ y ys, vs = y :: ys ∧ Da F d y ∧ Das F ds ys := by simpa only [Das] using h
theorem Das.len : ∀ {ds : List PyData} {vs : List V}, Das F ds vs → vs.length = ds.length
  | [], vs, h => by rw [h.inv_nil] <;> rfl
  | d :: ds, vs, h => by
    obtain ⟨y, ys, rfl, _, t⟩ := h.inv_cons
    rw [List.length_cons, List.length_cons, Das.len t]
theorem Das.get : ∀ {ds : List PyData} {vs : List V} {i : Nat} {d : PyData}, Das F ds vs → ds[i]? = some d → ∃ v, vs[i]? = some v ∧ Da F d v
  | [], _, _, _, _, e => by simp at e
  | d :: ds, vs, i, e, h, he => by
    obtain ⟨y, ys, rfl, hy, t⟩ := h.inv_cons
    cases i with
    | zero =>
      have : d = e := by simpa using he
      subst this
      exact ⟨y, rfl, hy⟩
    | succ i => exact Das.get (i := i) t (by simpa using he)
theorem Das.get' : ∀ {ds : List PyData} {vs : List V} {i : Nat} {v : V}, Das F ds vs → vs[i]? = some v → ∃ d, ds[i]? = some d ∧ Da F d v
  | [], vs, _, _, h, e => by
    rw [h.inv_nil] at e
    simp at e
  | d :: ds, vs, i, e, h, he => by
    obtain ⟨y, ys, rfl, hy, t⟩ := h.inv_cons
    cases i with
    | zero =>
      have : y = e := by simpa using he
      subst this
      exact ⟨d, rfl, hy⟩
    | succ i => exact Das.get' (i := i) t (by simpa using he)
theorem Das.append : ∀ {ds es : List PyData} {vs ws : List V}, Das F ds vs → Das F es ws → Das F (ds ++ es) (vs ++ ws)
  | [], _, _, _, h, k => by rw [h.inv_nil]; exact k
  | d :: ds, es, vs, ws, h, k => by
    obtain ⟨y, ys, rfl, hy, t⟩ := h.inv_cons
    exact Das.cons hy (Das.append t k)
theorem Das.snoc (h : Das F ds vs) (k : Da F d v) : Das F (ds ++ [d]) (vs ++ [v]) := h.append (.cons k .nil)
theorem Das.take : ∀ {ds : List PyData} {vs : List V} (n : Nat), Das F ds vs → Das F (ds.take n) (vs.take n)
  | _, _, 0, _ => by
    rw [List.take_zero, List.take_zero]
    exact .nil
  | [], _, n + 1, h => by
    rw [h.inv_nil]
    exact .nil
  | d :: ds, vs, n + 1, h => by
    obtain ⟨y, ys, rfl, hy, t⟩ := h.inv_cons
    exact Das.cons hy (Das.take n t)
theorem Das.drop : ∀ {ds : List PyData} {vs : List V} (n : Nat), Das F ds vs → Das F (ds.drop n) (vs.drop n)
  | _, _, 0, h => h
  | [], _, n + 1, h => by
    rw [h.inv_nil]
    exact .nil
  | d :: ds, vs, n + 1, h => by
    obtain ⟨y, ys, rfl, hy, t⟩ := h.inv_cons
    exact Das.drop n t
theorem Das.set : ∀ {ds : List PyData} {vs : List V} (n : Nat), Das F ds vs → Da F d v → Das F (ds.set n d) (vs.set n v)
  | [], _, n, h, k => by
    rw [h.inv_nil]
    exact .nil
  | e :: ds, vs, 0, h, k => by
    obtain ⟨y, ys, rfl, hy, t⟩ := h.inv_cons
    exact Das.cons k t
  | e :: ds, vs, n + 1, h, k => by
    obtain ⟨y, ys, rfl, hy, t⟩ := h.inv_cons
    exact Das.cons hy (Das.set n t k)
theorem Das.rev : ∀ {ds : List PyData} {vs : List V}, Das F ds vs → Das F ds.reverse vs.reverse
  | [], _, h => by
    rw [h.inv_nil]
    exact .nil
  | e :: ds, vs, h => by
    obtain ⟨y, ys, rfl, hy, t⟩ := h.inv_cons
    rw [List.reverse_cons, List.reverse_cons]
    exact (Das.rev t).snoc hy
theorem Das.ints : ∀ {ns : List Int} {vs : List V}, Das F (ns.map PyData.int) vs → vs = ns.map V.int
  | [], _, h => by rw [h.inv_nil] <;> rfl
  | n :: ns, vs, h => by
    obtain ⟨y, ys, rfl, hy, t⟩ := h.inv_cons
    simp only [Da] at hy
    rw [hy, Das.ints t] <;> rfl
theorem Das.bools : ∀ {bs : List Bool} {vs : List V}, Das F (bs.map PyData.bool) vs → vs = bs.map V.bl
  | [], _, h => by rw [h.inv_nil] <;> rfl
  | n :: ns, vs, h => by
    obtain ⟨y, ys, rfl, hy, t⟩ := h.inv_cons
    simp only [Da] at hy
    rw [hy, Das.bools t] <;> rfl
theorem Das.of_ints : ∀ (ns : List Int), Das F (ns.map PyData.int) (ns.map V.int)
  | [] => .nil
  | n :: ns => .cons (by simp only [Da]) (Das.of_ints ns)
theorem da_int {i : Int} : Da F (.int i) v ↔ v = .int i := by simp only [Da]
theorem da_bool {i : Bool} : Da F (.bool i) v ↔ v = .bl i := by simp only [Da]
theorem da_str {i : Str} : Da F (.str i) v ↔ v = .str i := by simp only [Da]
theorem da_none : Da F .none v ↔ v = .non := by simp only [Da]
theorem da_list : Da F (.list ds) v ↔ ∃ a xs, v = .ref a ∧ F a = some (.lst xs) ∧ Das F ds xs := by simp only [Da]
theorem da_tup : Da F (.tuple ds) v ↔ ∃ a xs, v = .ref a ∧ F a = some (.tup xs) ∧ Das F ds xs := by simp only [Da]
end

/-! ### what may be changed beside: the source -/
structure Am where
  root : Addr
  dom : Addr → Prop
  ok : Hp → Prop
  tr : ∀ H a, ok H → dom a → H a ≠ none
  loc : ∀ H H' : Hp, (∀ a o, dom a → H a = some o → H' a = some o) → ok H → ok H'

structure Pre (A : Am) (F H : Hp) : Prop where
  fh : ∀ a o, F a = some o → H a = some o
  am : A.ok H
  fa : ∀ a, A.dom a → F a = none
structure Post (A : Am) (F H F' H' : Hp) : Prop where
  le : ∀ a o, H a = some o → ¬ A.dom a → H' a = some o
  ff : ∀ a o, F a = some o → F' a = some o
  fh : ∀ a o, F' a = some o → H' a = some o
  fr : ∀ a o, F' a = some o → F a = some o ∨ H a = none
  am : A.ok H'
section
variable {A : Am} {F H F' H' F'' H'' : Hp}
theorem Pre.next (p : Pre A F H) (q : Post A F H F' H') : Pre A F' H' where
  fh := q.fh
  am := q.am
  fa := fun a ha => by
    cases e : F' a with
    | none => rfl
    | some o =>
      rcases q.fr a o e with h | h
      · rw [p.fa a ha] at h
        cases h
      · exact absurd h (A.tr H a p.am ha)
theorem Pre.refl (p : Pre A F H) : Post A F H F H := ⟨fun _ _ h _ => h, fun _ _ h => h, p.fh, fun _ _ h => .inl h, p.am⟩
theorem none_back (p : A.ok H) (q : ∀ a o, H a = some o → ¬ A.dom a → H' a = some o) (r : A.ok H') {a : Addr} (h : H' a = none) : H a = none := by
  by_cases hd : A.dom a
  · exact absurd h (A.tr H' a r hd)
  · cases e : H a with
    | none => rfl
    | some o =>
      rw [q a o e hd] at h
      cases h
theorem Post.trans (p : A.ok H) (q : Post A F H F' H') (r : Post A F' H' F'' H'') : Post A F H F'' H'' where
  le := fun a o h n => r.le a o (q.le a o h n) n
  ff := fun a o h => r.ff a o (q.ff a o h)
  fh := r.fh
  fr := fun a o h => by
    rcases r.fr a o h with h | h
    · exact q.fr a o h
    · exact .inr (none_back p q.le q.am h)
  am := r.am
/-- a new object, frozen at once -/
theorem Post.new (p : Pre A F H) {a : Addr} {o : HO} (h : H a = none) : Post A F H (upd F a o) (upd H a o) where
  le := fun b x e n => by
    rw [upd_ne (ne_of_none e h)]
    exact e
  ff := fun b x e => by
    rw [upd_ne (ne_of_none (p.fh _ _ e) h)]
    exact e
  fh := fun b x e => by
    by_cases hb : b = a
    · subst hb
      rw [upd_same] at e ⊢
      exact e
    · rw [upd_ne hb] at e ⊢
      exact p.fh _ _ e
  fr := fun b x e => by
    by_cases hb : b = a
    · subst hb
      exact .inr h
    · rw [upd_ne hb] at e
      exact .inl e
  am := A.loc H _ (fun b x _ e => by
    rw [upd_ne (ne_of_none e h)]
    exact e) p.am
/-- a new object, not frozen -/
theorem Post.new0 (p : Pre A F H) {a : Addr} {o : HO} (h : H a = none) : Post A F H F (upd H a o) where
  le := (Post.new (o := o) p h).le
  ff := fun b x e => e
  fh := fun b x e => by
    rw [upd_ne (ne_of_none (p.fh _ _ e) h)]
    exact p.fh _ _ e
  fr := fun b x e => .inl e
  am := (Post.new (o := o) p h).am
theorem Post.frz (q : Post A F H F' H') {a : Addr} {o : HO} (h : H' a = some o) (h0 : H a = none) : Post A F H (upd F' a o) H' where
  le := q.le
  ff := fun b x e => by
    by_cases hb : b = a
    · subst hb
      have := q.fh _ _ (q.ff _ _ e)
      rw [h] at this
      rw [upd_same]
      exact this
    · rw [upd_ne hb]
      exact q.ff _ _ e
  fh := fun b x e => by
    by_cases hb : b = a
    · subst hb
      rw [upd_same] at e
      cases e
      exact h
    · rw [upd_ne hb] at e
      exact q.fh _ _ e
  fr := fun b x e => by
    by_cases hb : b = a
    · subst hb
      exact .inr h0
    · rw [upd_ne hb] at e
      exact q.fr _ _ e
  am := q.am
theorem Post.drop (p : Pre A F H) (q : Post A F H F' H') : Post A F H F H' where
  le := q.le
  ff := fun _ _ h => h
  fh := fun a o h => q.fh _ _ (q.ff _ _ h)
  fr := fun _ _ h => .inl h
  am := q.am
theorem le_upd {F : Hp} {a : Addr} {o : HO} (h : F a = none) : ∀ b x, F b = some x → upd F a o b = some x := fun b x e => by
  rw [upd_ne (ne_of_none e h)]
  exact e
end

theorem DaM.is {F : Hp} {kvs : List (PyData × PyData)} {o : Option HO} (h : DaM F kvs o) : kvs ≠ [] ∧ ((∃ xs, o = some (.dT xs)) ∨ ∃ xs, o = some (.dK xs)) := by
  cases kvs with
  | nil => simp only [DaM] at h
  | cons p r =>
    obtain ⟨a, b⟩ := p
    simp only [DaM] at h
    refine ⟨(fun z => nomatch z), ?_⟩
    rcases h with ⟨_, ⟨_, xs, h, _⟩ | ⟨_, xs, h, _⟩⟩
    · exact .inl ⟨xs, h⟩
    · exact .inr ⟨xs, h⟩
/-- a dict: its keys numbers and texts, or tuples of these; its entries in their sequence -/
inductive DO where
  | k (xs : List (Key × PyData)) | t (xs : List (List Key × PyData))
/-- the dict as data -/
def DO.dat : DO → PyData
  | .k xs => .dict ((.none, .bool true) :: xs.map fun p => (keD p.1, p.2))
  | .t xs => .dict ((.none, .none) :: xs.map fun p => (keyD p.1, p.2))
def DaO (F : Hp) : DO → HO → Prop
  | .k xs, o => ∃ ys, o = .dK ys ∧ DaK F (xs.map fun p => (keD p.1, p.2)) ys
  | .t xs, o => ∃ ys, o = .dT ys ∧ DaT F (xs.map fun p => (keyD p.1, p.2)) ys
theorem DaO.mono {F F' : Hp} (h : ∀ a o, F a = some o → F' a = some o) {d : DO} {o : HO} (e : DaO F d o) : DaO F' d o := by
  cases d with
  | k xs =>
    obtain ⟨ys, e1, e2⟩ := e
    exact ⟨ys, e1, DaK.mono h _ _ e2⟩
  | t xs =>
    obtain ⟨ys, e1, e2⟩ := e
    exact ⟨ys, e1, DaT.mono h _ _ e2⟩
theorem DaO.nl {F : Hp} {d : DO} {o : HO} (e : DaO F d o) (xs : List V) : o ≠ .lst xs := by
  cases d with
  | k _ =>
    obtain ⟨ys, e1, _⟩ := e
    rw [e1]
    exact fun z => nomatch z
  | t _ =>
    obtain ⟨ys, e1, _⟩ := e
    rw [e1]
    exact fun z => nomatch z
theorem DaO.nt {F : Hp} {d : DO} {o : HO} (e : DaO F d o) (xs : List V) : o ≠ .tup xs := by
  cases d with
  | k _ =>
    obtain ⟨ys, e1, _⟩ := e
    rw [e1]
    exact fun z => nomatch z
  | t _ =>
    obtain ⟨ys, e1, _⟩ := e
    rw [e1]
    exact fun z => nomatch z
theorem da_DO {F : Hp} {d : DO} {v : V} : Da F d.dat v ↔ ∃ a o, v = .ref a ∧ F a = some o ∧ DaO F d o := by
  cases d with
  | k xs =>
    unfold DO.dat
    simp only [Da, DaM]
    constructor
    · rintro ⟨a, rfl, ⟨z, _⟩ | ⟨_, xs', z, _⟩ | ⟨_, ⟨z, _⟩ | ⟨_, ys, e1, e2⟩⟩⟩
      · cases z
      · unfold TabD at z
        cases xs' with
        | nil => cases z
        | cons x r =>
          rw [List.map_cons, List.map_cons] at z
          have := (Prod.mk.inj (List.cons.inj z).1).1
          unfold keyD at this
          cases this
      · cases z
      · exact ⟨a, _, rfl, e1, ys, rfl, e2⟩
    · rintro ⟨a, o, rfl, h, ys, rfl, e2⟩
      exact ⟨a, rfl, .inr (.inr ⟨trivial, .inr ⟨trivial, ys, h, e2⟩⟩)⟩
  | t xs =>
    unfold DO.dat
    simp only [Da, DaM]
    constructor
    · rintro ⟨a, rfl, ⟨z, _⟩ | ⟨_, xs', z, _⟩ | ⟨_, ⟨_, ys, e1, e2⟩ | ⟨z, _⟩⟩⟩
      · cases z
      · unfold TabD at z
        cases xs' with
        | nil => cases z
        | cons x r =>
          rw [List.map_cons, List.map_cons] at z
          have := (Prod.mk.inj (List.cons.inj z).1).1
          unfold keyD at this
          cases this
      · exact ⟨a, _, rfl, e1, ys, rfl, e2⟩
      · cases z
    · rintro ⟨a, o, rfl, h, ys, rfl, e2⟩
      exact ⟨a, rfl, .inr (.inr ⟨trivial, .inl ⟨trivial, ys, h, e2⟩⟩)⟩
/-! ### abstract slots -/
inductive Ab where
  | no | dat (d : PyData) | own (ds : List PyData) | src | tab (d : DO)
def Sb (A : Am) (F : Hp) : Ab → Option V → Prop
  | .no, _ => True
  | .dat d, o => ∃ v, o = some v ∧ Da F d v
  | .own _, _ => True
  | .src, o => o = some (.ref A.root)
  | .tab _, _ => True
structure En (A : Am) (F : Hp) (ρ : List Ab) (σ : St) : Prop where
  len : σ.length = ρ.length
  at_ : ∀ (i : Nat) (b : Ab), ρ[i]? = some b → ∃ o, σ[i]? = some o ∧ Sb A F b o
theorem Sb.mono {A : Am} {F F' : Hp} (h : ∀ a o, F a = some o → F' a = some o) {b : Ab} {o : Option V} (s : Sb A F b o) : Sb A F' b o := by
  cases b with
  | no => trivial
  | dat d =>
    obtain ⟨v, e, k⟩ := s
    exact ⟨v, e, Da.mono h d v k⟩
  | own ds => trivial
  | src => exact s
  | tab d => trivial
theorem En.mono {A : Am} {F F' : Hp} (h : ∀ a o, F a = some o → F' a = some o) {ρ : List Ab} {σ : St} (e : En A F ρ σ) : En A F' ρ σ :=
  ⟨e.len, fun i b hb => by
    obtain ⟨o, h1, h2⟩ := e.at_ i b hb
    exact ⟨o, h1, h2.mono h⟩⟩
theorem En.set {A : Am} {F : Hp} {ρ : List Ab} {σ : St} (e : En A F ρ σ) (i : Nat) {b : Ab} {o : Option V} (h : Sb A F b o) : En A F (ρ.set i b) (σ.set i o) :=
  ⟨by rw [List.length_set, List.length_set, e.len], fun j c hc => by
    by_cases hj : i = j
    · subst hj
      by_cases hl : i < ρ.length
      · rw [List.getElem?_set_self hl] at hc
        cases hc
        exact ⟨o, by rw [List.getElem?_set_self (by rw [e.len]; exact hl)], h⟩
      · rw [List.getElem?_eq_none (by rw [List.length_set]; omega)] at hc
        cases hc
    · rw [List.getElem?_set_ne hj] at hc ⊢
      exact e.at_ j c hc⟩
def setA : List Ab → List (Nat × PyData) → List Ab
  | ρ, [] => ρ
  | ρ, p :: l => setA (ρ.set p.1 (.dat p.2)) l
def setV : St → List Nat → List V → St
  | σ, i :: is, v :: vs => setV (σ.set i (some v)) is vs
  | σ, _, _ => σ
theorem En.sets {A : Am} {F : Hp} : ∀ {l : List (Nat × PyData)} {vs : List V} {ρ : List Ab} {σ : St}, En A F ρ σ → Das F (l.map (·.2)) vs → En A F (setA ρ l) (setV σ (l.map (·.1)) vs)
  | [], vs, ρ, σ, e, h => by
    rw [h.inv_nil]
    exact e
  | p :: l, vs, ρ, σ, e, h => by
    obtain ⟨y, ys, rfl, h1, h2⟩ := h.inv_cons
    exact En.sets (l := l) (vs := ys) (ρ := ρ.set p.1 (.dat p.2)) (σ := σ.set p.1 (some y)) (e.set p.1 (b := .dat p.2) (o := some y) ⟨y, rfl, h1⟩) h2
def wipeA (ρ : List Ab) : List Nat → List Ab
  | [] => ρ
  | v :: vs => (wipeA ρ vs).set v .no
theorem En.wipe {A : Am} {F : Hp} {ρ : List Ab} {σ : St} (e : En A F ρ σ) : ∀ vs : List Nat, En A F (wipeA ρ vs) (L2.wipe σ vs)
  | [] => e
  | v :: vs => (En.wipe e vs).set v (b := .no) (o := none) trivial

/-! ### judgements: what a reading does to data -/
def EvP (A : Am) (te : TE) (ρ : List Ab) (P : PyData → Prop) : Prop :=
  ∀ σ F H, En A F ρ σ → Pre A F H → ∀ Q : VK, (∀ v d F' H', P d → Post A F H F' H' → Da F' d v → Q v H') → te σ H Q
abbrev EvD (A : Am) (te : TE) (ρ : List Ab) (d : PyData) : Prop := EvP A te ρ (fun x => x = d)
/-- a new list that nobody else has -/
def EvN (A : Am) (te : TE) (ρ : List Ab) (P : List PyData → Prop) : Prop :=
  ∀ σ F H, En A F ρ σ → Pre A F H → ∀ Q : VK, (∀ a vs ds F' H', P ds → Post A F H F' H' → F' a = none → H a = none → H' a = some (.lst vs) → Das F' ds vs → Q (.ref a) H') → te σ H Q
abbrev EvL (A : Am) (te : TE) (ρ : List Ab) (ds : List PyData) : Prop := EvN A te ρ (fun x => x = ds)
def EvB (A : Am) (tt : TT) (ρ : List Ab) (P : Bool → Prop) : Prop :=
  ∀ σ F H, En A F ρ σ → Pre A F H → ∀ Q : Bool → Hp → Prop, (∀ b F' H', P b → Post A F H F' H' → Q b H') → tt σ H Q
abbrev EvT (A : Am) (tt : TT) (ρ : List Ab) (b : Bool) : Prop := EvB A tt ρ (fun x => x = b)
/-- arguments: data, or the source -/
def Va (A : Am) (F : Hp) : Ab → V → Prop
  | .dat d, v => Da F d v
  | .src, v => v = .ref A.root
  | _, _ => False
def Vas (A : Am) (F : Hp) : List Ab → List V → Prop
  | [], vs => vs = []
  | b :: bs, vs => ∃ y ys, vs = y :: ys ∧ Va A F b y ∧ Vas A F bs ys
theorem Va.mono {A : Am} {F F' : Hp} (h : ∀ a o, F a = some o → F' a = some o) {b : Ab} {v : V} (s : Va A F b v) : Va A F' b v := by
  cases b with
  | dat d => exact Da.mono h d v s
  | src => exact s
  | no => exact s
  | own _ => exact s
  | tab _ => exact s
theorem Vas.mono {A : Am} {F F' : Hp} (h : ∀ a o, F a = some o → F' a = some o) : ∀ {bs : List Ab} {vs : List V}, Vas A F bs vs → Vas A F' bs vs
  | [], _, e => e
  | b :: bs, vs, ⟨y, ys, e, h1, h2⟩ => ⟨y, ys, e, h1.mono h, Vas.mono h h2⟩
def EvA (A : Am) (ta : TA) (ρ : List Ab) (P : List Ab → Prop) : Prop :=
  ∀ σ F H, En A F ρ σ → Pre A F H → ∀ Q : List V → Hp → Prop, (∀ vs bs F' H', P bs → Post A F H F' H' → Vas A F' bs vs → Q vs H') → ta σ H Q
/-- operations by values -/
def R2P (A : Am) (r : R2) (x y : PyData) (P : PyData → Prop) : Prop :=
  ∀ F H v w, Pre A F H → Da F x v → Da F y w → ∀ Q : VK, (∀ z d F' H', P d → Post A F H F' H' → Da F' d z → Q z H') → r v w H Q
def R1P (A : Am) (r : V → Hp → VK → Prop) (x : PyData) (P : PyData → Prop) : Prop :=
  ∀ F H v, Pre A F H → Da F x v → ∀ Q : VK, (∀ z d F' H', P d → Post A F H F' H' → Da F' d z → Q z H') → r v H Q
def RvP (A : Am) (r : List V → Hp → VK → Prop) (bs : List Ab) (P : PyData → Prop) : Prop :=
  ∀ F H vs, Pre A F H → Vas A F bs vs → ∀ Q : VK, (∀ z d F' H', P d → Post A F H F' H' → Da F' d z → Q z H') → r vs H Q
def RvN (A : Am) (r : List V → Hp → VK → Prop) (bs : List Ab) (P : List PyData → Prop) : Prop :=
  ∀ F H vs, Pre A F H → Vas A F bs vs → ∀ Q : VK, (∀ a ws ds F' H', P ds → Post A F H F' H' → F' a = none → H a = none → H' a = some (.lst ws) → Das F' ds ws → Q (.ref a) H') → r vs H Q

section
variable {A : Am} {ρ : List Ab} {te ta tb tc : TE} {tt tu : TT} {tas : TA} {P P' P1 P2 : PyData → Prop} {B B1 B2 : Bool → Prop} {d d1 d2 x y z : PyData} {ds xs ys : List PyData} {b b1 b2 : Bool} {i j k : Int}
theorem EvP.imp (h : EvP A te ρ P) (q : ∀ d, P d → P' d) : EvP A te ρ P' := fun σ F H e p Q c => h σ F H e p Q fun v d F' H' hd => c v d F' H' (q d hd)
theorem EvB.imp (h : EvB A tt ρ B) (q : ∀ d, B d → B1 d) : EvB A tt ρ B1 := fun σ F H e p Q c => h σ F H e p Q fun v F' H' hd => c v F' H' (q v hd)
theorem EvD.to (h : EvD A te ρ d) (e : d = d1) : EvD A te ρ d1 := e ▸ h
theorem EvT.to (h : EvT A tt ρ b) (e : b = b1) : EvT A tt ρ b1 := e ▸ h
theorem EvD.imp (h : EvD A te ρ d) (q : P d) : EvP A te ρ P := EvP.imp h fun _ e => e ▸ q
theorem EvN.imp {N N' : List PyData → Prop} (h : EvN A te ρ N) (q : ∀ d, N d → N' d) : EvN A te ρ N' := fun σ F H e p Q c => h σ F H e p Q fun a vs ds F' H' hd => c a vs ds F' H' (q ds hd)
/-- a new list, given out of hand -/
theorem EvN.frz {N : List PyData → Prop} (h : EvN A te ρ N) : EvP A te ρ (fun d => ∃ ds, d = .list ds ∧ N ds) := fun σ F H e p Q c =>
  h σ F H e p Q fun a vs ds F' H' hd po f0 h0 ha hv => c (.ref a) (.list ds) (upd F' a (.lst vs)) H' ⟨ds, rfl, hd⟩ (po.frz ha h0) (da_list.mpr ⟨a, vs, rfl, upd_same, hv.mono (le_upd f0)⟩)
theorem EvL.frz (h : EvL A te ρ ds) : EvD A te ρ (.list ds) := EvP.imp (EvN.frz h) fun d ⟨es, e1, e2⟩ => by
  rw [e1, e2]

/-! ### leaves -/
theorem ev_var {n : Nat} (h : ρ[n]? = some (.dat d)) : EvD A (tVar n) ρ d := fun σ F H e p Q c => by
  obtain ⟨o, h1, v, rfl, hv⟩ := e.at_ n _ h
  exact ⟨v, h1, c v d F H rfl p.refl hv⟩
theorem ev_int : EvD A (tC (.int i)) ρ (.int i) := fun σ F H e p Q c => c _ _ F H rfl p.refl (da_int.mpr rfl)
theorem ev_bl : EvD A (tC (.bl b)) ρ (.bool b) := fun σ F H e p Q c => c _ _ F H rfl p.refl (da_bool.mpr rfl)
theorem ev_str {s : Str} : EvD A (tC (.str s)) ρ (.str s) := fun σ F H e p Q c => c _ _ F H rfl p.refl (da_str.mpr rfl)
theorem ev_non : EvD A (tC .non) ρ .none := fun σ F H e p Q c => c _ _ F H rfl p.refl (da_none.mpr rfl)

/-! ### combinators -/
theorem evp_op {r : R2} (ha : EvP A ta ρ P1) (hb : ∀ x, P1 x → EvP A tb ρ P2) (hr : ∀ x y, P1 x → P2 y → R2P A r x y P) : EvP A (tOp r ta tb) ρ P := fun σ F H e p Q c =>
  ha σ F H e p _ fun v x F1 H1 hx po1 dv => hb x hx σ F1 H1 (e.mono po1.ff) (p.next po1) _ fun w y F2 H2 hy po2 dw =>
    hr x y hx hy F2 H2 v w ((p.next po1).next po2) (Da.mono po2.ff _ _ dv) dw Q fun z d F3 H3 hd po3 dz => c z d F3 H3 hd ((po1.trans p.am po2).trans p.am po3) dz
theorem ev_op {r : R2} (ha : EvD A ta ρ x) (hb : EvD A tb ρ y) (hr : R2P A r x y (fun w => w = z)) : EvD A (tOp r ta tb) ρ z :=
  evp_op ha (fun _ _ => hb) fun _ _ e1 e2 => by rw [e1, e2]; exact hr
theorem evp_un {r : V → Hp → VK → Prop} (ha : EvP A ta ρ P1) (hr : ∀ x, P1 x → R1P A r x P) : EvP A (tUn r ta) ρ P := fun σ F H e p Q c =>
  ha σ F H e p _ fun v x F1 H1 hx po1 dv => hr x hx F1 H1 v (p.next po1) dv Q fun z d F3 H3 hd po3 dz => c z d F3 H3 hd (po1.trans p.am po3) dz
theorem ev_un {r : V → Hp → VK → Prop} (ha : EvD A ta ρ x) (hr : R1P A r x (fun w => w = z)) : EvD A (tUn r ta) ρ z :=
  evp_un ha fun _ e1 => by rw [e1]; exact hr
/-- a value known at once by itself -/
theorem r2_val {r : R2} (h : ∀ F H v w, Pre A F H → Da F x v → Da F y w → ∃ u, Da F z u ∧ ∀ Q : VK, Q u H → r v w H Q) : R2P A r x y (fun w => w = z) := fun F H v w p hv hw Q c => by
  obtain ⟨u, hu, k⟩ := h F H v w p hv hw
  exact k Q (c u z F H rfl p.refl hu)
theorem r2_I0 {g : Int → Int → Int} : R2P A (rI0 fun i j => .int (g i j)) (.int i) (.int j) (fun w => w = .int (g i j)) := r2_val fun F H v w p hv hw =>
  ⟨.int (g i j), da_int.mpr rfl, fun Q q => ⟨i, j, da_int.mp hv, da_int.mp hw, q⟩⟩
theorem r2_B0 {g : Int → Int → Bool} : R2P A (rI0 fun i j => .bl (g i j)) (.int i) (.int j) (fun w => w = .bool (g i j)) := r2_val fun F H v w p hv hw =>
  ⟨.bl (g i j), da_bool.mpr rfl, fun Q q => ⟨i, j, da_int.mp hv, da_int.mp hw, q⟩⟩
theorem r2_I {C : Int → Int → Prop} {g : Int → Int → Int} (hc : C i j) : R2P A (rI C fun i j => .int (g i j)) (.int i) (.int j) (fun w => w = .int (g i j)) := r2_val fun F H v w p hv hw =>
  ⟨.int (g i j), da_int.mpr rfl, fun Q q => ⟨i, j, da_int.mp hv, da_int.mp hw, hc, q⟩⟩
theorem ev_add (ha : EvD A ta ρ (.int i)) (hb : EvD A tb ρ (.int j)) : EvD A (tOp (rI0 fun i j => .int (i + j)) ta tb) ρ (.int (i + j)) := ev_op ha hb r2_I0
theorem ev_sub (ha : EvD A ta ρ (.int i)) (hb : EvD A tb ρ (.int j)) : EvD A (tOp (rI0 fun i j => .int (i - j)) ta tb) ρ (.int (i - j)) := ev_op ha hb r2_I0
theorem ev_mul (ha : EvD A ta ρ (.int i)) (hb : EvD A tb ρ (.int j)) (h : CMulW i j) : EvD A (tOp (rI CMulW fun i j => .int (i * j)) ta tb) ρ (.int (i * j)) := ev_op ha hb (r2_I h)
theorem ev_fdiv (ha : EvD A ta ρ (.int i)) (hb : EvD A tb ρ (.int j)) (h : CDivW i j) : EvD A (tOp (rI CDivW fun i j => .int (i / j)) ta tb) ρ (.int (i / j)) := ev_op ha hb (r2_I h)
theorem ev_mod (ha : EvD A ta ρ (.int i)) (hb : EvD A tb ρ (.int j)) (h : 0 < j) : EvD A (tOp (rI (fun _ j => 0 < j) fun i j => .int (i % j)) ta tb) ρ (.int (i % j)) := ev_op ha hb (r2_I (C := fun _ j => 0 < j) h)
theorem ev_pow (ha : EvD A ta ρ (.int i)) (hb : EvD A tb ρ (.int j)) (h : CPow i j) : EvD A (tOp (rI CPow fun i j => .int (i ^ j.toNat)) ta tb) ρ (.int (i ^ j.toNat)) := ev_op ha hb (r2_I h)
theorem ev_lt (ha : EvD A ta ρ (.int i)) (hb : EvD A tb ρ (.int j)) : EvD A (tOp (rI0 fun i j => .bl (decide (i < j))) ta tb) ρ (.bool (decide (i < j))) := ev_op ha hb r2_B0
theorem ev_le (ha : EvD A ta ρ (.int i)) (hb : EvD A tb ρ (.int j)) : EvD A (tOp (rI0 fun i j => .bl (decide (i ≤ j))) ta tb) ρ (.bool (decide (i ≤ j))) := ev_op ha hb r2_B0
theorem ev_gt (ha : EvD A ta ρ (.int i)) (hb : EvD A tb ρ (.int j)) : EvD A (tOp (rI0 fun i j => .bl (decide (j < i))) ta tb) ρ (.bool (decide (j < i))) := ev_op ha hb r2_B0
theorem ev_ge (ha : EvD A ta ρ (.int i)) (hb : EvD A tb ρ (.int j)) : EvD A (tOp (rI0 fun i j => .bl (decide (j ≤ i))) ta tb) ρ (.bool (decide (j ≤ i))) := ev_op ha hb r2_B0
theorem r1_neg : R1P A (rU fun i => .int (-i)) (.int i) (fun w => w = .int (-i)) := fun F H v p hv Q c => ⟨i, da_int.mp hv, c _ _ F H rfl p.refl (da_int.mpr rfl)⟩
theorem ev_neg (ha : EvD A ta ρ (.int i)) : EvD A (tUn (rU fun i => .int (-i)) ta) ρ (.int (-i)) := ev_un ha r1_neg
/-- == and != of data -/
theorem r2_eq {K : PySem.W.Frag} (nx : noD x = true) (ny : noD y = true) (sx : SeqAt.shaped x = true) (sy : SeqAt.shaped y = true) : R2P A (rEqD K) x y (fun w => w = .bool (PyData.eqv x y)) := r2_val fun F H v w p hv hw =>
  ⟨.bl (PyData.eqv x y), da_bool.mpr rfl, fun Q q => ⟨x, y, Da.dp p.fh x v nx hv, Da.dp p.fh y w ny hw, sx, sy, q⟩⟩
theorem r2_ne {K : PySem.W.Frag} (nx : noD x = true) (ny : noD y = true) (sx : SeqAt.shaped x = true) (sy : SeqAt.shaped y = true) : R2P A (rNeD K) x y (fun w => w = .bool (!PyData.eqv x y)) := r2_val fun F H v w p hv hw =>
  ⟨.bl (!PyData.eqv x y), da_bool.mpr rfl, fun Q q => ⟨x, y, Da.dp p.fh x v nx hv, Da.dp p.fh y w ny hw, sx, sy, q⟩⟩
/-- scalars -/
theorem r2_eqS {v w : V} (hx : ∀ F u, Da F x u → u = v) (hy : ∀ F u, Da F y u → u = w) (hs : scal v w = true) : R2P A rEq x y (fun u => u = .bool (decide (v = w))) := r2_val fun F H a c p ha hc => by
  rw [hx F a ha, hy F c hc]
  exact ⟨.bl (decide (v = w)), da_bool.mpr rfl, fun Q q => ⟨hs, q⟩⟩
theorem r2_neS {v w : V} (hx : ∀ F u, Da F x u → u = v) (hy : ∀ F u, Da F y u → u = w) (hs : scal v w = true) : R2P A rNe x y (fun u => u = .bool (!decide (v = w))) := r2_val fun F H a c p ha hc => by
  rw [hx F a ha, hy F c hc]
  exact ⟨.bl (!decide (v = w)), da_bool.mpr rfl, fun Q q => ⟨hs, q⟩⟩
theorem ev_eqI (ha : EvD A ta ρ (.int i)) (hb : EvD A tb ρ (.int j)) : EvD A (tOp rEq ta tb) ρ (.bool (decide (i = j))) :=
  (ev_op ha hb (r2_eqS (v := .int i) (w := .int j) (fun _ _ => da_int.mp) (fun _ _ => da_int.mp) rfl)).to (by simp)
theorem ev_neI (ha : EvD A ta ρ (.int i)) (hb : EvD A tb ρ (.int j)) : EvD A (tOp rNe ta tb) ρ (.bool (!decide (i = j))) :=
  (ev_op ha hb (r2_neS (v := .int i) (w := .int j) (fun _ _ => da_int.mp) (fun _ _ => da_int.mp) rfl)).to (by simp)
theorem ev_neStr {s t : Str} (ha : EvD A ta ρ (.str s)) (hb : EvD A tb ρ (.str t)) : EvD A (tOp rNe ta tb) ρ (.bool (!decide (s = t))) :=
  (ev_op ha hb (r2_neS (v := .str s) (w := .str t) (fun _ _ => da_str.mp) (fun _ _ => da_str.mp) rfl)).to (by simp)
theorem ev_eqStr {s t : Str} (ha : EvD A ta ρ (.str s)) (hb : EvD A tb ρ (.str t)) : EvD A (tOp rEq ta tb) ρ (.bool (decide (s = t))) :=
  (ev_op ha hb (r2_eqS (v := .str s) (w := .str t) (fun _ _ => da_str.mp) (fun _ _ => da_str.mp) rfl)).to (by simp)
/-- is None -/
def isNo : PyData → Bool
  | .none => true
  | _ => false
theorem da_isNo {F : Hp} {d : PyData} {v : V} (h : Da F d v) : decide (v = .non) = isNo d := by
  cases d with
  | none => rw [da_none.mp h]; rfl
  | bool b => rw [da_bool.mp h]; rfl
  | int i => rw [da_int.mp h]; rfl
  | str s => rw [da_str.mp h]; rfl
  | list ds => obtain ⟨a, xs, rfl, _⟩ := da_list.mp h; rfl
  | tuple ds => obtain ⟨a, xs, rfl, _⟩ := da_tup.mp h; rfl
  | dict ks =>
    simp only [Da] at h
    obtain ⟨a, rfl, _⟩ := h
    rfl
theorem ev_isN (ha : EvD A ta ρ x) : EvD A (tIsN ta) ρ (.bool (isNo x)) := fun σ F H e p Q c => ha σ F H e p _ fun v d F1 H1 hd po dv => by
  subst hd
  show Q (.bl (decide (v = .non))) H1
  rw [da_isNo dv]
  exact c _ _ F1 H1 rfl po (da_bool.mpr rfl)
theorem ev_notN (ha : EvD A ta ρ x) : EvD A (tNotN ta) ρ (.bool (!isNo x)) := fun σ F H e p Q c => ha σ F H e p _ fun v d F1 H1 hd po dv => by
  subst hd
  show Q (.bl (!decide (v = .non))) H1
  rw [da_isNo dv]
  exact c _ _ F1 H1 rfl po (da_bool.mpr rfl)

/-! ### tests -/
theorem et_test (h : EvD A te ρ (.bool b)) : EvT A (tTest te) ρ b := fun σ F H e p Q c => h σ F H e p _ fun v d F' H' hd po dv => by
  subst hd
  exact ⟨b, da_bool.mp dv, c b F' H' rfl po⟩
theorem et_B (h : EvD A te ρ (.bool b)) : EvT A (tB te) ρ b := fun σ F H e p Q c => h σ F H e p _ fun v d F' H' hd po dv => by
  subst hd
  exact ⟨b, da_bool.mp dv, c b F' H' rfl po⟩
theorem etp_B {B : Bool → Prop} (h : EvP A te ρ (fun d => ∃ b, d = .bool b ∧ B b)) : EvB A (tB te) ρ B := fun σ F H e p Q c => h σ F H e p _ fun v d F' H' hd po dv => by
  obtain ⟨b, rfl, hb⟩ := hd
  exact ⟨b, da_bool.mp dv, c b F' H' hb po⟩
theorem etp_test {B : Bool → Prop} (h : EvP A te ρ (fun d => ∃ b, d = .bool b ∧ B b)) : EvB A (tTest te) ρ B := fun σ F H e p Q c => h σ F H e p _ fun v d F' H' hd po dv => by
  obtain ⟨b, rfl, hb⟩ := hd
  exact ⟨b, da_bool.mp dv, c b F' H' hb po⟩
theorem et_and (h1 : EvT A tt ρ b1) (h2 : b1 = true → EvT A tu ρ b2) : EvT A (tAnd tt tu) ρ (b1 && b2) := fun σ F H e p Q c => h1 σ F H e p _ fun v F' H' hb po => by
  subst hb
  cases v with
  | true => exact h2 rfl σ F' H' (e.mono po.ff) (p.next po) Q fun v F2 H2 hb po2 => c v F2 H2 hb (po.trans p.am po2)
  | false => exact c _ F' H' rfl po
theorem et_or (h1 : EvT A tt ρ b1) (h2 : b1 = false → EvT A tu ρ b2) : EvT A (tOr tt tu) ρ (b1 || b2) := fun σ F H e p Q c => h1 σ F H e p _ fun v F' H' hb po => by
  subst hb
  cases v with
  | true => exact c _ F' H' rfl po
  | false => exact h2 rfl σ F' H' (e.mono po.ff) (p.next po) Q fun v F2 H2 hb po2 => c v F2 H2 hb (po.trans p.am po2)
theorem et_not (h1 : EvT A tt ρ b1) : EvT A (tNot tt) ρ (!b1) := fun σ F H e p Q c => h1 σ F H e p _ fun v F' H' hb po => by
  subst hb
  exact c _ F' H' rfl po
theorem et_yes : EvT A tYes ρ true := fun σ F H e p Q c => c true F H rfl p.refl
theorem ev_andV (h1 : EvD A ta ρ (.bool b1)) (h2 : b1 = true → EvD A tb ρ (.bool b2)) : EvD A (tAndV ta tb) ρ (.bool (b1 && b2)) := fun σ F H e p Q c => h1 σ F H e p _ fun v d F' H' hb po dv => by
  subst hb
  refine ⟨b1, da_bool.mp dv, ?_⟩
  cases b1 with
  | true => exact h2 rfl σ F' H' (e.mono po.ff) (p.next po) Q fun v d F2 H2 hb po2 dv => c v d F2 H2 hb (po.trans p.am po2) dv
  | false => exact c _ _ F' H' rfl po (da_bool.mpr rfl)
theorem ev_orV (h1 : EvD A ta ρ (.bool b1)) (h2 : b1 = false → EvD A tb ρ (.bool b2)) : EvD A (tOrV ta tb) ρ (.bool (b1 || b2)) := fun σ F H e p Q c => h1 σ F H e p _ fun v d F' H' hb po dv => by
  subst hb
  refine ⟨b1, da_bool.mp dv, ?_⟩
  cases b1 with
  | true => exact c _ _ F' H' rfl po (da_bool.mpr rfl)
  | false => exact h2 rfl σ F' H' (e.mono po.ff) (p.next po) Q fun v d F2 H2 hb po2 dv => c v d F2 H2 hb (po.trans p.am po2) dv
theorem ev_notV (h1 : EvD A ta ρ (.bool b1)) : EvD A (tNotV ta) ρ (.bool (!b1)) := fun σ F H e p Q c => h1 σ F H e p _ fun v d F' H' hb po dv => by
  subst hb
  exact ⟨b1, da_bool.mp dv, c _ _ F' H' rfl po (da_bool.mpr rfl)⟩
theorem evp_if (h : EvB A tt ρ B) (h1 : B true → EvP A ta ρ P) (h2 : B false → EvP A tb ρ P) : EvP A (tIf tt ta tb) ρ P := fun σ F H e p Q c => h σ F H e p _ fun v F' H' hb po => by
  cases v with
  | true => exact h1 hb σ F' H' (e.mono po.ff) (p.next po) Q fun v d F2 H2 hd po2 dv => c v d F2 H2 hd (po.trans p.am po2) dv
  | false => exact h2 hb σ F' H' (e.mono po.ff) (p.next po) Q fun v d F2 H2 hd po2 dv => c v d F2 H2 hd (po.trans p.am po2) dv
theorem ev_if (h : EvT A tt ρ b) (h1 : b = true → EvD A ta ρ x) (h2 : b = false → EvD A tb ρ y) : EvD A (tIf tt ta tb) ρ (if b = true then x else y) :=
  evp_if h (fun e => by subst e; exact h1 rfl) (fun e => by subst e; exact h2 rfl)

/-! ### arguments, displays -/
theorem vas_nil {F : Hp} : Vas A F [] [] := rfl
theorem vas_cons {F : Hp} {b : Ab} {bs : List Ab} {v : V} {vs : List V} (h : Va A F b v) (t : Vas A F bs vs) : Vas A F (b :: bs) (v :: vs) := ⟨v, vs, rfl, h, t⟩
theorem ea_nil : EvA A tNil ρ (fun bs => bs = []) := fun σ F H e p Q c => c [] [] F H rfl p.refl rfl
theorem eap_cons {N N1 : List Ab → Prop} (h : EvP A te ρ P1) (hr : ∀ x, P1 x → EvA A tas ρ N1) (hn : ∀ x bs, P1 x → N1 bs → N (.dat x :: bs)) : EvA A (tCons te tas) ρ N := fun σ F H e p Q c =>
  h σ F H e p _ fun v x F1 H1 hx po1 dv => hr x hx σ F1 H1 (e.mono po1.ff) (p.next po1) _ fun ws bs F2 H2 hb po2 hw =>
    c (v :: ws) (.dat x :: bs) F2 H2 (hn x bs hx hb) (po1.trans p.am po2) ⟨v, ws, rfl, Da.mono po2.ff _ _ dv, hw⟩
theorem ea_cons {bs : List Ab} (h : EvD A te ρ x) (hr : EvA A tas ρ (fun w => w = bs)) : EvA A (tCons te tas) ρ (fun w => w = .dat x :: bs) :=
  eap_cons h (fun _ _ => hr) fun _ _ e1 e2 => by rw [e1, e2]
theorem ea_src {N N1 : List Ab → Prop} {n : Nat} (h : ρ[n]? = some .src) (hr : EvA A tas ρ N1) (hn : ∀ bs, N1 bs → N (.src :: bs)) : EvA A (tCons (tVar n) tas) ρ N := fun σ F H e p Q c => by
  obtain ⟨o, h1, h2⟩ := e.at_ n _ h
  have h2 : o = some (.ref A.root) := h2
  subst h2
  exact ⟨_, h1, hr σ F H e p _ fun ws bs F2 H2 hb po2 hw => c _ _ F2 H2 (hn bs hb) po2 ⟨_, ws, rfl, rfl, hw⟩⟩
theorem vas_das {F : Hp} : ∀ {ds : List PyData} {vs : List V}, Vas A F (ds.map Ab.dat) vs → Das F ds vs
  | [], vs, h => by
    have : vs = [] := h
    rw [this]
    exact .nil
  | d :: ds, vs, ⟨y, ys, e, h1, h2⟩ => by
    subst e
    exact .cons h1 (vas_das h2)
theorem vas1 {F : Hp} {vs : List V} (h : Vas A F [.dat d] vs) : ∃ v, vs = [v] ∧ Da F d v := by
  obtain ⟨y, ys, rfl, h1, h2⟩ := h
  have : ys = [] := h2
  subst this
  exact ⟨y, rfl, h1⟩
theorem vas2 {F : Hp} {vs : List V} (h : Vas A F [.dat d, .dat d1] vs) : ∃ v w, vs = [v, w] ∧ Da F d v ∧ Da F d1 w := by
  obtain ⟨y, ys, rfl, h1, h2⟩ := h
  obtain ⟨w, rfl, h3⟩ := vas1 h2
  exact ⟨y, w, rfl, h1, h3⟩
/-- the arguments as data -/
def Dats (N : List PyData → Prop) (bs : List Ab) : Prop := ∃ ds, bs = ds.map Ab.dat ∧ N ds
theorem evp_tup {N : List PyData → Prop} (h : EvA A tas ρ (Dats N)) (hl : ∀ ds, N ds → ds.length ≤ sizeLine) : EvP A (tTup tas) ρ (fun d => ∃ ds, d = .tuple ds ∧ N ds) := fun σ F H e p Q c =>
  h σ F H e p _ fun vs bs F1 H1 hb po hv => by
    obtain ⟨ds, rfl, hn⟩ := hb
    have hv := vas_das hv
    refine ⟨by rw [hv.len]; exact hl ds hn, fun q hq => ?_⟩
    have p1 := p.next po
    have fq : F1 q = none := by
      cases e : F1 q with
      | none => rfl
      | some o => rw [p1.fh _ _ e] at hq; cases hq
    exact c (.ref q) (.tuple ds) (upd F1 q (.tup vs)) (upd H1 q (.tup vs)) ⟨ds, rfl, hn⟩ (po.trans p.am (Post.new p1 hq)) (da_tup.mpr ⟨q, vs, rfl, upd_same, hv.mono (le_upd fq)⟩)
theorem evn_lst {N : List PyData → Prop} (h : EvA A tas ρ (Dats N)) (hl : ∀ ds, N ds → ds.length ≤ sizeLine) : EvN A (tLst tas) ρ N := fun σ F H e p Q c =>
  h σ F H e p _ fun vs bs F1 H1 hb po hv => by
    obtain ⟨ds, rfl, hn⟩ := hb
    have hv := vas_das hv
    refine ⟨by rw [hv.len]; exact hl ds hn, fun q hq => ?_⟩
    have p1 := p.next po
    have fq : F1 q = none := by
      cases e : F1 q with
      | none => rfl
      | some o => rw [p1.fh _ _ e] at hq; cases hq
    exact c q vs ds F1 (upd H1 q (.lst vs)) hn (po.trans p.am (Post.new0 p1 hq)) fq (none_back p.am po.le po.am hq) upd_same hv
theorem dats_eq {ds : List PyData} {bs : List Ab} (h : bs = ds.map Ab.dat) : Dats (fun w => w = ds) bs := ⟨ds, h, rfl⟩
theorem ev_tup (h : EvA A tas ρ (fun bs => bs = ds.map Ab.dat)) (hl : ds.length ≤ sizeLine) : EvD A (tTup tas) ρ (.tuple ds) :=
  EvP.imp (evp_tup (N := fun w => w = ds) (fun σ F H e p Q c => h σ F H e p Q fun vs bs F' H' hb => c vs bs F' H' (dats_eq hb)) fun _ e => e ▸ hl) fun d ⟨es, e1, e2⟩ => by rw [e1, e2]
theorem ev_lst (h : EvA A tas ρ (fun bs => bs = ds.map Ab.dat)) (hl : ds.length ≤ sizeLine) : EvL A (tLst tas) ρ ds :=
  evn_lst (fun σ F H e p Q c => h σ F H e p Q fun vs bs F' H' hb => c vs bs F' H' (dats_eq hb)) fun _ e => e ▸ hl

/-! ### calls -/
theorem evp_cb {r : List V → Hp → VK → Prop} {N : List Ab → Prop} (h : EvA A tas ρ N) (hr : ∀ bs, N bs → RvP A r bs P) : EvP A (tCB r tas) ρ P := fun σ F H e p Q c =>
  h σ F H e p _ fun vs bs F1 H1 hb po hv => hr bs hb F1 H1 vs (p.next po) hv Q fun z d F2 H2 hd po2 dz => c z d F2 H2 hd (po.trans p.am po2) dz
theorem ev_cb {r : List V → Hp → VK → Prop} {bs : List Ab} (h : EvA A tas ρ (fun w => w = bs)) (hr : RvP A r bs (fun w => w = z)) : EvD A (tCB r tas) ρ z :=
  evp_cb h fun _ e => by rw [e]; exact hr
theorem evn_cb {r : List V → Hp → VK → Prop} {N : List Ab → Prop} {M : List PyData → Prop} (h : EvA A tas ρ N) (hr : ∀ bs, N bs → RvN A r bs M) : EvN A (tCB r tas) ρ M := fun σ F H e p Q c =>
  h σ F H e p _ fun vs bs F1 H1 hb po hv => hr bs hb F1 H1 vs (p.next po) hv Q fun a ws ds F2 H2 hd po2 f0 h0 ha hw => c a ws ds F2 H2 hd (po.trans p.am po2) f0 (none_back p.am po.le po.am h0) ha hw
end
end Pu

/-! What is walked; comprehensions; statements; defs. -/
namespace Pu
open PySem L2

/-! ### targets -/
def TgP (g : TG) (d : PyData) (l : List (Nat × PyData)) : Prop :=
  ∀ F H v, Da F d v → (∀ a o, F a = some o → H a = some o) → ∃ vs, Das F (l.map (·.2)) vs ∧ ∀ σ (Q : St → Hp → Prop), Q (setV σ (l.map (·.1)) vs) H → g v σ H Q
def TgsP (g : TGs) (ds : List PyData) (l : List (Nat × PyData)) : Prop :=
  ∀ F H us, Das F ds us → (∀ a o, F a = some o → H a = some o) → ∃ vs, Das F (l.map (·.2)) vs ∧ ∀ σ (Q : St → Hp → Prop), Q (setV σ (l.map (·.1)) vs) H → g us σ H Q
theorem tg_name {i : Nat} {d : PyData} : TgP (gName i) d [(i, d)] := fun F H v h _ => ⟨[v], .cons h .nil, fun σ Q q => q⟩
theorem tgs_nil : TgsP gNil [] [] := fun F H us h _ => ⟨[], .nil, fun σ Q q => ⟨h.inv_nil, q⟩⟩
theorem setV_app : ∀ (is : List Nat) (vs : List V) (js : List Nat) (ws : List V) (σ : St), is.length = vs.length → setV (setV σ is vs) js ws = setV σ (is ++ js) (vs ++ ws)
  | [], [], js, ws, σ, _ => rfl
  | i :: is, v :: vs, js, ws, σ, h => setV_app is vs js ws (σ.set i (some v)) (Nat.succ.inj h)
theorem tgs_cons {t : TG} {u : TGs} {d : PyData} {ds : List PyData} {l m : List (Nat × PyData)} (h1 : TgP t d l) (h2 : TgsP u ds m) : TgsP (gCons t u) (d :: ds) (l ++ m) := fun F H us h hF => by
  obtain ⟨y, ys, rfl, hy, hs⟩ := h.inv_cons
  obtain ⟨vs, k1, k2⟩ := h1 F H y hy hF
  obtain ⟨ws, k3, k4⟩ := h2 F H ys hs hF
  refine ⟨vs ++ ws, by rw [List.map_append]; exact k1.append k3, fun σ Q q => ⟨y, ys, rfl, k2 _ _ (k4 _ _ ?_)⟩⟩
  rw [setV_app _ _ _ _ _ (by rw [k1.len, List.length_map, List.length_map]), ← List.map_append]
  exact q
theorem tg_tup {K : PySem.W.Frag} {n : Nat} {t : TGs} {ds : List PyData} {l : List (Nat × PyData)} (hn : ds.length = n) (h : TgsP t ds l) : TgP (gTup K n t) (.tuple ds) l := fun F H v hv hF => by
  obtain ⟨a, xs, rfl, ha, hx⟩ := da_tup.mp hv
  obtain ⟨vs, k1, k2⟩ := h F H xs hx hF
  exact ⟨vs, k1, fun σ Q q => ⟨a, xs, rfl, SqT.of (hF _ _ ha), by rw [hx.len, hn], k2 σ Q q⟩⟩

/-! ### what is walked -/
structure ItD (J : It) (F : Hp) (ds : List PyData) : Prop where
  go : ∀ (i : Nat) (F' H : Hp), (∀ a o, F a = some o → F' a = some o) → (∀ a o, F' a = some o → H a = some o) → i < ds.length → J.go i H
  yld : ∀ (i : Nat) (F' H : Hp) (x : V) (H' : Hp) (d : PyData), (∀ a o, F a = some o → F' a = some o) → (∀ a o, F' a = some o → H a = some o) → J.yld i H x H' → ds[i]? = some d →
    ∃ F'', (∀ a o, H a = some o → H' a = some o) ∧ (∀ a o, F' a = some o → F'' a = some o) ∧ (∀ a o, F'' a = some o → H' a = some o) ∧ (∀ a o, F'' a = some o → F' a = some o ∨ H a = none) ∧ Da F'' d x
  stop : ∀ (F' H : Hp), (∀ a o, F a = some o → F' a = some o) → (∀ a o, F' a = some o → H a = some o) → J.stop ds.length H
def EvI (A : Am) (wi : TI) (ρ : List Ab) (N : List PyData → Prop) : Prop :=
  ∀ σ F H, En A F ρ σ → Pre A F H → ∀ R : It → Hp → Prop, (∀ J ds F' H', N ds → Post A F H F' H' → ItD J F' ds → R J H') → wi σ H R
theorem itd_list {K : PySem.W.Frag} {F : Hp} {a : Addr} {xs : List V} {ds : List PyData} (h : F a = some (.lst xs)) (hd : Das F ds xs) : ItD (Itl K a) F ds where
  go := fun i F' H h1 h2 hi => by
    have hx : i < xs.length := by rw [hd.len]; exact hi
    exact ⟨xs, xs[i], SqL.of (h2 _ _ (h1 _ _ h)), List.getElem?_eq_getElem hx⟩
  yld := fun i F' H x H' d h1 h2 hy hdi => by
    obtain ⟨e, hy⟩ := hy
    subst e
    obtain ⟨v, hv, dv⟩ := hd.get hdi
    have e2 := hy xs (SqL.of (h2 _ _ (h1 _ _ h)))
    rw [hv] at e2
    cases e2
    exact ⟨F', fun _ _ h => h, fun _ _ h => h, h2, fun _ _ h => .inl h, Da.mono h1 _ _ dv⟩
  stop := fun F' H h1 h2 => ⟨xs, SqL.of (h2 _ _ (h1 _ _ h)), by rw [hd.len]; exact Nat.le_refl _⟩
theorem itd_tup {K : PySem.W.Frag} {F : Hp} {a : Addr} {xs : List V} {ds : List PyData} (h : F a = some (.tup xs)) (hd : Das F ds xs) : ItD (Itt K a) F ds where
  go := fun i F' H h1 h2 hi => by
    have hx : i < xs.length := by rw [hd.len]; exact hi
    exact ⟨xs, xs[i], SqT.of (h2 _ _ (h1 _ _ h)), List.getElem?_eq_getElem hx⟩
  yld := fun i F' H x H' d h1 h2 hy hdi => by
    obtain ⟨e, hy⟩ := hy
    subst e
    obtain ⟨v, hv, dv⟩ := hd.get hdi
    have e2 := hy xs (SqT.of (h2 _ _ (h1 _ _ h)))
    rw [hv] at e2
    cases e2
    exact ⟨F', fun _ _ h => h, fun _ _ h => h, h2, fun _ _ h => .inl h, Da.mono h1 _ _ dv⟩
  stop := fun F' H h1 h2 => ⟨xs, SqT.of (h2 _ _ (h1 _ _ h)), by rw [hd.len]; exact Nat.le_refl _⟩
/-- the ints lo, lo + 1, .. -/
def rngD (lo : Int) (n : Nat) : List PyData := (List.range n).map fun i => .int (lo + (i : Nat))
theorem itd_rng {F : Hp} {lo : Int} {n : Nat} : ItD (Itr lo n) F (rngD lo n) where
  go := fun i F' H h1 h2 hi => by
    have hi' : i < n := by simpa [rngD] using hi
    exact hi'
  yld := fun i F' H x H' d h1 h2 hy hdi => by
    obtain ⟨e, e2⟩ := hy
    subst e e2
    refine ⟨F', fun _ _ h => h, fun _ _ h => h, h2, fun _ _ h => .inl h, ?_⟩
    unfold rngD at hdi
    rw [List.getElem?_map] at hdi
    have hi : i < n := by
      cases e : (List.range n)[i]? with
      | none => rw [e] at hdi; cases hdi
      | some j =>
        have := (List.getElem?_eq_some_iff.mp e).1
        simpa using this
    rw [List.getElem?_range hi] at hdi
    cases hdi
    exact da_int.mpr rfl
  stop := fun F' H h1 h2 => by
    show n ≤ (rngD lo n).length
    unfold rngD
    rw [List.length_map, List.length_range]
    exact Nat.le_refl n
/-- a list or a tuple -/
def iSeq (K : PySem.W.Frag) (tl : TE) : TI := fun σ H R => tl σ H fun x H1 => ∃ a, x = .ref a ∧ (((∃ xs, SqL K H1 a xs) ∧ R (Itl K a) H1) ∨ ((∃ xs, SqT K H1 a xs) ∧ R (Itt K a) H1))
theorem pi_seq {X : Cx} {tg l : Expr} {tl : TE} (hl : PE X l tl) : PI X tg l (iSeq X.K tl) := by
  refine ⟨fun pins s σ H R I h => ?_⟩
  refine thn (hl.run pins s σ H _ I h) fun v s1 ⟨x, H1, I1, r1, q1⟩ => ?_
  obtain ⟨a, e, q⟩ := q1
  subst e
  cases r1
  rcases q with ⟨⟨xs, hq⟩, q⟩ | ⟨⟨xs, hq⟩, q⟩
  · obtain ⟨its, rv, p, hz⟩ := I1.list hq
    refine wpAny_pyIter_list p.isList ⟨s1.heap.objs.size, [s1.heap.objs.size], _, _, H1, rfl, I1.kept (t' := s1.toks) fun b o e => Heap.get?_push_of_some _ e, turn_list a _, ⟨_, Heap.get?_push_size _ rfl, rfl, rfl⟩, ?_, q⟩
    intro b hb
    have e : b = s1.heap.objs.size := by simpa using hb
    subst e
    exact I1.fpOk (Nat.le_refl _) (I1.hok.fresh (Nat.le_refl _))
  · obtain ⟨its, rv, p, hz⟩ := I1.tuple hq
    refine wpAny_pyIter_tuple (show s1.heap.IsTuple a its.toArray from p) ⟨s1.heap.objs.size, [s1.heap.objs.size], _, _, H1, rfl, I1.kept (t' := s1.toks) fun b o e => Heap.get?_push_of_some _ e, turn_tuple a _, ⟨_, Heap.get?_push_size _ rfl, rfl, rfl⟩, ?_, q⟩
    intro b hb
    have e : b = s1.heap.objs.size := by simpa using hb
    subst e
    exact I1.fpOk (Nat.le_refl _) (I1.hok.fresh (Nat.le_refl _))
section
variable {A : Am} {ρ : List Ab} {te ta tb tc : TE} {tt tu : TT} {tas : TA} {P P' P1 P2 : PyData → Prop} {B B1 B2 : Bool → Prop} {d d1 d2 x y z : PyData} {ds xs ys : List PyData} {b b1 b2 : Bool} {i j k : Int} {K : PySem.W.Frag}
theorem eip_seq {N : List PyData → Prop} (h : EvP A te ρ (fun d => ∃ ds, (d = .list ds ∨ d = .tuple ds) ∧ N ds)) : EvI A (iSeq K te) ρ N := fun σ F H e p R c => h σ F H e p _ fun v d F1 H1 hd po dv => by
  obtain ⟨ds, rfl | rfl, hn⟩ := hd
  · obtain ⟨a, xs, rfl, ha, hx⟩ := da_list.mp dv
    exact ⟨a, rfl, .inl ⟨⟨xs, SqL.of (po.fh _ _ ha)⟩, c _ ds F1 H1 hn po (itd_list ha hx)⟩⟩
  · obtain ⟨a, xs, rfl, ha, hx⟩ := da_tup.mp dv
    exact ⟨a, rfl, .inr ⟨⟨xs, SqT.of (po.fh _ _ ha)⟩, c _ ds F1 H1 hn po (itd_tup ha hx)⟩⟩
theorem ei_lst (h : EvD A te ρ (.list ds)) : EvI A (iSeq K te) ρ (fun w => w = ds) := eip_seq (EvP.imp h fun d e => ⟨ds, .inl e, rfl⟩)
theorem ei_tup (h : EvD A te ρ (.tuple ds)) : EvI A (iSeq K te) ρ (fun w => w = ds) := eip_seq (EvP.imp h fun d e => ⟨ds, .inr e, rfl⟩)
theorem ei_rng1 (h : EvA A tas ρ (fun bs => bs = [.dat (.int j)])) (h1 : -(2 ^ 62) ≤ j) (h2 : j < 2 ^ 62) : EvI A (iRng1 tas) ρ (fun w => w = rngD 0 j.toNat) := fun σ F H e p R c => h σ F H e p _ fun vs bs F1 H1 hb po hv => by
  subst hb
  obtain ⟨v, rfl, hv'⟩ := vas1 hv
  rw [da_int.mp hv']
  exact ⟨j, rfl, h1, h2, c _ _ F1 H1 rfl po itd_rng⟩
theorem eip_rng1 {N : Int → Prop} (h : EvA A tas ρ (fun bs => ∃ j, bs = [.dat (.int j)] ∧ N j)) (hN : ∀ j, N j → -(2 ^ 62) ≤ j ∧ j < 2 ^ 62) : EvI A (iRng1 tas) ρ (fun w => ∃ j : Int, N j ∧ w = rngD 0 j.toNat) := fun σ F H e p R c => h σ F H e p _ fun vs bs F1 H1 hb po hv => by
  obtain ⟨j, hb, hj⟩ := hb
  subst hb
  obtain ⟨v, rfl, hv'⟩ := vas1 hv
  rw [da_int.mp hv']
  exact ⟨j, rfl, (hN j hj).1, (hN j hj).2, c _ _ F1 H1 ⟨j, hj, rfl⟩ po itd_rng⟩
theorem ei_rng2 (h : EvA A tas ρ (fun bs => bs = [.dat (.int i), .dat (.int j)])) (h1 : -(2 ^ 62) ≤ i ∧ i < 2 ^ 62 ∧ -(2 ^ 62) ≤ j ∧ j < 2 ^ 62) : EvI A (iRng2 tas) ρ (fun w => w = rngD i (j - i).toNat) := fun σ F H e p R c => h σ F H e p _ fun vs bs F1 H1 hb po hv => by
  subst hb
  obtain ⟨v, w, rfl, hv', hw⟩ := vas2 hv
  rw [da_int.mp hv', da_int.mp hw]
  exact ⟨i, j, rfl, h1, c _ _ F1 H1 rfl po itd_rng⟩

/-! ### comprehensions -/
theorem wipe_set (σ : St) (i : Nat) (o : Option V) : ∀ vs : List Nat, i ∈ vs → L2.wipe (σ.set i o) vs = L2.wipe σ vs
  | [], h => by simp at h
  | v :: vs, h => by
    show (L2.wipe (σ.set i o) vs).set v none = (L2.wipe σ vs).set v none
    by_cases hv : i ∈ vs
    · rw [wipe_set σ i o vs hv]
    · have e : i = v := by
        rcases List.mem_cons.mp h with h | h
        · exact h
        · exact absurd h hv
      subst e
      have key : ∀ ws : List Nat, i ∉ ws → L2.wipe (σ.set i o) ws = (L2.wipe σ ws).set i o := by
        intro ws
        induction ws with
        | nil => intro _; rfl
        | cons w ws ih =>
          intro hw
          show (L2.wipe (σ.set i o) ws).set w none = ((L2.wipe σ ws).set w none).set i o
          rw [ih (fun z => hw (List.mem_cons_of_mem _ z)), List.set_comm]
          exact fun z => hw (by rw [z]; exact List.mem_cons_self)
      rw [key vs hv, List.set_set]
theorem wipe_sets : ∀ (is : List Nat) (ws : List V) (σ : St) (vs : List Nat), (∀ i ∈ is, i ∈ vs) → L2.wipe (setV σ is ws) vs = L2.wipe σ vs
  | [], _, σ, vs, _ => by cases ‹List V› <;> rfl
  | i :: is, [], σ, vs, _ => rfl
  | i :: is, w :: ws, σ, vs, h => by
    show L2.wipe (setV (σ.set i (some w)) is ws) vs = L2.wipe σ vs
    rw [wipe_sets is ws _ vs (fun j hj => h j (List.mem_cons_of_mem _ hj)), wipe_set σ i _ vs (h i List.mem_cons_self)]
theorem wipe_wipe (σ : St) : ∀ vs : List Nat, L2.wipe (L2.wipe σ vs) vs = L2.wipe σ vs := by
  have key : ∀ us vs : List Nat, (∀ v ∈ us, v ∈ vs) → L2.wipe (L2.wipe σ us) vs = L2.wipe σ vs := by
    intro us
    induction us with
    | nil => intro vs _; rfl
    | cons u us ih =>
      intro vs h
      show L2.wipe ((L2.wipe σ us).set u none) vs = L2.wipe σ vs
      rw [wipe_set _ u none vs (h u List.mem_cons_self)]
      exact ih vs fun v hv => h v (List.mem_cons_of_mem _ hv)
  exact fun vs => key vs vs fun _ h => h

/-- what the turns have made -/
inductive Made (E : Nat → PyData → Option PyData → Prop) : List PyData → List PyData → Prop
  | nil : Made E [] []
  | skip {d : PyData} {ds es : List PyData} : Made E ds es → E ds.length d none → Made E (ds ++ [d]) es
  | more {d e : PyData} {ds es : List PyData} : Made E ds es → E ds.length d (some e) → Made E (ds ++ [d]) (es ++ [e])
theorem Made.len {E : Nat → PyData → Option PyData → Prop} {ds es : List PyData} (h : Made E ds es) : es.length ≤ ds.length := by
  induction h with
  | nil => exact Nat.le_refl _
  | skip _ _ ih => rw [List.length_append]; exact Nat.le_trans ih (Nat.le_add_right _ _)
  | more _ _ ih =>
    rw [List.length_append, List.length_append]
    exact Nat.add_le_add_right ih _
/-- THE RULE for a list comprehension -/
theorem evn_lc {wi : TI} {g : TG} {vs : List Nat} {N : List PyData → Prop} {E : Nat → PyData → Option PyData → Prop} {M : List PyData → Prop} (hi : EvI A wi ρ N)
    (he : ∀ (ds : List PyData) (k : Nat) (d : PyData), N ds → ds[k]? = some d → ∃ l : List (Nat × PyData), TgP g d l ∧ (∀ q ∈ l, q.1 ∈ vs) ∧ ∃ Bt : Bool → Prop, EvB A tt (setA (wipeA ρ vs) l) Bt ∧ (Bt false → E k d none) ∧ (Bt true → ∃ P : PyData → Prop, EvP A te (setA (wipeA ρ vs) l) P ∧ ∀ x, P x → E k d (some x)))
    (hz : ∀ ds, N ds → ds.length < sizeLine) (hM : ∀ ds es, N ds → Made E ds es → M es) : EvN A (tLc wi g tt te vs) ρ M := fun σ F H e p Q c => hi σ F H e p _ fun J ds F1 H1 hN po1 it => by
  intro D hD
  have p1 := p.next po1
  have fD : F1 D = none := by
    cases q : F1 D with
    | none => rfl
    | some o => rw [p1.fh _ _ q] at hD; cases hD
  have nD : ¬ A.dom D := fun z => A.tr _ _ p1.am z hD
  have hz' := hz ds hN
  refine ⟨fun i m H2 => m = ds.length - i ∧ i ≤ ds.length ∧ ∃ F2 acc es, Post A F1 H1 F2 H2 ∧ H2 D = some (.lst acc) ∧ F2 D = none ∧ Das F2 es acc ∧ Made E (ds.take i) es, ⟨ds.length, by simp, Nat.zero_le _, F1, [], [], Post.new0 p1 hD, upd_same, fD, .nil, by rw [List.take_zero]; exact .nil⟩, ?_⟩
  rintro i m H2 ⟨rfl, hi, F2, acc, es, po2, hacc, f2, hes, made⟩
  have p2 := p1.next po2
  by_cases hlt : i < ds.length
  · refine .inr ⟨it.go i F2 H2 po2.ff po2.fh hlt, fun H' => i + 1 ≤ ds.length ∧ ∃ F2 acc es, Post A F1 H1 F2 H' ∧ H' D = some (.lst acc) ∧ F2 D = none ∧ Das F2 es acc ∧ Made E (ds.take (i + 1)) es, fun H' h => ⟨ds.length - (i + 1), by omega, rfl, h⟩, fun x H' hy => ?_⟩
    have hdi : ds[i]? = some ds[i] := List.getElem?_eq_getElem hlt
    obtain ⟨F3, k1, k2, k3, k4, dx⟩ := it.yld i F2 H2 x H' _ po2.ff po2.fh hy hdi
    have po3 : Post A F2 H2 F3 H' := ⟨fun a o h _ => k1 a o h, k2, k3, k4, A.loc _ _ (fun a o _ h => k1 a o h) p2.am⟩
    have p3 := p2.next po3
    obtain ⟨l, hg, hl, Bt, hB, hB0, hB1⟩ := he ds i ds[i] hN hdi
    obtain ⟨ws, dws, kg⟩ := hg F3 H' x dx po3.fh
    refine kg _ _ ⟨by rw [wipe_sets _ _ _ _ (fun j hj => by obtain ⟨q, hq, rfl⟩ := List.mem_map.mp hj; exact hl q hq), wipe_wipe], ?_⟩
    have e3 : En A F3 (setA (wipeA ρ vs) l) (setV (L2.wipe σ vs) (l.map (·.1)) ws) := En.sets ((e.mono (fun a o h => po3.ff _ _ (po2.ff _ _ (po1.ff _ _ h)))).wipe vs) dws
    refine hB _ F3 H' e3 p3 _ fun b F4 H4 hb po4 => ?_
    have p4 := p3.next po4
    have tk : ds.take (i + 1) = ds.take i ++ [ds[i]] := by rw [List.take_add_one, hdi]; rfl
    have tl : (ds.take i).length = i := by rw [List.length_take]; omega
    have stayD : ∀ {Fa Ha Fb Hb : Hp} {ac : List V}, Pre A Fa Ha → Post A Fa Ha Fb Hb → Ha D = some (.lst ac) → Fa D = none → Hb D = some (.lst ac) ∧ Fb D = none := fun {Fa Ha Fb Hb ac} pa po ha fa => by
      refine ⟨po.le _ _ ha nD, ?_⟩
      cases q : Fb D with
      | none => rfl
      | some o =>
        rcases po.fr _ _ q with z | z
        · rw [fa] at z; cases z
        · rw [ha] at z; cases z
    obtain ⟨h3D, f3D⟩ := stayD p2 po3 hacc f2
    obtain ⟨h4D, f4D⟩ := stayD p3 po4 h3D f3D
    have po14 : Post A F1 H1 F4 H4 := (po2.trans p1.am po3).trans p1.am po4
    cases b with
    | false =>
      refine ⟨hlt, F4, acc, es, po14, h4D, f4D, hes.mono (fun a o h => po4.ff _ _ (po3.ff _ _ h)), ?_⟩
      rw [tk]
      exact .skip made (by rw [tl]; exact hB0 hb)
    | true =>
      obtain ⟨Pv, hv, hE⟩ := hB1 hb
      refine hv _ F4 H4 (e3.mono po4.ff) p4 _ fun y dy F5 H5 hdy po5 day => ?_
      obtain ⟨h5D, f5D⟩ := stayD p4 po5 h4D f4D
      have hle : es.length ≤ i := by
        have := made.len
        rw [List.length_take] at this
        omega
      have hlen : acc.length < sizeLine := by
        rw [hes.len]
        omega
      refine ⟨acc, h5D, hlen, hlt, F5, acc ++ [y], es ++ [dy], ?_, upd_same, f5D, (hes.mono (fun a o h => po5.ff _ _ (po4.ff _ _ (po3.ff _ _ h)))).snoc day, ?_⟩
      · have po15 := po14.trans p1.am po5
        exact ⟨fun a o h n => by rw [upd_ne (ne_of_none h hD)]; exact po15.le a o h n, po15.ff, fun a o h => by
            by_cases ha : a = D
            · subst ha; rw [f5D] at h; cases h
            · rw [upd_ne ha]; exact po15.fh a o h, po15.fr, A.loc H5 _ (fun a o hd ho => by
            by_cases ha : a = D
            · subst ha; exact absurd hd nD
            · rw [upd_ne ha]; exact ho) po15.am⟩
      · rw [tk]
        exact .more made (by rw [tl]; exact hE dy hdy)
  · have ei : i = ds.length := by omega
    subst ei
    refine .inl ⟨it.stop F2 H2 po2.ff po2.fh, ?_⟩
    rw [List.take_length] at made
    exact c D acc es F2 H2 (hM ds es hN made) (po1.trans p.am po2) f2 (none_back p.am po1.le po1.am hD) hacc hes
theorem made_fm {α : Type} {E : Nat → PyData → Option PyData → Prop} {as : List α} {f : α → Option PyData} (hf : ∀ (k : Nat) d o (a : α), as[k]? = some a → E k d o → o = f a) {ds es : List PyData} (h : Made E ds es) (hl : ds.length ≤ as.length) : es = (as.take ds.length).filterMap f := by
  induction h with
  | nil => rfl
  | @skip d ds es _ he ih =>
    rw [List.length_append, List.length_singleton] at hl ⊢
    have hk : as[ds.length]? = some as[ds.length] := List.getElem?_eq_getElem (by omega)
    have e := hf _ d none _ hk he
    rw [ih (by omega), List.take_add_one, hk, List.filterMap_append]
    show _ = _ ++ List.filterMap f [as[ds.length]]
    rw [List.filterMap_cons, ← e]
    simp
  | @more d e ds es _ he ih =>
    rw [List.length_append, List.length_singleton] at hl ⊢
    have hk : as[ds.length]? = some as[ds.length] := List.getElem?_eq_getElem (by omega)
    have e' := hf _ d (some e) _ hk he
    rw [ih (by omega), List.take_add_one, hk, List.filterMap_append]
    show _ = _ ++ List.filterMap f [as[ds.length]]
    rw [List.filterMap_cons, ← e']
    simp
theorem fm_ite {α β : Type} (p : α → Bool) (f : α → β) : ∀ as : List α, as.filterMap (fun a => if p a = true then some (f a) else none) = (as.filter p).map f
  | [] => rfl
  | a :: as => by
    rw [List.filterMap_cons, List.filter_cons]
    cases h : p a with
    | true => simp [fm_ite p f as]
    | false => simp [fm_ite p f as]
/-- all told: each turn's answer is known -/
theorem ev_lc {α : Type} {wi : TI} {g : TG} {vs : List Nat} {as : List α} {en : α → PyData} {l : α → List (Nat × PyData)} {p : α → Bool} {f : α → PyData} (hi : EvI A wi ρ (fun w => w = as.map en)) (hg : ∀ a ∈ as, TgP g (en a) (l a)) (hl : ∀ a ∈ as, ∀ q ∈ l a, q.1 ∈ vs)
    (ht : ∀ a ∈ as, EvT A tt (setA (wipeA ρ vs) (l a)) (p a)) (hv : ∀ a ∈ as, p a = true → EvD A te (setA (wipeA ρ vs) (l a)) (f a)) (hz : as.length < sizeLine) : EvL A (tLc wi g tt te vs) ρ ((as.filter p).map f) := by
  refine evn_lc (E := fun k d o => ∃ a, as[k]? = some a ∧ o = if p a = true then some (f a) else none) (N := fun w => w = as.map en) hi (fun ds k d hN hd => ?_) (fun ds hN => by subst hN; rw [List.length_map]; exact hz) ?_
  · subst hN
    rw [List.getElem?_map] at hd
    cases hk : as[k]? with
    | none => rw [hk] at hd; cases hd
    | some a =>
      rw [hk] at hd
      cases hd
      have ha := List.mem_of_getElem? hk
      exact ⟨l a, hg a ha, hl a ha, fun b => b = p a, ht a ha, fun e => ⟨a, rfl, by rw [← e]; simp⟩, fun e => ⟨fun w => w = f a, hv a ha e.symm, fun x hx => ⟨a, rfl, by rw [← e, hx]; simp⟩⟩⟩
  · intro ds es hN hm
    subst hN
    have := made_fm (as := as) (f := fun a => if p a = true then some (f a) else none) (fun k d o a ha ⟨a', h1, h2⟩ => by rw [ha] at h1; cases h1; exact h2) hm (by rw [List.length_map]; exact Nat.le_refl _)
    rw [List.length_map, List.take_length, fm_ite] at this
    exact this
/-- no test -/
theorem ev_lc1 {α : Type} {wi : TI} {g : TG} {vs : List Nat} {as : List α} {en : α → PyData} {l : α → List (Nat × PyData)} {f : α → PyData} (hi : EvI A wi ρ (fun w => w = as.map en)) (hg : ∀ a ∈ as, TgP g (en a) (l a)) (hl : ∀ a ∈ as, ∀ q ∈ l a, q.1 ∈ vs)
    (hv : ∀ a ∈ as, EvD A te (setA (wipeA ρ vs) (l a)) (f a)) (hz : as.length < sizeLine) : EvL A (tLc wi g tYes te vs) ρ (as.map f) := by
  have h := ev_lc (tt := tYes) (p := fun _ => true) (f := f) hi hg hl (fun a _ => et_yes) (fun a ha _ => hv a ha) hz
  rw [List.filter_eq_self.mpr (fun _ _ => rfl)] at h
  exact h
end
end Pu

/-! Statements, loops, defs over data. -/
namespace Pu
open PySem L2

structure Ok (A : Am) (G F0 H0 : Hp) (ρ : List Ab) (σ : St) (F H : Hp) : Prop where
  gf : ∀ a x, G a = some x → F a = some x
  en : En A F ρ σ
  pre0 : Pre A F0 H0
  post : Post A F0 H0 F H
  ow : ∀ (i : Nat) (ds : List PyData), ρ[i]? = some (.own ds) → ∃ a vs, σ[i]? = some (some (.ref a)) ∧ H a = some (.lst vs) ∧ F a = none ∧ H0 a = none ∧ Das F ds vs
  oj : ∀ (i j : Nat) (ds es : List PyData) (a : Addr), ρ[i]? = some (.own ds) → ρ[j]? = some (.own es) → σ[i]? = some (some (.ref a)) → σ[j]? = some (some (.ref a)) → i = j
  tw : ∀ (i : Nat) (d : DO), ρ[i]? = some (.tab d) → ∃ a u, σ[i]? = some (some (.ref a)) ∧ H a = some u ∧ F a = none ∧ H0 a = none ∧ DaO F d u
  tj : ∀ (i j : Nat) (d e : DO) (a : Addr), ρ[i]? = some (.tab d) → ρ[j]? = some (.tab e) → σ[i]? = some (some (.ref a)) → σ[j]? = some (some (.ref a)) → i = j
def fz : Ab → Ab
  | .own ds => .dat (.list ds)
  | .tab d => .dat d.dat
  | b => b
section
variable {A : Am} {G F0 H0 F H F' H' : Hp} {ρ : List Ab} {σ : St} {d : PyData} {ds : List PyData} {v : V} {i : Nat}
theorem Ok.pre (o : Ok A G F0 H0 ρ σ F H) : Pre A F H := o.pre0.next o.post
theorem Ok.step (o : Ok A G F0 H0 ρ σ F H) (q : Post A F H F' H') : Ok A G F0 H0 ρ σ F' H' where
  gf := fun a x h => q.ff _ _ (o.gf a x h)
  en := o.en.mono q.ff
  pre0 := o.pre0
  post := o.post.trans o.pre0.am q
  ow := fun j es h => by
    obtain ⟨a, vs, h1, h2, h3, h4, h5⟩ := o.ow j es h
    have nd : ¬ A.dom a := fun z => A.tr _ _ o.pre0.am z h4
    refine ⟨a, vs, h1, q.le _ _ h2 nd, ?_, h4, h5.mono q.ff⟩
    cases e : F' a with
    | none => rfl
    | some x =>
      rcases q.fr _ _ e with z | z
      · rw [h3] at z; cases z
      · rw [h2] at z; cases z
  oj := o.oj
  tw := fun j d h => by
    obtain ⟨a, u, h1, h2, h3, h4, h5⟩ := o.tw j d h
    have nd : ¬ A.dom a := fun z => A.tr _ _ o.pre0.am z h4
    refine ⟨a, u, h1, q.le _ _ h2 nd, ?_, h4, h5.mono q.ff⟩
    cases e : F' a with
    | none => rfl
    | some x =>
      rcases q.fr _ _ e with z | z
      · rw [h3] at z; cases z
      · rw [h2] at z; cases z
  tj := o.tj
theorem set_tab {ρ : List Ab} {b : Ab} {i j : Nat} {d : DO} (hb : ∀ e, b ≠ .tab e) (h : (ρ.set i b)[j]? = some (.tab d)) : j ≠ i ∧ ρ[j]? = some (.tab d) := by
  by_cases hj : i = j
  · subst hj
    by_cases hl : i < ρ.length
    · rw [List.getElem?_set_self hl] at h
      cases h
      exact absurd rfl (hb d)
    · rw [List.getElem?_eq_none (by rw [List.length_set]; omega)] at h
      cases h
  · rw [List.getElem?_set_ne hj] at h
    exact ⟨fun z => hj z.symm, h⟩
theorem set_own {ρ : List Ab} {b : Ab} {i j : Nat} {ds : List PyData} (hb : ∀ es, b ≠ .own es) (h : (ρ.set i b)[j]? = some (.own ds)) : j ≠ i ∧ ρ[j]? = some (.own ds) := by
  by_cases hj : i = j
  · subst hj
    by_cases hl : i < ρ.length
    · rw [List.getElem?_set_self hl] at h
      cases h
      exact absurd rfl (hb ds)
    · rw [List.getElem?_eq_none (by rw [List.length_set]; omega)] at h
      cases h
  · rw [List.getElem?_set_ne hj] at h
    exact ⟨fun z => hj z.symm, h⟩
theorem Ok.setB (o : Ok A G F0 H0 ρ σ F H) (i : Nat) {b : Ab} {x : Option V} (hb : ∀ es, b ≠ .own es) (h : Sb A F b x) (hb2 : ∀ d, b ≠ .tab d := by intro _ z; nomatch z) : Ok A G F0 H0 (ρ.set i b) (σ.set i x) F H where
  gf := o.gf
  en := o.en.set i h
  pre0 := o.pre0
  post := o.post
  ow := fun j es hj => by
    obtain ⟨n, hj⟩ := set_own hb hj
    rw [List.getElem?_set_ne (fun z => n z.symm)]
    exact o.ow j es hj
  oj := fun j k es fs a hj hk h1 h2 => by
    obtain ⟨n, hj⟩ := set_own hb hj
    obtain ⟨m, hk⟩ := set_own hb hk
    rw [List.getElem?_set_ne (fun z => n z.symm)] at h1
    rw [List.getElem?_set_ne (fun z => m z.symm)] at h2
    exact o.oj j k es fs a hj hk h1 h2
  tw := fun j d hj => by
    obtain ⟨n, hj⟩ := set_tab hb2 hj
    rw [List.getElem?_set_ne (fun z => n z.symm)]
    exact o.tw j d hj
  tj := fun j k d e a hj hk h1 h2 => by
    obtain ⟨n, hj⟩ := set_tab hb2 hj
    obtain ⟨m, hk⟩ := set_tab hb2 hk
    rw [List.getElem?_set_ne (fun z => n z.symm)] at h1
    rw [List.getElem?_set_ne (fun z => m z.symm)] at h2
    exact o.tj j k d e a hj hk h1 h2
theorem Ok.weak {G' : Hp} (o : Ok A G F0 H0 ρ σ F H) (h : ∀ a x, G' a = some x → G a = some x) : Ok A G' F0 H0 ρ σ F H :=
  ⟨fun a x k => o.gf _ _ (h _ _ k), o.en, o.pre0, o.post, o.ow, o.oj, o.tw, o.tj⟩
theorem Ok.now (o : Ok A G F0 H0 ρ σ F H) : Ok A F F0 H0 ρ σ F H := ⟨fun _ _ k => k, o.en, o.pre0, o.post, o.ow, o.oj, o.tw, o.tj⟩
theorem Ok.setD (o : Ok A G F0 H0 ρ σ F H) (i : Nat) (h : Da F d v) : Ok A G F0 H0 (ρ.set i (.dat d)) (σ.set i (some v)) F H :=
  o.setB i (fun _ z => nomatch z) ⟨v, rfl, h⟩
theorem Ok.sets : ∀ {l : List (Nat × PyData)} {vs : List V} {ρ : List Ab} {σ : St}, Ok A G F0 H0 ρ σ F H → Das F (l.map (·.2)) vs → Ok A G F0 H0 (setA ρ l) (setV σ (l.map (·.1)) vs) F H
  | [], vs, ρ, σ, e, h => by
    rw [h.inv_nil]
    exact e
  | p :: l, vs, ρ, σ, e, h => by
    obtain ⟨y, ys, rfl, h1, h2⟩ := h.inv_cons
    exact Ok.sets (l := l) (vs := ys) (ρ := ρ.set p.1 (.dat p.2)) (σ := σ.set p.1 (some y)) (e.setD p.1 h1) h2
theorem set_some {α : Type} {l : List α} {i j : Nat} {b c : α} (h : (l.set i b)[j]? = some c) : (j = i ∧ c = b) ∨ (j ≠ i ∧ l[j]? = some c) := by
  by_cases hj : i = j
  · subst hj
    by_cases hl : i < l.length
    · rw [List.getElem?_set_self hl] at h
      cases h
      exact .inl ⟨rfl, rfl⟩
    · rw [List.getElem?_eq_none (by rw [List.length_set]; omega)] at h
      cases h
  · rw [List.getElem?_set_ne hj] at h
    exact .inr ⟨fun z => hj z.symm, h⟩
/-- a list of the def's own comes to stand in a slot -/
theorem Ok.setN (o : Ok A G F0 H0 ρ σ F H) (i : Nat) {a : Addr} {vs : List V} (hi : i < ρ.length) (h1 : H a = some (.lst vs)) (h2 : F a = none) (h3 : H0 a = none) (h4 : Das F ds vs)
    (h5 : ∀ (j : Nat) (es : List PyData), j ≠ i → ρ[j]? = some (.own es) → σ[j]? ≠ some (some (.ref a))) : Ok A G F0 H0 (ρ.set i (.own ds)) (σ.set i (some (.ref a))) F H where
  gf := o.gf
  en := o.en.set i (b := .own ds) trivial
  pre0 := o.pre0
  post := o.post
  ow := fun j es hj => by
    rcases set_some hj with ⟨rfl, e⟩ | ⟨n, hj⟩
    · cases e
      exact ⟨a, vs, by rw [List.getElem?_set_self (by rw [o.en.len]; exact hi)], h1, h2, h3, h4⟩
    · rw [List.getElem?_set_ne (fun z => n z.symm)]
      exact o.ow j es hj
  oj := fun j k es fs b hj hk e1 e2 => by
    have hi' : i < σ.length := by rw [o.en.len]; exact hi
    rcases set_some hj with ⟨e0, e⟩ | ⟨n, hj2⟩
    · rcases set_some hk with ⟨e1', e'⟩ | ⟨m, hk2⟩
      · rw [e0, e1']
      · rw [e0, List.getElem?_set_self hi'] at e1
        cases e1
        rw [List.getElem?_set_ne (fun z => m z.symm)] at e2
        exact absurd e2 (h5 k fs m hk2)
    · rcases set_some hk with ⟨e0, e'⟩ | ⟨m, hk2⟩
      · rw [e0, List.getElem?_set_self hi'] at e2
        cases e2
        rw [List.getElem?_set_ne (fun z => n z.symm)] at e1
        exact absurd e1 (h5 j es n hj2)
      · rw [List.getElem?_set_ne (fun z => n z.symm)] at e1
        rw [List.getElem?_set_ne (fun z => m z.symm)] at e2
        exact o.oj j k es fs b hj2 hk2 e1 e2
  tw := fun j d hj => by
    obtain ⟨n, hj⟩ := set_tab (by intro _ z; cases z) hj
    rw [List.getElem?_set_ne (fun z => n z.symm)]
    exact o.tw j d hj
  tj := fun j k d e b hj hk e1 e2 => by
    obtain ⟨n, hj⟩ := set_tab (by intro _ z; cases z) hj
    obtain ⟨m, hk⟩ := set_tab (by intro _ z; cases z) hk
    rw [List.getElem?_set_ne (fun z => n z.symm)] at e1
    rw [List.getElem?_set_ne (fun z => m z.symm)] at e2
    exact o.tj j k d e b hj hk e1 e2
/-- a dict of the def's own comes to stand in a slot -/
theorem Ok.setT (o : Ok A G F0 H0 ρ σ F H) (i : Nat) {a : Addr} {u : HO} {d : DO} (hi : i < ρ.length) (h1 : H a = some u) (h2 : F a = none) (h3 : H0 a = none) (h4 : DaO F d u)
    (h5 : ∀ (j : Nat) (e : DO), j ≠ i → ρ[j]? = some (.tab e) → σ[j]? ≠ some (some (.ref a))) : Ok A G F0 H0 (ρ.set i (.tab d)) (σ.set i (some (.ref a))) F H where
  gf := o.gf
  en := o.en.set i (b := .tab d) trivial
  pre0 := o.pre0
  post := o.post
  tw := fun j e hj => by
    rcases set_some hj with ⟨rfl, z⟩ | ⟨n, hj⟩
    · cases z
      exact ⟨a, u, by rw [List.getElem?_set_self (by rw [o.en.len]; exact hi)], h1, h2, h3, h4⟩
    · rw [List.getElem?_set_ne (fun z => n z.symm)]
      exact o.tw j e hj
  tj := fun j k e f b hj hk e1 e2 => by
    have hi' : i < σ.length := by rw [o.en.len]; exact hi
    rcases set_some hj with ⟨e0, e⟩ | ⟨n, hj2⟩
    · rcases set_some hk with ⟨e1', e'⟩ | ⟨m, hk2⟩
      · rw [e0, e1']
      · rw [e0, List.getElem?_set_self hi'] at e1
        cases e1
        rw [List.getElem?_set_ne (fun z => m z.symm)] at e2
        exact absurd e2 (h5 k _ m hk2)
    · rcases set_some hk with ⟨e0, e'⟩ | ⟨m, hk2⟩
      · rw [e0, List.getElem?_set_self hi'] at e2
        cases e2
        rw [List.getElem?_set_ne (fun z => n z.symm)] at e1
        exact absurd e1 (h5 j _ n hj2)
      · rw [List.getElem?_set_ne (fun z => n z.symm)] at e1
        rw [List.getElem?_set_ne (fun z => m z.symm)] at e2
        exact o.tj j k _ _ b hj2 hk2 e1 e2
  ow := fun j es hj => by
    obtain ⟨n, hj⟩ := set_own (by intro _ z; cases z) hj
    rw [List.getElem?_set_ne (fun z => n z.symm)]
    exact o.ow j es hj
  oj := fun j k es fs b hj hk e1 e2 => by
    obtain ⟨n, hj⟩ := set_own (by intro _ z; cases z) hj
    obtain ⟨m, hk⟩ := set_own (by intro _ z; cases z) hk
    rw [List.getElem?_set_ne (fun z => n z.symm)] at e1
    rw [List.getElem?_set_ne (fun z => m z.symm)] at e2
    exact o.oj j k es fs b hj hk e1 e2
/-- one's own dict is changed -/
theorem Ok.chT (o : Ok A G F0 H0 ρ σ F H) {i : Nat} {a : Addr} {d e : DO} {w : HO} (hi : ρ[i]? = some (.tab d)) (hs : σ[i]? = some (some (.ref a))) (hF : F a = none) (h0 : H0 a = none) (hd : DaO F e w) : Ok A G F0 H0 (ρ.set i (.tab e)) σ F (upd H a w) where
  gf := o.gf
  en := by
    have e := o.en.set i (b := .tab e) (o := some (.ref a)) trivial
    rw [show σ.set i (some (.ref a)) = σ from by
      apply List.ext_getElem?
      intro j
      by_cases hj : i = j
      · subst hj
        have hl := (List.getElem?_eq_some_iff.mp hs).1
        rw [List.getElem?_set_self hl, hs]
      · rw [List.getElem?_set_ne hj]] at e
    exact e
  pre0 := o.pre0
  post := by
    have nd : ¬ A.dom a := fun z => A.tr _ _ o.pre0.am z h0
    have q := o.post
    exact ⟨fun b x h n => by rw [upd_ne (ne_of_none h h0)]; exact q.le b x h n, q.ff, fun b x h => by
      by_cases hb : b = a
      · subst hb; rw [hF] at h; cases h
      · rw [upd_ne hb]; exact q.fh b x h, q.fr, A.loc H _ (fun b x hd hx => by
      by_cases hb : b = a
      · subst hb; exact absurd hd nd
      · rw [upd_ne hb]; exact hx) q.am⟩
  tw := fun j f hj => by
    rcases set_some hj with ⟨rfl, z⟩ | ⟨n, hj⟩
    · cases z
      exact ⟨a, w, hs, upd_same, hF, h0, hd⟩
    · obtain ⟨b, us, k1, k2, k3, k4, k5⟩ := o.tw j f hj
      have hb : b ≠ a := fun z => by
        subst z
        exact n (o.tj j i f d b hj hi k1 hs)
      exact ⟨b, us, k1, by rw [upd_ne hb]; exact k2, k3, k4, k5⟩
  tj := fun j k f g b hj hk e1 e2 => by
    have get : ∀ (m : Nat) (g : DO), (ρ.set i (.tab e))[m]? = some (.tab g) → ∃ g', ρ[m]? = some (.tab g') := fun m g h => by
      rcases set_some h with ⟨rfl, _⟩ | ⟨_, h⟩
      · exact ⟨d, hi⟩
      · exact ⟨g, h⟩
    obtain ⟨x, hx⟩ := get j f hj
    obtain ⟨y, hy⟩ := get k g hk
    exact o.tj j k x y b hx hy e1 e2
  ow := fun j fs hj => by
    obtain ⟨n, hj⟩ := set_own (by intro _ z; cases z) hj
    obtain ⟨b, us, k1, k2, k3, k4, k5⟩ := o.ow j fs hj
    obtain ⟨a', u, q1, q2, q3, q4, q5⟩ := o.tw i d hi
    rw [hs] at q1
    cases q1
    have hb : b ≠ a := fun z => by
      subst z
      rw [k2] at q2
      exact q5.nl us (Option.some.inj q2).symm
    exact ⟨b, us, k1, by rw [upd_ne hb]; exact k2, k3, k4, k5⟩
  oj := fun j k es fs b hj hk e1 e2 => by
    obtain ⟨n, hj⟩ := set_own (by intro _ z; cases z) hj
    obtain ⟨m, hk⟩ := set_own (by intro _ z; cases z) hk
    exact o.oj j k es fs b hj hk e1 e2
/-- one's own list is changed -/
theorem Ok.chg (o : Ok A G F0 H0 ρ σ F H) {i : Nat} {a : Addr} {ds es : List PyData} {vs ws : List V} (hi : ρ[i]? = some (.own ds)) (hs : σ[i]? = some (some (.ref a))) (hF : F a = none) (h0 : H0 a = none) (hd : Das F es ws) : Ok A G F0 H0 (ρ.set i (.own es)) σ F (upd H a (.lst ws)) where
  gf := o.gf
  en := by
    have e := o.en.set i (b := .own es) (o := some (.ref a)) trivial
    rw [show σ.set i (some (.ref a)) = σ from by
      apply List.ext_getElem?
      intro j
      by_cases hj : i = j
      · subst hj
        have hl := (List.getElem?_eq_some_iff.mp hs).1
        rw [List.getElem?_set_self hl, hs]
      · rw [List.getElem?_set_ne hj]] at e
    exact e
  pre0 := o.pre0
  post := by
    have nd : ¬ A.dom a := fun z => A.tr _ _ o.pre0.am z h0
    have q := o.post
    exact ⟨fun b x h n => by rw [upd_ne (ne_of_none h h0)]; exact q.le b x h n, q.ff, fun b x h => by
      by_cases hb : b = a
      · subst hb; rw [hF] at h; cases h
      · rw [upd_ne hb]; exact q.fh b x h, q.fr, A.loc H _ (fun b x hd hx => by
      by_cases hb : b = a
      · subst hb; exact absurd hd nd
      · rw [upd_ne hb]; exact hx) q.am⟩
  ow := fun j fs hj => by
    rcases set_some hj with ⟨rfl, e⟩ | ⟨n, hj⟩
    · cases e
      exact ⟨a, ws, hs, upd_same, hF, h0, hd⟩
    · obtain ⟨b, us, k1, k2, k3, k4, k5⟩ := o.ow j fs hj
      have hb : b ≠ a := fun z => by
        subst z
        exact n (o.oj j i fs ds b hj hi k1 hs)
      exact ⟨b, us, k1, by rw [upd_ne hb]; exact k2, k3, k4, k5⟩
  oj := fun j k es' fs b hj hk e1 e2 => by
    have get : ∀ (m : Nat) (gs : List PyData), (ρ.set i (.own es))[m]? = some (.own gs) → ∃ gs', ρ[m]? = some (.own gs') := fun m gs h => by
      rcases set_some h with ⟨rfl, _⟩ | ⟨_, h⟩
      · exact ⟨ds, hi⟩
      · exact ⟨gs, h⟩
    obtain ⟨x, hx⟩ := get j es' hj
    obtain ⟨y, hy⟩ := get k fs hk
    exact o.oj j k x y b hx hy e1 e2
  tw := fun j d hj => by
    obtain ⟨n, hj⟩ := set_tab (by intro _ z; cases z) hj
    obtain ⟨b, u, k1, k2, k3, k4, k5⟩ := o.tw j d hj
    obtain ⟨a', us, q1, q2, _⟩ := o.ow i ds hi
    rw [hs] at q1
    cases q1
    have hb : b ≠ a := fun z => by
      subst z
      rw [k2] at q2
      exact k5.nl us (Option.some.inj q2)
    exact ⟨b, u, k1, by rw [upd_ne hb]; exact k2, k3, k4, k5⟩
  tj := fun j k d e b hj hk e1 e2 => by
    obtain ⟨n, hj⟩ := set_tab (by intro _ z; cases z) hj
    obtain ⟨m, hk⟩ := set_tab (by intro _ z; cases z) hk
    exact o.tj j k d e b hj hk e1 e2
def IsOw (b : Ab) : Prop := (∃ ds, b = .own ds) ∨ ∃ d, b = .tab d
open Classical in
/-- all one's own lists and dicts as they stand -/
noncomputable def frzF (ρ : List Ab) (σ : St) (F H : Hp) : Hp := fun b => if ∃ (i : Nat) (c : Ab), ρ[i]? = some c ∧ IsOw c ∧ σ[i]? = some (some (.ref b)) then H b else F b
theorem Ok.frz_le (o : Ok A G F0 H0 ρ σ F H) : ∀ a x, F a = some x → frzF ρ σ F H a = some x := fun a x h => by
  unfold frzF
  split
  · exact o.post.fh _ _ h
  · exact h
theorem Ok.frz (o : Ok A G F0 H0 ρ σ F H) : Ok A G F0 H0 (ρ.map fz) σ (frzF ρ σ F H) H where
  gf := fun a x h => o.frz_le _ _ (o.gf a x h)
  en := ⟨by rw [List.length_map]; exact o.en.len, fun j b hb => by
    rw [List.getElem?_map] at hb
    cases e : ρ[j]? with
    | none => rw [e] at hb; cases hb
    | some c =>
      rw [e] at hb
      have hb : fz c = b := Option.some.inj hb
      cases c with
      | own ds =>
        subst hb
        obtain ⟨a, vs, h1, h2, h3, h4, h5⟩ := o.ow j ds e
        refine ⟨_, h1, _, rfl, da_list.mpr ⟨a, vs, rfl, ?_, h5.mono o.frz_le⟩⟩
        unfold frzF
        rw [if_pos ⟨j, _, e, .inl ⟨ds, rfl⟩, h1⟩]
        exact h2
      | tab d =>
        subst hb
        obtain ⟨a, u, h1, h2, h3, h4, h5⟩ := o.tw j d e
        refine ⟨_, h1, _, rfl, da_DO.mpr ⟨a, u, rfl, ?_, h5.mono o.frz_le⟩⟩
        unfold frzF
        rw [if_pos ⟨j, _, e, .inr ⟨d, rfl⟩, h1⟩]
        exact h2
      | no =>
        subst hb
        obtain ⟨x, hx, hs⟩ := o.en.at_ j _ e
        exact ⟨x, hx, hs⟩
      | dat d =>
        subst hb
        obtain ⟨x, hx, hs⟩ := o.en.at_ j _ e
        exact ⟨x, hx, hs.mono o.frz_le⟩
      | src =>
        subst hb
        obtain ⟨x, hx, hs⟩ := o.en.at_ j _ e
        exact ⟨x, hx, hs⟩⟩
  pre0 := o.pre0
  post := ⟨o.post.le, fun a x h => o.frz_le _ _ (o.post.ff _ _ h), fun a x h => by
    unfold frzF at h
    split at h
    · exact h
    · exact o.post.fh _ _ h, fun a x h => by
    unfold frzF at h
    split at h
    · rename_i hc
      obtain ⟨j, c, e, ⟨ds, rfl⟩ | ⟨d, rfl⟩, hs⟩ := hc
      · obtain ⟨b, vs, h1, h2, h3, h4, h5⟩ := o.ow j ds e
        rw [hs] at h1
        cases h1
        exact .inr h4
      · obtain ⟨b, vs, h1, h2, h3, h4, h5⟩ := o.tw j d e
        rw [hs] at h1
        cases h1
        exact .inr h4
    · exact o.post.fr _ _ h, o.post.am⟩
  ow := fun j ds h => by
    rw [List.getElem?_map] at h
    cases e : ρ[j]? with
    | none => rw [e] at h; cases h
    | some c =>
      rw [e] at h
      have h : fz c = .own ds := Option.some.inj h
      cases c <;> cases h
  oj := fun j k ds es a h => by
    rw [List.getElem?_map] at h
    cases e : ρ[j]? with
    | none => rw [e] at h; cases h
    | some c =>
      rw [e] at h
      have h : fz c = .own ds := Option.some.inj h
      cases c <;> cases h
  tw := fun j d h => by
    rw [List.getElem?_map] at h
    cases e : ρ[j]? with
    | none => rw [e] at h; cases h
    | some c =>
      rw [e] at h
      have h : fz c = .tab d := Option.some.inj h
      cases c <;> cases h
  tj := fun j k d e a h => by
    rw [List.getElem?_map] at h
    cases e : ρ[j]? with
    | none => rw [e] at h; cases h
    | some c =>
      rw [e] at h
      have h : fz c = .tab d := Option.some.inj h
      cases c <;> cases h
/-- behind a look at the frozen, the heaps as they were -/
theorem Post.thaw {Fz : Hp} (hF : ∀ a x, F a = some x → Fz a = some x) (p : Pre A F H) (q : Post A Fz H F' H') : Post A F H F H' where
  le := q.le
  ff := fun _ _ h => h
  fh := fun a x h => q.fh _ _ (q.ff _ _ (hF _ _ h))
  fr := fun _ _ h => .inl h
  am := q.am
end

structure Ct where
  nx : List Ab → Prop
  rt : PyData → Prop
  bk : List Ab → Prop := fun _ => False
  ct : List Ab → Prop := fun _ => False
structure Ens (A : Am) (G F0 H0 : Hp) (C : Ct) (D : Ends) : Prop where
  nx : ∀ ρ σ F H, C.nx ρ → Ok A G F0 H0 ρ σ F H → D.nx σ H
  bk : ∀ ρ σ F H, C.bk ρ → Ok A G F0 H0 ρ σ F H → D.bk σ H
  ct : ∀ ρ σ F H, C.ct ρ → Ok A G F0 H0 ρ σ F H → D.ct σ H
  rt : ∀ v d F H, C.rt d → Post A F0 H0 F H → Da F d v → D.rt v H
def Run (A : Am) (t : TS) (ρ : List Ab) (C : Ct) : Prop :=
  ∀ G F0 H0 σ F H D, Ok A G F0 H0 ρ σ F H → Ens A G F0 H0 C D → t D σ H

/-- a scalar: it has no address -/
def Scal : PyData → Prop
  | .none => True | .bool _ => True | .int _ => True | .str _ => True | _ => False
theorem Scal.da {d : PyData} (s : Scal d) {F F' : Hp} {v : V} (h : Da F d v) : Da F' d v := by
  cases d with
  | none => exact da_none.mpr (da_none.mp h)
  | bool b => exact da_bool.mpr (da_bool.mp h)
  | int b => exact da_int.mpr (da_int.mp h)
  | str b => exact da_str.mpr (da_str.mp h)
  | list _ => exact s.elim
  | tuple _ => exact s.elim
  | dict _ => exact s.elim
section
variable {A : Am} {ρ : List Ab} {C : Ct} {t u : TS} {te ta tb : TE} {tc : TT} {tas : TA} {P : PyData → Prop} {B : Bool → Prop} {i j : Nat} {d : PyData} {ds : List PyData} {K : PySem.W.Frag}
theorem run_next (h : C.nx ρ) : Run A tNext ρ C := fun G F0 H0 σ F H D o e => e.nx ρ σ F H h o
theorem run_seq (h : Run A t ρ { C with nx := fun ρ' => Run A u ρ' C }) : Run A (tSeq t u) ρ C := fun G F0 H0 σ F H D o e =>
  h G F0 H0 σ F H { D with nx := u D } o ⟨fun ρ' σ' F' H' hr o' => hr G F0 H0 σ' F' H' D o' e, e.bk, e.ct, e.rt⟩
theorem run_frz (h : Run A t (ρ.map fz) C) : Run A t ρ C := fun G F0 H0 σ F H D o e => h G F0 H0 σ _ H D o.frz e
theorem run_asg {g : TG} (h : EvP A te ρ P) (hg : ∀ d, P d → ∃ l, TgP g d l ∧ C.nx (setA ρ l)) : Run A (tAsg te g) ρ C := fun G F0 H0 σ F H D o e =>
  h σ F H o.en o.pre _ fun v d F1 H1 hd po dv => by
    obtain ⟨l, hg, hn⟩ := hg d hd
    have o1 := o.step po
    obtain ⟨vs, k1, k2⟩ := hg F1 H1 v dv po.fh
    exact k2 σ _ (e.nx _ _ F1 H1 hn (o1.sets k1))
theorem run_set (h : EvP A te ρ P) (hn : ∀ d, P d → C.nx (ρ.set i (.dat d))) : Run A (tAsg te (gName i)) ρ C :=
  run_asg h fun d hd => ⟨[(i, d)], tg_name, hn d hd⟩
/-- own lists may be looked at where the value is a scalar -/
theorem run_setS (h : EvP A te (ρ.map fz) P) (hs : ∀ d, P d → Scal d) (hn : ∀ d, P d → C.nx (ρ.set i (.dat d))) : Run A (tAsg te (gName i)) ρ C := fun G F0 H0 σ F H D o e =>
  h σ _ H o.frz.en o.frz.pre _ fun v d F1 H1 hd po dv => by
    have o1 := o.step (po.thaw o.frz_le o.pre)
    exact e.nx _ _ F H1 (hn d hd) (o1.setD i ((hs d hd).da dv))
theorem run_setN {N : List PyData → Prop} (hi : i < ρ.length) (h : EvN A te ρ N) (hn : ∀ ds, N ds → C.nx (ρ.set i (.own ds))) : Run A (tAsg te (gName i)) ρ C := fun G F0 H0 σ F H D o e =>
  h σ F H o.en o.pre _ fun a vs ds F1 H1 hd po f1 h0 ha dv => by
    have o1 := o.step po
    refine e.nx _ _ F1 H1 (hn ds hd) (o1.setN i hi ha f1 (none_back o.pre0.am o.post.le o.post.am h0) dv fun j es n hj z => ?_)
    obtain ⟨b, us, k1, k2, _⟩ := o.ow j es hj
    rw [k1] at z
    cases z
    rw [h0] at k2
    cases k2
theorem run_if (h : EvB A tc (ρ.map fz) B) (h1 : B true → Run A t ρ C) (h2 : B false → Run A u ρ C) : Run A (tIfS tc t u) ρ C := fun G F0 H0 σ F H D o e =>
  h σ _ H o.frz.en o.frz.pre _ fun b F1 H1 hb po => by
    have o1 := o.step (po.thaw o.frz_le o.pre)
    cases b with
    | true => exact h1 hb G F0 H0 σ F H1 D o1 e
    | false => exact h2 hb G F0 H0 σ F H1 D o1 e
theorem run_ret (h : EvP A te (ρ.map fz) P) (hr : ∀ d, P d → C.rt d) : Run A (tRet te) ρ C := fun G F0 H0 σ F H D o e =>
  h σ _ H o.frz.en o.frz.pre _ fun v d F1 H1 hd po dv => e.rt v d F1 H1 (hr d hd) (o.frz.post.trans o.pre0.am po) dv
theorem run_retN (hr : C.rt .none) : Run A tRetN ρ C := fun G F0 H0 σ F H D o e => e.rt _ _ F H hr o.post (da_none.mpr rfl)
theorem run_brk (h : C.bk ρ) : Run A tBreak ρ C := fun G F0 H0 σ F H D o e => e.bk ρ σ F H h o
theorem run_cont (h : C.ct ρ) : Run A tCont ρ C := fun G F0 H0 σ F H D o e => e.ct ρ σ F H h o
theorem run_drop (h : EvP A te ρ P) (hn : C.nx ρ) : Run A (tDrop te) ρ C := fun G F0 H0 σ F H D o e =>
  h σ F H o.en o.pre _ fun v d F1 H1 hd po dv => e.nx ρ σ F1 H1 hn (o.step po)
theorem Run.imp (h : Run A t ρ C) {C' : Ct} (h1 : ∀ ρ, C.nx ρ → C'.nx ρ) (h2 : ∀ d, C.rt d → C'.rt d) (h3 : ∀ ρ, C.bk ρ → C'.bk ρ) (h4 : ∀ ρ, C.ct ρ → C'.ct ρ) : Run A t ρ C' := fun G F0 H0 σ F H D o e =>
  h G F0 H0 σ F H D o ⟨fun ρ σ F H k => e.nx ρ σ F H (h1 _ k), fun ρ σ F H k => e.bk ρ σ F H (h3 _ k), fun ρ σ F H k => e.ct ρ σ F H (h4 _ k), fun v d F H k => e.rt v d F H (h2 _ k)⟩
/-- xs.append(e), xs one's own -/
theorem run_app {r : V → List V → Hp → VK → Prop} (hr : r = fun x xs H Q => ∃ l ys y, x = V.ref l ∧ xs = [y] ∧ H l = some (HO.lst ys) ∧ ys.length < sizeLine ∧ Q V.non (upd H l (HO.lst (ys ++ [y])))) {T : String} (hT : T = "list")
    (ho : ρ[i]? = some (.own ds)) (hl : ds.length < sizeLine) (h : EvP A te ρ P) (hn : ∀ d, P d → C.nx (ρ.set i (.own (ds ++ [d])))) : Run A (tDrop (tBM K T r (tVar i) (tCons te tNil))) ρ C := fun G F0 H0 σ F H D o e => by
  subst hr hT
  obtain ⟨a, vs, k1, k2, k3, k4, k5⟩ := o.ow i ds ho
  refine ⟨_, k1, .inl ⟨rfl, _, .inl (.inl k2)⟩, h σ F H o.en o.pre _ fun v d F1 H1 hd po dv => ?_⟩
  have o1 := o.step po
  obtain ⟨a', vs', q1, q2, q3, q4, q5⟩ := o1.ow i ds ho
  rw [k1] at q1
  cases q1
  exact ⟨a, vs', v, rfl, rfl, q2, by rw [q5.len]; exact hl, e.nx _ σ F1 _ (hn d hd) (o1.chg (vs := vs') ho k1 q3 q4 (q5.snoc dv))⟩
/-- for: I by the turn -/
theorem run_for {wi : TI} {g : TG} {N : List PyData → Prop} (hi : EvI A wi ρ N) (I : List PyData → Nat → List Ab → Prop) (h0 : ∀ ds, N ds → I ds 0 ρ)
    (hs : ∀ (ds : List PyData) (k : Nat) (d : PyData) (ρ' : List Ab), N ds → ds[k]? = some d → I ds k ρ' → ∃ l, TgP g d l ∧ Run A t (setA ρ' l) { nx := I ds (k + 1), ct := I ds (k + 1), bk := C.nx, rt := C.rt })
    (hd : ∀ ds ρ', N ds → I ds ds.length ρ' → C.nx ρ') : Run A (tFor wi g t) ρ C := fun G F0 H0 σ F H D o e => hi σ F H o.en o.pre _ fun J ds F1 H1 hN po1 it => by
  refine ⟨fun k m σ' H' => m = ds.length - k ∧ k ≤ ds.length ∧ ∃ ρ' F', I ds k ρ' ∧ Ok A G F0 H0 ρ' σ' F' H' ∧ ∀ a x, F1 a = some x → F' a = some x, ⟨ds.length, by simp, Nat.zero_le _, ρ, F1, h0 ds hN, o.step po1, fun _ _ h => h⟩, ?_⟩
  rintro k m σ' H' ⟨rfl, hk, ρ', F', hI, o', hF⟩
  by_cases hlt : k < ds.length
  · refine .inr ⟨it.go k F' H' hF o'.post.fh hlt, fun σ2 H2 => k + 1 ≤ ds.length ∧ ∃ ρ' F', I ds (k + 1) ρ' ∧ Ok A G F0 H0 ρ' σ2 F' H2 ∧ ∀ a x, F1 a = some x → F' a = some x, fun σ2 H2 h => ⟨ds.length - (k + 1), by omega, rfl, h⟩, fun x H2 hy => ?_⟩
    have hdk : ds[k]? = some ds[k] := List.getElem?_eq_getElem hlt
    obtain ⟨F2, k1, k2, k3, k4, dx⟩ := it.yld k F' H' x H2 _ hF o'.post.fh hy hdk
    have po2 : Post A F' H' F2 H2 := ⟨fun a o h _ => k1 a o h, k2, k3, k4, A.loc _ _ (fun a o _ h => k1 a o h) o'.post.am⟩
    have o2 := o'.step po2
    obtain ⟨l, hg, hr⟩ := hs ds k ds[k] ρ' hN hdk hI
    obtain ⟨vs, d1, d2⟩ := hg F2 H2 x dx o2.post.fh
    refine d2 σ' _ ?_
    have o3 := (o2.sets d1).now
    have up : ∀ {Gx ρx σx Fx Hx}, Gx = F2 → Ok A Gx F0 H0 ρx σx Fx Hx → (∀ a x, F1 a = some x → Fx a = some x) ∧ Ok A G F0 H0 ρx σx Fx Hx := fun {Gx ρx σx Fx Hx} eg ox => by
      subst eg
      exact ⟨fun a x h => ox.gf _ _ (k2 _ _ (hF _ _ h)), ox.weak fun a x h => k2 _ _ (o'.gf _ _ h)⟩
    refine hr F2 F0 H0 _ F2 H2 _ o3 ⟨fun ρ3 σ3 F3 H3 h3 o4 => ?_, fun ρ3 σ3 F3 H3 h3 o4 => e.nx ρ3 σ3 F3 H3 h3 (up rfl o4).2, fun ρ3 σ3 F3 H3 h3 o4 => ?_, e.rt⟩
    · exact ⟨hlt, ρ3, F3, h3, (up rfl o4).2, (up rfl o4).1⟩
    · exact ⟨hlt, ρ3, F3, h3, (up rfl o4).2, (up rfl o4).1⟩
  · have ek : k = ds.length := by omega
    subst ek
    exact .inl ⟨it.stop F' H' hF o'.post.fh, e.nx ρ' σ' F' H' (hd ds ρ' hN hI) o'⟩
end
end Pu

/-! Defs that may ask for a repr: the guards of the run are known to be none. -/
namespace Pu
open PySem PySem.Spec PyProof.Rows L2

structure FnG (P : Program) (w : World) (K : PySem.W.Frag) (mg : Str → Option Value) (base : Heap) (CX : CXT) (k : Nat) (f : Addr) (fd : FuncData) (ps : List Str) (sp : Sp) : Prop where
  len : ∀ vs H Q E, sp vs H Q E → vs.length = ps.length
  run : ∀ (A : Around) (outer : List Env) (s : Shared) (H : Hp) (args : Args) (us : List Value) (vs : List V) (Q : VK) (E : XK), A.guards = some [] → Room k A → Env0 P w K mg base A outer s H →
    BindsTo s fd args (ps.zip us) → Vals vs us → sp vs H Q E → codeAny (model P w) A (.call (.ref f) args) (CR CX outer P w H s Q E) s
section
variable {P : Program} {w : World} {K : PySem.W.Frag} {mg : Str → Option Value} {base : Heap} {CX : CXT}
theorem FnG.of {k : Nat} {f : Addr} {fd : FuncData} {ps : List Str} {sp : Sp} (F : FnOk P w K mg base CX k f fd ps sp) : FnG P w K mg base CX k f fd ps sp :=
  ⟨F.len, fun A outer s H args us vs Q E _ => F.run A outer s H args us vs Q E⟩
/-- a def by its body, the guards known -/
theorem fng_of {x qual : Str} {st : Stmt} {f : Addr} {fd : FuncData} {N ps : List Str} {k : Nat} {sp : Sp} (F : Fun K x qual st f fd) (S : FnScope N ps (defScope st)) (len : ∀ vs H Q E, sp vs H Q E → vs.length = ps.length)
    (hbody : ∀ (cdv : Value) (A : Around) (outer : List Env) (s : Shared) (H : Hp) (vs : List V) (Q : VK) (E : XK), A.guards = some [] → Room k (A.deeper (envOfC qual (defScope st) s.heap.objs.size f cdv)) → sp vs H Q E →
      ∃ t, PSs (cxOf CX P w K mg base N qual (defScope st) f cdv A outer s H E) (defBody st) t ∧ t { nx := fun _ H' => Q .non H', rt := Q } (start N vs) H) : FnG P w K mg base CX (k + 1) f fd ps sp := by
  obtain ⟨oc, od, kV, doc, pm, an, cdv, ct, osl, rfl, lk, hcd⟩ := F.ex
  refine ⟨len, fun A outer s H args us vs Q E hgu hr e0 hb r hsp => ?_⟩
  have hl := len _ _ _ _ hsp
  have KX : K.In s.heap := e0.mod.kin.keeps (fun b o e => (e0.bs b o e).1)
  have lim : s.heap.NoLimit := e0.mod.nolimit.keeps (fun b o e => (e0.bs b o e).1)
  have hkind : ∀ y ∈ ps.zip us, (defScope st).names.lookup y.1 = some .local ∨ ((defScope st).names.lookup y.1 = some .cell ∧ ((cellsFrom (s.heap.objs.size + 1) (defScope st).names []).lookup y.1).isSome = true) := by
    rintro ⟨n, v⟩ hy
    rcases S.par n (List.of_mem_zip hy).1 with q | q
    · exact Or.inl q
    · exact Or.inr ⟨q, PySem.W.cellsFrom_some _ _ _ (Or.inl q)⟩
  refine codeAny_call_function hr.depth (KX _ _ lk) rfl S.co S.gen rfl (PySem.W.codeRec_of KX hcd) (hb _ _ _ _ ?_)
  refine wpAny_newFunctionEnv_cells S.kind hkind (fun env he s1 x => ?_)
  subst he
  refine ⟨lim.keeps x.toInCall.keep, codeAny_func ?_⟩
  obtain ⟨t, ht, hq⟩ := hbody cdv A outer s H vs Q E hgu (hr.deeper _) hsp
  have I : Inv (cxOf CX P w K mg base N qual (defScope st) f cdv A outer s H E) [] (start N vs) H s1 := inv_start S hr.hd e0 hl r x
  have fin : ∀ {σ' : L2.St} {H' : Hp} {v : V} {u : Value} {s' : Shared}, Inv (cxOf CX P w K mg base N qual (defScope st) f cdv A outer s H E) [] σ' H' s' → RelV v u → Q v H' → CE outer P w H s Q u s' := by
    intro σ' H' v u s' J rv q
    exact ⟨v, H', J.os, J.bare, J.base, J.hok, rv, q⟩
  refine wpAny_mono (ht.run [] s1 (start N vs) H _ I hq) (fun fl s' hs => ?_) (fun e s' hs => hs)
  cases fl with
  | brk =>
    obtain ⟨_, _, _, q⟩ := hs
    exact q.elim
  | cont =>
    obtain ⟨_, _, _, q⟩ := hs
    exact q.elim
  | next =>
    obtain ⟨σ', H', J, q⟩ := hs
    exact fin (v := V.non) (u := Value.none) J rfl q
  | ret u =>
    obtain ⟨v, σ', H', J, rv, q⟩ := hs
    exact fin J rv q
end
section
variable {X : Cx} {CX : CXT} {k : Nat} {f C : Addr} {fd : FuncData} {ps : List Str} {sp : Sp} {dvs : List V} {ds : List Value} {E : XK} {x m : Str} {p pos apos : Pos} {e o : Expr} {es : List Expr} {ta : TE} {t : TA}
theorem run_fng {pins : List (Addr × Obj)} {σ : L2.St} {H : Hp} {s : Shared} {Q : VK} {us : List Value} {vs : List V} (F : FnG X.prog X.w X.K X.mg X.base CX k f fd ps sp) (hgu : X.A.guards = some []) (hr : Room k X.A) (hb : Binds X.K fd ps ds) (hd : Vals dvs ds) (hx : Passes CX X E)
    (I : Inv X pins σ H s) (r : Vals vs us) (h : sp (vs ++ dvs) H Q E) : wpAny (model X.prog X.w) X.A (call (.ref f) us) (EP X pins σ Q) X.xe s := by
  have r2 : Vals (vs ++ dvs) (us ++ ds) := r.append hd
  have hl : (us ++ ds).length = ps.length := r2.length ▸ F.len _ _ _ _ h
  refine wpAny_call (codeAny_mono (F.run X.A X.stack s H ⟨us, []⟩ (us ++ ds) (vs ++ dvs) Q E hgu hr I.env0 (hb s us I.kIn hl) r2 h) (fun r s' hq => ?_))
  cases r with
  | error e => exact hx pins σ H s e s' I hq
  | ok fl =>
    cases fl with
    | ret u => exact I.after hq
    | next => exact hq.elim
    | brk => exact hq.elim
    | cont => exact hq.elim
theorem pe_callG (F : FnG X.prog X.w X.K X.mg X.base CX k f fd ps sp) (hgu : X.A.guards = some []) (hr : Room k X.A) (hg : Gl X x) (hm : X.mg x = some (.ref f)) (hk : PySem.W.keepIn X.K (.ref f) = true) (hb : Binds X.K fd ps ds) (hd : Vals dvs ds) (hx : Passes CX X E)
    (ha : PA X (e :: es) t) (hdb : (x == ("__debug__" : Str)) = false := by decide) (he : starEach (e :: es) X.env = (false, eval e X.env) :: starEach es X.env := by rfl) (hpl : (backTo pos (starEach es X.env)).any (·.1) = false := by rfl) :
    PE X (.Call (.Name x p) (e :: es) [] pos) (tCall sp dvs E t) := by
  refine ⟨fun pins s σ H Q I h => wpAny_Call_Name_kw (ld_glob I hg hm ?_ hdb)⟩
  refine PySem.W.callWith_K (h₀ := X.base) I.ok.mod.kin hk (thn (ha.run pos pins s σ H _ I h) (fun us s1 ⟨vs, H1, I1, r, q⟩ => ⟨I1.kIn, run_fng F hgu hr hb hd hx I1 r q⟩)) he hpl
end

/-- the modules' dict is held, as it was -/
def SysOk (H : Hp) : Prop := ∃ o u, H sysModules = some (.frz o u)
/-- the law's own call, behind the top -/
theorem lawg_call {P : Program} {w : World} {K : PySem.W.Frag} {mg mb : Str → Option Value} {k : Nat} {fa a : Addr} {fd : FuncData} {x : Str} {sp : Sp} {s₁ : Shared} {vs : List Value} {ns : List Int}
    (KX : K.In s₁.heap) (hns : s₁.heap.Ns mainGlobals mg) (hb : s₁.heap.Ns builtinsNs mb) (hbb : ∀ x : Str, x ≠ "__name__" → mb x = bootBuiltins x) (hlim : s₁.heap.NoLimit) (hg : s₁.gens = #[])
    (ha : s₁.heap.get? a = some { cls := .type "list", data := .seq vs.toArray }) (hi : PyProof.Rows.IntsAre vs ns) (hl : ns.length ≤ sizeLine) (hr : Room k callerA)
    (F : ∀ base : Heap, K.In base → base.Ns mainGlobals mg → FnG P w K mg base CX0 k fa fd [x] sp) (hbind : ∀ (s : Shared) (u : Value), BindsTo s fd ⟨[u], []⟩ [(x, u)])
    (hsys : ∃ o es ep, s₁.heap.get? sysModules = some o ∧ o.data = .dict es ep) (hks : K.lookup sysModules = none)
    (hsp : ∀ H : Hp, SqL K H a (ns.map V.int) → SysOk H → sp [.ref a] H (fun v _ => v = .bl true) E0) :
    codeAny (model P w) callerA (.call (.ref fa) ⟨[.ref a], []⟩) (fun r s' => r = .ok (.ret (.bool true)) ∧ OldK s₁.heap s'.heap ∧ s'.os = s₁.os ∧ AllBare s'.gens) s₁ := by
  have rv := vals_ints hi
  obtain ⟨so, ses, sep, hso, hsd⟩ := hsys
  have has : a ≠ sysModules := fun z => by
    rw [z, hso] at ha
    cases ha
    exact Data.noConfusion hsd
  have core : ∀ H : Hp, (∀ b, H b = none ∨ (b = a ∧ ∃ o xs, H b = some (.frz o (.lst xs))) ∨ (b = sysModules ∧ ∃ o u, H b = some (.frz o u))) → SysOk H → SqL K H a (ns.map V.int) → HOk P w H s₁.heap → (H a ≠ none → K.lookup a = none) →
      codeAny (model P w) callerA (.call (.ref fa) ⟨[.ref a], []⟩) (fun r s' => r = .ok (.ret (.bool true)) ∧ OldK s₁.heap s'.heap ∧ s'.os = s₁.os ∧ AllBare s'.gens) s₁ := by
    intro H hO hSy hS hok hK
    have noA : ∀ {b : Addr} {o : Obj} {es : Array DictEntry} {ep : Nat}, b ≠ sysModules → s₁.heap.get? b = some o → o.data = .dict es ep → H b = none := by
      intro b o es ep nb e d
      rcases hO b with z | ⟨z, _⟩ | ⟨z, _⟩
      · exact z
      · subst z
        rw [ha] at e
        cases e
        exact Data.noConfusion d
      · exact absurd z nb
    have nsK : ∀ {b : Addr} {m : Str → Option Value}, b ≠ sysModules → s₁.heap.Ns b m → (hidT s₁.heap H).Ns b m := by
      rintro b m nb ⟨o, es, ep, e, d, r⟩
      exact ⟨o, es, ep, hidT_get e (noA nb e d), d, r⟩
    have hKb : K.In (hidT s₁.heap H) := fun b o e => hidT_get (KX b o e) (by
      rcases hO b with z | ⟨z, ob, xs, z2⟩ | ⟨z, _⟩
      · exact z
      · subst z
        rw [hK (by rw [z2]; exact fun q => nomatch q)] at e
        cases e
      · subst z
        rw [hks] at e
        cases e)
    have hM : Mod K mg (hidT s₁.heap H) := ⟨hKb, nsK (by decide) hns, ⟨mb, nsK (by decide) hb, hbb⟩, by
      obtain ⟨mc, h1, h2⟩ := hlim
      exact ⟨mc, nsK (by decide) h1, h2⟩⟩
    have e0 : Env0 P w K mg (hidT s₁.heap H) callerA [] s₁ H := ⟨rfl, hM, fun b o e => of_hidT e, Nat.le_of_eq (hidT_size _ _), trivial, fun b hb => absurd (show b ∈ ([] : List Addr) from hb) (by simp), hok, .of_eq hg⟩
    refine codeAny_mono ((F _ hKb (nsK (by decide) hns)).run callerA [] s₁ H ⟨[.ref a], []⟩ [.ref a] [.ref a] _ _ rfl hr e0 (hbind s₁ (.ref a)) (.cons rfl .nil) (hsp H hS hSy)) (fun r s' h => ?_)
    cases r with
    | error e => exact False.elim h
    | ok fl =>
      cases fl with
      | brk => exact h.elim
      | cont => exact h.elim
      | next => exact h.elim
      | ret u =>
        obtain ⟨v, H', os, bare, un, hok', r', q⟩ := h
        have q' : v = .bl true := q
        subst q'
        obtain rfl : u = Value.bool true := r'
        refine ⟨rfl, OldK.of_keep (fun b o e => ?_), os, bare⟩
        rcases hO b with z | ⟨_, ob, xs, z⟩ | ⟨_, ob, xs, z⟩
        · exact un.keep b o e z (by intro y; exact absurd (show b ∈ ([] : List Addr) from y) (by simp)) (by simp)
        · obtain ⟨e1, _⟩ := hok b _ z
          obtain ⟨e2, _⟩ := hok' b _ (un.frzs b ob _ z)
          rw [e] at e1
          cases e1
          exact e2
        · obtain ⟨e1, _⟩ := hok b _ z
          obtain ⟨e2, _⟩ := hok' b _ (un.frzs b ob _ z)
          rw [e] at e1
          cases e1
          exact e2
  have sok : ∀ H : Hp, ObjOk P w H s₁.heap sysModules (.frz so (.ext fun _ => True)) := fun H => ⟨hso, trivial, ⟨so, hso⟩, fun _ _ _ _ => trivial⟩
  cases hk : K.lookup a with
  | some o =>
    have e := KX a o hk
    rw [ha] at e
    cases e
    refine core (fun b => if b = sysModules then some (.frz so (.ext fun _ => True)) else none) (fun b => ?_) ⟨so, _, if_pos rfl⟩ (.inr ⟨_, vs.toArray, _, hk, rfl, rfl, rfl, by rw [List.size_toArray, hi.length]; exact hl, by simpa using rv⟩) (fun b u z => ?_) (fun z => absurd (if_neg has) z)
    · by_cases hb : b = sysModules
      · exact .inr (.inr ⟨hb, _, _, if_pos hb⟩)
      · exact .inl (if_neg hb)
    · by_cases hb : b = sysModules
      · have z' := (if_pos hb).symm.trans z
        cases z'
        subst hb
        exact sok _
      · have z' := (if_neg hb).symm.trans z
        cases z'
  | none =>
    refine core (fun b => if b = a then some (.frz { cls := .type "list", data := .seq vs.toArray } (.lst (ns.map V.int))) else if b = sysModules then some (.frz so (.ext fun _ => True)) else none) (fun b => ?_) ⟨so, _, (if_neg (Ne.symm has)).trans (if_pos rfl)⟩ (.inl (.inr ⟨{ cls := .type "list", data := .seq vs.toArray }, if_pos rfl⟩)) (fun b u z => ?_) (fun _ => hk)
    · by_cases hb : b = a
      · exact .inr (.inl ⟨hb, _, _, if_pos hb⟩)
      · by_cases hb2 : b = sysModules
        · exact .inr (.inr ⟨hb2, _, _, (if_neg hb).trans (if_pos hb2)⟩)
        · exact .inl ((if_neg hb).trans (if_neg hb2))
    · by_cases hb : b = a
      · have z' := (if_pos hb).symm.trans z
        cases z'
        subst hb
        exact ⟨ha, by rw [List.length_map]; exact hl, vs, _, rv, ha⟩
      · have z' := (if_neg hb).symm.trans z
        by_cases hb2 : b = sysModules
        · have z2 := (if_pos hb2).symm.trans z'
          cases z2
          subst hb2
          exact sok _
        · have z2 := (if_neg hb2).symm.trans z'
          cases z2
theorem walk_ofG {l : PySem.W.OpenLaw} {n k : Nat} {q : Program} {loose : List Str} {XP : (Str → Option Value) → Heap → Prop} {YP : World → Heap → Prop} {d : DefRec} {K : Params → PySem.W.Frag} {sp : World → Sp} {x : Str}
    (hn : l.most = some n) (hn2 : n ≤ sizeLine) (hdf : d.params.defaults = []) (hr : Room k callerA) (hks : ∀ w : World, (K w.params).lookup sysModules = none) (hq : importsNone q = true) (hY : ∀ (w : World) (h : Heap), YP w h → (K w.params).In h)
    (F : ∀ (w : World) (mg : Str → Option Value) (fa : Addr) (h : Heap), (K w.params).In h → h.Ns mainGlobals mg → mg d.name = some (.ref fa) →
      ∃ fd : FuncData, (∀ (s : Shared) (u : Value), BindsTo s fd ⟨[u], []⟩ [(x, u)]) ∧ ∀ base : Heap, (K w.params).In base → base.Ns mainGlobals mg → FnG l.prog w (K w.params) mg base CX0 k fa fd [x] (sp w))
    (hsp : ∀ (w : World) (H : Hp) (a : Addr) (ns : List Int), ns.length ≤ n → SqL (K w.params) H a (ns.map V.int) → SysOk H → sp w [.ref a] H (fun v _ => v = .bl true) E0) :
    PySem.W.WalkO q loose XP YP l.row.toRowW d [] (fun f vs => PySem.call f vs) := by
  refine Att.attach_call hn hdf (fun w s₀ s₁ mg mb fa o pm cd doc a vs ns G Y ho hd hcd hmg hobj hints hlen hg => ?_)
  have KX := hY w _ Y
  obtain ⟨fd, hb, hF⟩ := F w mg fa _ KX G.T.g hmg
  exact lawg_call KX G.T.g G.T.b G.T.builtins G.T.nolimit hg hobj hints (Nat.le_trans hlen hn2) hr hF hb (by obtain ⟨mm, ⟨o, es, ep, h1, h2, _⟩, _⟩ := (G.T.seer hq).mods; exact ⟨o, es, ep, h1, h2⟩) (hks w) (fun H hS hSy => hsp w H a ns hlen hS hSy)

/-! ### repr of data -/
def rRepr (K : PySem.W.Frag) : List V → Hp → VK → Prop := fun xs H Q => ∃ x d, xs = [x] ∧ Dp K H x d ∧ PyData.showable d = true ∧ PyData.hasDict d = false ∧ d.depth ≤ 64 ∧ d.shown.length ≤ sizeLine ∧ Q (.str d.shown) H
theorem call_repr {X : Cx} (hgu : X.A.guards = some []) (hu : X.A.units + 70 < cLine) : CallR X (.builtin "repr") (rRepr X.K) := by
  intro pins s σ H xs us Q I r h
  obtain ⟨x, d, rfl, hd, hs, hnd, hdep, hz, q⟩ := h
  cases r with
  | cons rx rt =>
    cases rt
    rename_i u
    obtain ⟨as, r1⟩ := Dp.reads I d x u hd rx
    have fin : ∀ h' t' tk, (∀ b o, s.heap.get? b = some o → h'.get? b = some o) → EP X pins σ Q (.str d.shown t') { s with heap := h', toks := tk } := fun h' t' tk hk =>
      ⟨.str d.shown, H, I.kept hk, ⟨t', rfl⟩, q⟩
    have deep : ∀ a, u = .ref a → wpAny (model X.prog X.w) X.A (call (.builtin "repr") [u]) (EP X pins σ Q) X.xe s := fun a e => by
      subst e
      exact repr_of_reads' r1 hs (PyData.noDict_hsm hnd) hgu (by omega) (fun _ _ e => e) (fun h' t' tk hk => fin h' t' tk hk) hz
    cases hd with
    | non =>
      cases rx
      exact PySem.P.repr_of_none ⟨.str _, H, I.tok _, ⟨_, rfl⟩, q⟩
    | bl b =>
      cases rx
      refine PySem.P.repr_of_bool ⟨.str _, H, I.tok _, ⟨_, rfl⟩, ?_⟩
      simp only [PyData.shown] at q
      exact q
    | int i =>
      obtain ⟨t, rfl⟩ := rx
      refine PySem.P.repr_of_int (by simpa [PyData.showable] using hs) ⟨.str _, H, I.tok _, ⟨_, rfl⟩, ?_⟩
      simp only [PyData.shown] at q
      exact q
    | str z =>
      obtain ⟨t, rfl⟩ := rx
      simp only [PyData.shown] at q hz
      exact PySem.P.repr_of_str ⟨.str _, H, I.tok _, ⟨_, rfl⟩, q⟩ hz
    | lst h1 h2 =>
      cases rx
      exact deep _ rfl
    | tup h1 h2 =>
      cases rx
      exact deep _ rfl
end Pu

/-! The built-in things over data. -/
namespace Pu
open PySem L2 SeqAt

/-! ### data that may be shown and compared -/
structure Nc (n m : Nat) (d : PyData) : Prop where
  nod : noD d = true
  hdi : PyData.hasDict d = false
  lay : PyData.canLay0 d = true
  shw : PyData.showable d = true
  dep : d.depth ≤ n
  len : d.shown.length ≤ m
theorem Nc.mono {n m n' m' : Nat} {d : PyData} (h : Nc n m d) (h1 : n ≤ n') (h2 : m ≤ m') : Nc n' m' d := ⟨h.nod, h.hdi, h.lay, h.shw, Nat.le_trans h.dep h1, Nat.le_trans h.len h2⟩
theorem Nc.shaped {n m : Nat} {d : PyData} (h : Nc n m d) (hn : n ≤ 64) : SeqAt.shaped d = true := by
  unfold SeqAt.shaped
  rw [h.lay, Bool.true_and]
  exact decide_eq_true (Nat.le_trans h.dep hn)
theorem log2_small {i : Int} (h : i.natAbs < 10 ^ 40) : i.natAbs.log2 < 1920 := by
  rcases Nat.eq_zero_or_pos i.natAbs with e | e
  · rw [e]; decide
  · have h1 : i.natAbs < 2 ^ 140 := Nat.lt_trans h (by decide)
    have := (Nat.log2_lt (by omega)).mpr h1
    omega
theorem Nc.int {i : Int} (h : i.natAbs < 10 ^ 40) : Nc 0 45 (.int i) := ⟨by rfl, by simp only [PyData.hasDict], by simp only [PyData.canLay0], by
  simp only [PyData.showable]
  exact decide_eq_true (log2_small h), by simp only [PyData.depth]; exact Nat.le_refl 0, by
  have e := int_text_length_le10 (k := 40) (by decide) h
  simp only [PyData.shown]
  show (Str.ofString (toString i)).length ≤ 45
  rw [ofString_length]
  omega⟩
theorem Nc.non : Nc 0 45 .none := ⟨by rfl, by simp only [PyData.hasDict], by simp only [PyData.canLay0], by simp only [PyData.showable], by simp only [PyData.depth]; exact Nat.le_refl 0, by
  simp only [PyData.shown]
  decide⟩
theorem Nc.bool (b : Bool) : Nc 0 45 (.bool b) := ⟨by rfl, by simp only [PyData.hasDict], by simp only [PyData.canLay0], by simp only [PyData.showable], by simp only [PyData.depth]; exact Nat.le_refl 0, by
  simp only [PyData.shown]
  cases b <;> decide⟩
theorem Nc.str {s : Str} (h : PyData.strOk s = true) (hl : (reprText s).length ≤ 45) : Nc 0 45 (.str s) := ⟨by rfl, by simp only [PyData.hasDict], by simp only [PyData.canLay0]; exact h, by simp only [PyData.showable], by simp only [PyData.depth]; exact Nat.le_refl 0, by
  simp only [PyData.shown]
  exact hl⟩
theorem nc_all {n m : Nat} : ∀ {ds : List PyData}, (∀ d ∈ ds, Nc n m d) → noDs ds = true ∧ PyData.hasDictAll ds = false ∧ PyData.canLayAll0 ds = true ∧ PyData.showableAll ds = true ∧ PyData.depthAll ds ≤ n ∧ ((PyData.shownAll ds).map (·.length)).sum ≤ ds.length * m ∧ (PyData.shownAll ds).length = ds.length
  | [], _ => by
    refine ⟨by rfl, by simp only [PyData.hasDictAll], by simp only [PyData.canLayAll0], by simp only [PyData.showableAll], by simp only [PyData.depthAll]; exact Nat.zero_le _, ?_, ?_⟩
    · simp only [PyData.shownAll, List.map_nil, List.sum_nil]
      exact Nat.zero_le _
    · simp only [PyData.shownAll, List.length_nil]
  | d :: ds, h => by
    have h1 := h d List.mem_cons_self
    obtain ⟨a1, a2, a3, a4, a5, a6, a7⟩ := nc_all (ds := ds) fun x hx => h x (List.mem_cons_of_mem _ hx)
    refine ⟨?_, ?_, ?_, ?_, ?_, ?_, ?_⟩
    · simp only [noDs, h1.nod, a1, Bool.and_self]
    · simp only [PyData.hasDictAll, h1.hdi, a2, Bool.or_self]
    · simp only [PyData.canLayAll0, h1.lay, a3, Bool.and_self]
    · simp only [PyData.showableAll, h1.shw, a4, Bool.and_self]
    · simp only [PyData.depthAll]
      exact Nat.max_le.mpr ⟨h1.dep, a5⟩
    · simp only [PyData.shownAll, List.map_cons, List.sum_cons, List.length_cons]
      have := h1.len
      rw [Nat.succ_mul]
      omega
    · simp only [PyData.shownAll, List.length_cons, a7]
theorem len_mul {a k m : Nat} (h : a ≤ k) : a * m + 2 * a + 3 ≤ k * (m + 2) + 3 := by
  have h1 : a * (m + 2) ≤ k * (m + 2) := Nat.mul_le_mul_right _ h
  rw [Nat.mul_add] at h1
  omega
theorem Nc.list {n m k : Nat} {ds : List PyData} (hk : ds.length ≤ k) (h : ∀ d ∈ ds, Nc n m d) : Nc (n + 1) (k * (m + 2) + 3) (.list ds) := by
  obtain ⟨a1, a2, a3, a4, a5, a6, a7⟩ := nc_all h
  refine ⟨by simpa only [noD] using a1, by simpa only [PyData.hasDict] using a2, by simpa only [PyData.canLay0] using a3, by simpa only [PyData.showable] using a4, ?_, ?_⟩
  · simp only [PyData.depth]
    omega
  · simp only [PyData.shown]
    have := listText_len_le (PyData.shownAll ds)
    have := len_mul (m := m) hk
    omega
theorem Nc.tuple {n m k : Nat} {ds : List PyData} (hk : ds.length ≤ k) (h : ∀ d ∈ ds, Nc n m d) : Nc (n + 1) (k * (m + 2) + 3) (.tuple ds) := by
  obtain ⟨a1, a2, a3, a4, a5, a6, a7⟩ := nc_all h
  refine ⟨by simpa only [noD] using a1, by simpa only [PyData.hasDict] using a2, by simpa only [PyData.canLay0] using a3, by simpa only [PyData.showable] using a4, ?_, ?_⟩
  · simp only [PyData.depth]
    omega
  · simp only [PyData.shown]
    have := tupleText_len_le (PyData.shownAll ds)
    have := len_mul (m := m) hk
    omega

/-! ### rules of the layer by name -/
section
variable {X : Cx}
def rLen (K : PySem.W.Frag) : List V → Hp → VK → Prop := fun xs H Q => ∃ p ys, xs = [.ref p] ∧ (SqL K H p ys ∨ SqT K H p ys) ∧ Q (.int ys.length) H
theorem c_len : CallR X (.builtin "len") (rLen X.K) := call_len_seq
def rTupOf (K : PySem.W.Frag) : List V → Hp → VK → Prop := fun xs H Q => ∃ p ys, xs = [.ref p] ∧ ((SqL K H p ys ∧ ∀ l, H l = none → Q (.ref l) (upd H l (.tup ys))) ∨ (SqT K H p ys ∧ Q (.ref p) H))
theorem c_tuple : CallR X (.type "tuple") (rTupOf X.K) := call_tuple_of
def rLstOf (K : PySem.W.Frag) : List V → Hp → VK → Prop := fun xs H Q => ∃ p ys, xs = [.ref p] ∧ (SqL K H p ys ∨ SqT K H p ys) ∧ ∀ l, H l = none → Q (.ref l) (upd H l (.lst ys))
theorem c_list : CallR X (.type "list") (rLstOf X.K) := call_list_of
def rAbs : List V → Hp → VK → Prop := fun xs H Q => ∃ i, xs = [.int i] ∧ Q (.int (if i < 0 then -i else i)) H
theorem c_abs : CallR X (.builtin "abs") rAbs := call_abs
def rMx2 : List V → Hp → VK → Prop := fun xs H Q => ∃ i j, xs = [.int i, .int j] ∧ Q (.int (if j > i then j else i)) H
theorem c_max2 (hc : X.calm = true) : CallR X (.builtin "max") rMx2 := call_max2 hc
def rMn2 : List V → Hp → VK → Prop := fun xs H Q => ∃ i j, xs = [.int i, .int j] ∧ Q (.int (if j < i then j else i)) H
theorem c_min2 (hc : X.calm = true) : CallR X (.builtin "min") rMn2 := call_min2 hc
def rInt1 : List V → Hp → VK → Prop := fun xs H Q => (∃ i, xs = [.int i] ∧ Q (.int i) H) ∨ ∃ k, xs = [.bl k] ∧ Q (.int (if k then 1 else 0)) H
theorem c_int : CallR X (.type "int") rInt1 := call_int1
def rIx2 (K : PySem.W.Frag) : R2 := fun x y H Q => rIxL K x y H Q ∨ rIxT K x y H Q
theorem i_ix : IxR X (rIx2 X.K) := IxR.or ix_list ix_tup
def rSl2 (K : PySem.W.Frag) : V → Option Int → Option Int → Hp → VK → Prop := fun x lo hi H Q => rSlL K x lo hi H Q ∨ rSlA K x lo hi H Q
theorem s_sl : SlR X (rSl2 X.K) := SlR.or sl_list sl_tupA
def rAdd3 (K : PySem.W.Frag) : R2 := fun x y H Q => rI0 (fun i j => .int (i + j)) x y H Q ∨ (rCat x y H Q ∨ rCatA K x y H Q)
theorem o_add : OpR X (binaryOp .Add) (rAdd3 X.K) := OpR.or op_add (OpR.or op_cat op_catA)
def CM (i j : Int) : Prop := CMul i j ∨ CMulW i j
theorem op_mulM : OpR X (binaryOp .Mult) (rI CM fun i j => .int (i * j)) := by
  intro pins s σ H x y v u Q I rx ry h
  obtain ⟨i, j, rfl, rfl, hc, q⟩ := h
  rcases hc with hc | hc
  · exact op_mul pins s σ H _ _ v u Q I rx ry ⟨i, j, rfl, rfl, hc, q⟩
  · exact op_mulW pins s σ H _ _ v u Q I rx ry ⟨i, j, rfl, rfl, hc, q⟩
def rMul2 : R2 := fun x y H Q => rI CM (fun i j => .int (i * j)) x y H Q ∨ rRep x y H Q
theorem o_mul : OpR X (binaryOp .Mult) rMul2 := OpR.or op_mulM op_rep
def rInT (K : PySem.W.Frag) (neg : Bool) : R2 := fun x y H Q => ∃ d ds, Dp K H x d ∧ (Dp K H y (.list ds) ∨ Dp K H y (.tuple ds)) ∧ SeqAt.shaped d = true ∧ SeqAt.shaped (.list ds) = true ∧ Q (.bl (if neg then !ds.any fun z => PyData.eqv z d else ds.any fun z => PyData.eqv z d)) H
theorem shaped_tl {ds : List PyData} (h : SeqAt.shaped (.list ds) = true) : SeqAt.shaped (.tuple ds) = true := by
  unfold SeqAt.shaped at h ⊢
  simp only [PyData.canLay0, PyData.depth] at h ⊢
  exact h
theorem o_in (hu : X.A.units + 65 < cLine) : OpR X (compareOp .In) (rInT X.K false) := by
  intro pins s σ H x y v u Q I rx ry h
  obtain ⟨d, ds, hd, he, sd, se, q⟩ := h
  obtain ⟨as, r1⟩ := Dp.reads I d x v hd rx
  rcases he with he | he
  · obtain ⟨bs, r2⟩ := Dp.reads I (.list ds) y u he ry
    exact SeqAt.in_list_reads r2 r1 (SeqAt.canLay_of_shaped se) (SeqAt.canLay_of_shaped sd) (PyProof.Rows.room_in_shaped sd hu) ⟨.bl _, H, I, rfl, q⟩
  · obtain ⟨bs, r2⟩ := Dp.reads I (.tuple ds) y u he ry
    exact SeqAt.in_tuple_reads r2 r1 (SeqAt.canLay_of_shaped se) (SeqAt.canLay_of_shaped sd) (PyProof.Rows.room_in_shaped sd hu) ⟨.bl _, H, I, rfl, q⟩
theorem o_notIn (hu : X.A.units + 65 < cLine) : OpR X (compareOp .NotIn) (rInT X.K true) := by
  intro pins s σ H x y v u Q I rx ry h
  obtain ⟨d, ds, hd, he, sd, se, q⟩ := h
  obtain ⟨as, r1⟩ := Dp.reads I d x v hd rx
  rcases he with he | he
  · obtain ⟨bs, r2⟩ := Dp.reads I (.list ds) y u he ry
    exact SeqAt.notIn_list_reads r2 r1 (SeqAt.canLay_of_shaped se) (SeqAt.canLay_of_shaped sd) (PyProof.Rows.room_in_shaped sd hu) ⟨.bl _, H, I, rfl, q⟩
  · obtain ⟨bs, r2⟩ := Dp.reads I (.tuple ds) y u he ry
    exact SeqAt.notIn_tuple_reads r2 r1 (SeqAt.canLay_of_shaped se) (SeqAt.canLay_of_shaped sd) (PyProof.Rows.room_in_shaped sd hu) ⟨.bl _, H, I, rfl, q⟩
def rEq2 (K : PySem.W.Frag) : R2 := fun x y H Q => rEq x y H Q ∨ rEqD K x y H Q
theorem o_eq (hu : X.A.units + 64 < cLine) : OpR X (compareOp .Eq) (rEq2 X.K) := OpR.or op_eq (op_eqD hu)
def rNe2 (K : PySem.W.Frag) : R2 := fun x y H Q => rNe x y H Q ∨ rNeD K x y H Q
theorem o_ne (hu : X.A.units + 64 < cLine) : OpR X (compareOp .NotEq) (rNe2 X.K) := OpR.or op_ne (op_neD hu)
def CPow2 (i j : Int) : Prop := CPow i j ∨ (0 ≤ j ∧ j ≤ 8 ∧ i.natAbs < 2 ^ 1000)
theorem o_pow : OpR X (binaryOp .Pow) (rI CPow2 fun i j => .int (i ^ j.toNat)) := opI fun i j _ _ _ _ _ hc q => by
  rcases hc with hc | hc
  · exact PyProof.Rows.pow_int_small hc.1 hc.2.1 hc.2.2 q
  obtain ⟨h0, h1, h2⟩ := hc
  refine PyProof.Rows.pow_int h0 ?_ q
  have hb : Builtin.Int.intBits i ≤ 1001 := by
    have b : Builtin.Int.intBits i ≤ i.natAbs.log2 + 1 := by
      unfold Builtin.Int.intBits
      split <;> omega
    rcases Nat.eq_zero_or_pos i.natAbs with e | e
    · rw [e] at b
      have : Nat.log2 0 = 0 := by decide
      omega
    · have := (Nat.log2_lt (by omega)).mpr h2
      omega
  have h3 : (Builtin.Int.intBits i : Int) * j ≤ 1001 * 8 := Int.mul_le_mul (by omega) h1 h0 (by decide)
  omega
end

section
variable {A : Am} {ρ : List Ab} {te ta tb tc : TE} {tt tu : TT} {tas : TA} {tl th : TO} {P P' P1 P2 : PyData → Prop} {B B1 B2 : Bool → Prop} {d d1 d2 x y z : PyData} {ds xs ys : List PyData} {b b1 b2 : Bool} {i j k : Int} {K : PySem.W.Frag}

/-! ### by data: calls -/
theorem pre_none {F H : Hp} (p : Pre A F H) {a : Addr} (h : H a = none) : F a = none := by
  cases e : F a with
  | none => rfl
  | some o =>
    rw [p.fh _ _ e] at h
    cases h
theorem rv_val {r : List V → Hp → VK → Prop} {bs : List Ab} (h : ∀ F H vs, Pre A F H → Vas A F bs vs → ∃ u, Da F z u ∧ ∀ Q : VK, Q u H → r vs H Q) : RvP A r bs (fun w => w = z) := fun F H vs p hv Q c => by
  obtain ⟨u, hu, k⟩ := h F H vs p hv
  exact k Q (c u z F H rfl p.refl hu)
theorem len_l : RvP A (rLen K) [.dat (.list ds)] (fun w => w = .int ds.length) := rv_val fun F H vs p hv => by
  obtain ⟨v, ev, hv1⟩ := vas1 hv
  subst ev
  have hv := hv1
  obtain ⟨a, xs, rfl, ha, hx⟩ := da_list.mp hv
  exact ⟨.int xs.length, by rw [hx.len]; exact da_int.mpr rfl, fun Q q => ⟨a, xs, rfl, .inl (SqL.of (p.fh _ _ ha)), q⟩⟩
theorem len_t : RvP A (rLen K) [.dat (.tuple ds)] (fun w => w = .int ds.length) := rv_val fun F H vs p hv => by
  obtain ⟨v, ev, hv1⟩ := vas1 hv
  subst ev
  have hv := hv1
  obtain ⟨a, xs, rfl, ha, hx⟩ := da_tup.mp hv
  exact ⟨.int xs.length, by rw [hx.len]; exact da_int.mpr rfl, fun Q q => ⟨a, xs, rfl, .inr (SqT.of (p.fh _ _ ha)), q⟩⟩
theorem ev_len_l (h : EvD A te ρ (.list ds)) : EvD A (tCB (rLen K) (tCons te tNil)) ρ (.int ds.length) := ev_cb (ea_cons h ea_nil) len_l
theorem ev_len_t (h : EvD A te ρ (.tuple ds)) : EvD A (tCB (rLen K) (tCons te tNil)) ρ (.int ds.length) := ev_cb (ea_cons h ea_nil) len_t
theorem tuple_l : RvP A (rTupOf K) [.dat (.list ds)] (fun w => w = .tuple ds) := fun F H vs p hv Q c => by
  obtain ⟨v, ev, hv1⟩ := vas1 hv
  subst ev
  have hv := hv1
  obtain ⟨a, xs, rfl, ha, hx⟩ := da_list.mp hv
  refine ⟨a, xs, rfl, .inl ⟨SqL.of (p.fh _ _ ha), fun l hl => c _ _ (upd F l (.tup xs)) _ rfl (Post.new p hl) (da_tup.mpr ⟨l, xs, rfl, upd_same, hx.mono (le_upd (pre_none p hl))⟩)⟩⟩
theorem tuple_t : RvP A (rTupOf K) [.dat (.tuple ds)] (fun w => w = .tuple ds) := rv_val fun F H vs p hv => by
  obtain ⟨v, ev, hv1⟩ := vas1 hv
  subst ev
  have hv := hv1
  obtain ⟨a, xs, rfl, ha, hx⟩ := da_tup.mp hv
  exact ⟨.ref a, da_tup.mpr ⟨a, xs, rfl, ha, hx⟩, fun Q q => ⟨a, xs, rfl, .inr ⟨SqT.of (p.fh _ _ ha), q⟩⟩⟩
theorem ev_tuple_l (h : EvD A te ρ (.list ds)) : EvD A (tCB (rTupOf K) (tCons te tNil)) ρ (.tuple ds) := ev_cb (ea_cons h ea_nil) tuple_l
theorem ev_tuple_t (h : EvD A te ρ (.tuple ds)) : EvD A (tCB (rTupOf K) (tCons te tNil)) ρ (.tuple ds) := ev_cb (ea_cons h ea_nil) tuple_t
theorem evp_tuple {N : List PyData → Prop} (h : EvP A te ρ (fun d => ∃ ds, (d = .list ds ∨ d = .tuple ds) ∧ N ds)) : EvP A (tCB (rTupOf K) (tCons te tNil)) ρ (fun d => ∃ ds, d = .tuple ds ∧ N ds) :=
  evp_cb (eap_cons (N := fun bs => ∃ ds, (bs = [.dat (.list ds)] ∨ bs = [.dat (.tuple ds)]) ∧ N ds) h (fun _ _ => ea_nil) fun d bs ⟨ds, e, hn⟩ e2 => ⟨ds, by rcases e with e | e <;> rw [e, e2] <;> simp, hn⟩) fun bs ⟨ds, e, hn⟩ => by
    rcases e with e | e
    · rw [e]
      exact fun F H vs p hv Q c => tuple_l F H vs p hv Q fun z d F' H' hd => c z d F' H' ⟨ds, hd, hn⟩
    · rw [e]
      exact fun F H vs p hv Q c => tuple_t F H vs p hv Q fun z d F' H' hd => c z d F' H' ⟨ds, hd, hn⟩
theorem list_l : RvN A (rLstOf K) [.dat (.list ds)] (fun w => w = ds) := fun F H vs p hv Q c => by
  obtain ⟨v, ev, hv1⟩ := vas1 hv
  subst ev
  have hv := hv1
  obtain ⟨a, xs, rfl, ha, hx⟩ := da_list.mp hv
  exact ⟨a, xs, rfl, .inl (SqL.of (p.fh _ _ ha)), fun l hl => c l xs ds F _ rfl (Post.new0 p hl) (pre_none p hl) hl upd_same hx⟩
theorem list_t : RvN A (rLstOf K) [.dat (.tuple ds)] (fun w => w = ds) := fun F H vs p hv Q c => by
  obtain ⟨v, ev, hv1⟩ := vas1 hv
  subst ev
  have hv := hv1
  obtain ⟨a, xs, rfl, ha, hx⟩ := da_tup.mp hv
  exact ⟨a, xs, rfl, .inr (SqT.of (p.fh _ _ ha)), fun l hl => c l xs ds F _ rfl (Post.new0 p hl) (pre_none p hl) hl upd_same hx⟩
theorem el_list_l (h : EvD A te ρ (.list ds)) : EvL A (tCB (rLstOf K) (tCons te tNil)) ρ ds := evn_cb (ea_cons h ea_nil) fun _ e => by rw [e]; exact list_l
theorem el_list_t (h : EvD A te ρ (.tuple ds)) : EvL A (tCB (rLstOf K) (tCons te tNil)) ρ ds := evn_cb (ea_cons h ea_nil) fun _ e => by rw [e]; exact list_t
theorem ev_abs (h : EvD A te ρ (.int i)) : EvD A (tCB rAbs (tCons te tNil)) ρ (.int (if i < 0 then -i else i)) := ev_cb (ea_cons h ea_nil) (rv_val fun F H vs p hv => by
  obtain ⟨v, ev, hv1⟩ := vas1 hv
  subst ev
  have hv := hv1
  rw [da_int.mp hv]
  exact ⟨_, da_int.mpr rfl, fun Q q => ⟨i, rfl, q⟩⟩)
theorem ev_max2 (h : EvD A ta ρ (.int i)) (h' : EvD A tb ρ (.int j)) : EvD A (tCB rMx2 (tCons ta (tCons tb tNil))) ρ (.int (if j > i then j else i)) := ev_cb (ea_cons h (ea_cons h' ea_nil)) (rv_val fun F H vs p hv => by
  obtain ⟨v, w, ev, hv1, hw⟩ := vas2 hv
  subst ev
  have hv := hv1
  rw [da_int.mp hv, da_int.mp hw]
  exact ⟨_, da_int.mpr rfl, fun Q q => ⟨i, j, rfl, q⟩⟩)
theorem ev_min2 (h : EvD A ta ρ (.int i)) (h' : EvD A tb ρ (.int j)) : EvD A (tCB rMn2 (tCons ta (tCons tb tNil))) ρ (.int (if j < i then j else i)) := ev_cb (ea_cons h (ea_cons h' ea_nil)) (rv_val fun F H vs p hv => by
  obtain ⟨v, w, ev, hv1, hw⟩ := vas2 hv
  subst ev
  have hv := hv1
  rw [da_int.mp hv, da_int.mp hw]
  exact ⟨_, da_int.mpr rfl, fun Q q => ⟨i, j, rfl, q⟩⟩)
theorem ev_int1 (h : EvD A te ρ (.int i)) : EvD A (tCB rInt1 (tCons te tNil)) ρ (.int i) := ev_cb (ea_cons h ea_nil) (rv_val fun F H vs p hv => by
  obtain ⟨v, ev, hv1⟩ := vas1 hv
  subst ev
  have hv := hv1
  rw [da_int.mp hv]
  exact ⟨_, da_int.mpr rfl, fun Q q => .inl ⟨i, rfl, q⟩⟩)
theorem ev_intb (h : EvD A te ρ (.bool b)) : EvD A (tCB rInt1 (tCons te tNil)) ρ (.int (if b then 1 else 0)) := ev_cb (ea_cons h ea_nil) (rv_val fun F H vs p hv => by
  obtain ⟨v, ev, hv1⟩ := vas1 hv
  subst ev
  have hv := hv1
  rw [da_bool.mp hv]
  exact ⟨_, da_int.mpr rfl, fun Q q => .inr ⟨b, rfl, q⟩⟩)
theorem ev_sum {ns : List Int} (h : EvD A te ρ (.list (ns.map .int))) : EvD A (tCB (rSum K) (tCons te tNil)) ρ (.int ns.sum) := ev_cb (ea_cons h ea_nil) (rv_val fun F H vs p hv => by
  obtain ⟨v, ev, hv1⟩ := vas1 hv
  subst ev
  have hv := hv1
  obtain ⟨a, xs, rfl, ha, hx⟩ := da_list.mp hv
  rw [hx.ints] at ha
  exact ⟨_, da_int.mpr rfl, fun Q q => ⟨a, ns, rfl, SqL.of (p.fh _ _ ha), q⟩⟩)
theorem ev_any {bs : List Bool} (h : EvD A te ρ (.list (bs.map .bool))) : EvD A (tCB (rAny K) (tCons te tNil)) ρ (.bool (bs.any id)) := ev_cb (ea_cons h ea_nil) (rv_val fun F H vs p hv => by
  obtain ⟨v, ev, hv1⟩ := vas1 hv
  subst ev
  have hv := hv1
  obtain ⟨a, xs, rfl, ha, hx⟩ := da_list.mp hv
  rw [hx.bools] at ha
  exact ⟨_, da_bool.mpr rfl, fun Q q => ⟨a, bs, rfl, SqL.of (p.fh _ _ ha), q⟩⟩)
theorem ev_all {bs : List Bool} (h : EvD A te ρ (.list (bs.map .bool))) : EvD A (tCB (rAll K) (tCons te tNil)) ρ (.bool (bs.all id)) := ev_cb (ea_cons h ea_nil) (rv_val fun F H vs p hv => by
  obtain ⟨v, ev, hv1⟩ := vas1 hv
  subst ev
  have hv := hv1
  obtain ⟨a, xs, rfl, ha, hx⟩ := da_list.mp hv
  rw [hx.bools] at ha
  exact ⟨_, da_bool.mpr rfl, fun Q q => ⟨a, bs, rfl, SqL.of (p.fh _ _ ha), q⟩⟩)
theorem ev_repr {n m : Nat} (h : EvD A te ρ d) (hn : Nc n m d) (h1 : n ≤ 64 := by decide) (h2 : m ≤ sizeLine := by decide) : EvD A (tCB (rRepr K) (tCons te tNil)) ρ (.str d.shown) := ev_cb (ea_cons h ea_nil) (rv_val fun F H vs p hv => by
  obtain ⟨v, ev, hv1⟩ := vas1 hv
  subst ev
  have hv := hv1
  exact ⟨_, da_str.mpr rfl, fun Q q => ⟨v, d, rfl, Da.dp p.fh d v hn.nod hv, hn.shw, hn.hdi, Nat.le_trans hn.dep h1, Nat.le_trans hn.len h2, q⟩⟩)
/-- a built-in type asked for -/
def tyN : PyData → String
  | .none => "NoneType"
  | .bool _ => "bool"
  | .int _ => "int"
  | .str _ => "str"
  | .list _ => "list"
  | .tuple _ => "tuple"
  | .dict _ => "dict"
def isTn (T n : String) : Bool := T == n || (n == "bool" && T == "int")
def isT (T : String) (d : PyData) : Bool := isTn T (tyN d)
theorem ev_isi {T : String} (hT : T = "int" ∨ T = "bool" ∨ T = "tuple" ∨ T = "list" ∨ T = "str" ∨ T = "dict") (h : EvD A te ρ d) : EvD A (tCB (rIsi K) (tCons te (tCons (tC (.ty T)) tNil))) ρ (.bool (isT T d)) := fun σ F H e p Q c => by
  refine h σ F H e p _ fun v d' F1 H1 hd po dv => ?_
  subst hd
  have fin := c (.bl (isT T d')) _ F1 H1 rfl po (da_bool.mpr rfl)
  have go : ∀ t : String, TyX K H1 v (.type t) → tyN d' = t → kitB t T = some (isTn T t) → rIsi K [v, .ty T] H1 Q := fun t h1 h0 h2 => ⟨v, .ty T, .type t, .type T, isT T d', rfl, ClsV.ty T, h1, kit_ty (by rw [h2, ← h0] <;> rfl), fin⟩
  cases d' with
  | none =>
    rw [da_none.mp dv] at go ⊢
    refine go "NoneType" (.base .non) rfl ?_
    rcases hT with rfl | rfl | rfl | rfl | rfl | rfl <;> decide +kernel
  | bool b =>
    rw [da_bool.mp dv] at go ⊢
    refine go "bool" (.base (.bl b)) rfl ?_
    rcases hT with rfl | rfl | rfl | rfl | rfl | rfl <;> decide +kernel
  | int i =>
    rw [da_int.mp dv] at go ⊢
    refine go "int" (.base (.int i)) rfl ?_
    rcases hT with rfl | rfl | rfl | rfl | rfl | rfl <;> decide +kernel
  | str s =>
    rw [da_str.mp dv] at go ⊢
    refine go "str" (.base (.str s)) rfl ?_
    rcases hT with rfl | rfl | rfl | rfl | rfl | rfl <;> decide +kernel
  | list ds =>
    obtain ⟨a, xs, rfl, ha, hx⟩ := da_list.mp dv
    refine go "list" (.base (.lst (po.fh _ _ ha))) rfl ?_
    rcases hT with rfl | rfl | rfl | rfl | rfl | rfl <;> decide +kernel
  | tuple ds =>
    obtain ⟨a, xs, rfl, ha, hx⟩ := da_tup.mp dv
    refine go "tuple" (.base (.tup (po.fh _ _ ha))) rfl ?_
    rcases hT with rfl | rfl | rfl | rfl | rfl | rfl <;> decide +kernel
  | dict ks =>
    simp only [Da] at dv
    obtain ⟨a, rfl, ha⟩ := dv
    rcases ha with ⟨_, ha⟩ | ⟨_, xs, _, ha⟩ | ha
    · refine go "dict" (.base (.dK (po.fh _ _ ha))) rfl ?_
      rcases hT with rfl | rfl | rfl | rfl | rfl | rfl <;> decide +kernel
    · refine go "dict" (.base (.dT (po.fh _ _ ha))) rfl ?_
      rcases hT with rfl | rfl | rfl | rfl | rfl | rfl <;> decide +kernel
    · rcases ha.is.2 with ⟨xs, ha⟩ | ⟨xs, ha⟩
      · refine go "dict" (.base (.dT (po.fh _ _ ha))) rfl ?_
        rcases hT with rfl | rfl | rfl | rfl | rfl | rfl <;> decide +kernel
      · refine go "dict" (.base (.dK (po.fh _ _ ha))) rfl ?_
        rcases hT with rfl | rfl | rfl | rfl | rfl | rfl <;> decide +kernel

/-! ### operators -/
theorem ev_addI (ha : EvD A ta ρ (.int i)) (hb : EvD A tb ρ (.int j)) : EvD A (tOp (rAdd3 K) ta tb) ρ (.int (i + j)) := ev_op ha hb (r2_val fun F H v w p hv hw =>
  ⟨_, da_int.mpr rfl, fun Q q => .inl ⟨i, j, da_int.mp hv, da_int.mp hw, q⟩⟩)
theorem r2_addT (hz : xs.length + ys.length ≤ sizeLine) : R2P A (rAdd3 K) (.tuple xs) (.tuple ys) (fun w => w = .tuple (xs ++ ys)) := fun F H v w p hv hw Q c => by
  obtain ⟨a, us, rfl, ha, hx⟩ := da_tup.mp hv
  obtain ⟨b, ws, rfl, hb, hy⟩ := da_tup.mp hw
  refine .inr (.inr ⟨a, b, us, ws, rfl, rfl, SqT.of (p.fh _ _ ha), SqT.of (p.fh _ _ hb), by rw [hx.len, hy.len]; exact hz, fun e => ?_, fun _ e => ?_, fun _ _ q hq => ?_⟩)
  · subst e
    have e2 : xs = [] := List.length_eq_zero_iff.mp hx.len.symm
    subst e2
    exact c _ _ F H rfl p.refl hw
  · subst e
    have e2 : ys = [] := List.length_eq_zero_iff.mp hy.len.symm
    subst e2
    exact c _ _ F H (by rw [List.append_nil]) p.refl hv
  · exact c _ _ (upd F q (.tup (us ++ ws))) _ rfl (Post.new p hq) (da_tup.mpr ⟨q, _, rfl, upd_same, (hx.append hy).mono (le_upd (pre_none p hq))⟩)
theorem ev_addT (ha : EvD A ta ρ (.tuple xs)) (hb : EvD A tb ρ (.tuple ys)) (hz : xs.length + ys.length ≤ sizeLine) : EvD A (tOp (rAdd3 K) ta tb) ρ (.tuple (xs ++ ys)) := ev_op ha hb (r2_addT hz)
/-- list + list: a new list -/
theorem evn_addL {N M : List PyData → Prop} {L : List PyData → Prop} (ha : EvP A ta ρ (fun d => ∃ xs, d = .list xs ∧ N xs)) (hb : ∀ xs, N xs → EvP A tb ρ (fun d => ∃ ys, d = .list ys ∧ M ys)) (hl : ∀ xs ys, N xs → M ys → xs.length + ys.length ≤ sizeLine ∧ L (xs ++ ys)) : EvN A (tOp (rAdd3 K) ta tb) ρ L := fun σ F H e p Q c =>
  ha σ F H e p _ fun v x F1 H1 ⟨xs, hx, hn⟩ po1 dv => hb xs hn σ F1 H1 (e.mono po1.ff) (p.next po1) _ fun w y F2 H2 ⟨ys, hy, hm⟩ po2 dw => by
    subst hx hy
    have p2 := (p.next po1).next po2
    have hv := Da.mono po2.ff _ _ dv
    obtain ⟨a, us, rfl, ha, hx⟩ := da_list.mp hv
    obtain ⟨b, ws, rfl, hb, hy⟩ := da_list.mp dw
    obtain ⟨hz, hL⟩ := hl xs ys hn hm
    have po := po1.trans p.am po2
    exact .inr (.inl ⟨a, b, us, ws, rfl, rfl, p2.fh _ _ ha, p2.fh _ _ hb, by rw [hx.len, hy.len]; exact hz, fun q hq => c q (us ++ ws) (xs ++ ys) F2 _ hL (po.trans p.am (Post.new0 p2 hq)) (pre_none p2 hq) (none_back p.am po.le po.am hq) upd_same (hx.append hy)⟩)
theorem el_addL (ha : EvD A ta ρ (.list xs)) (hb : EvD A tb ρ (.list ys)) (hz : xs.length + ys.length ≤ sizeLine) : EvL A (tOp (rAdd3 K) ta tb) ρ (xs ++ ys) :=
  evn_addL (N := fun w => w = xs) (M := fun w => w = ys) (EvP.imp ha fun d e => ⟨xs, e, rfl⟩) (fun _ _ => EvP.imp hb fun d e => ⟨ys, e, rfl⟩) fun a b e1 e2 => by rw [e1, e2]; exact ⟨hz, rfl⟩
theorem ev_mulI (ha : EvD A ta ρ (.int i)) (hb : EvD A tb ρ (.int j)) (h : CM i j) : EvD A (tOp rMul2 ta tb) ρ (.int (i * j)) := ev_op ha hb (r2_val fun F H v w p hv hw =>
  ⟨_, da_int.mpr rfl, fun Q q => .inl ⟨i, j, da_int.mp hv, da_int.mp hw, h, q⟩⟩)
theorem das_rep {F : Hp} {vs : List V} (h : Das F xs vs) : ∀ n : Nat, Das F (List.replicate n xs).flatten (List.replicate n vs).flatten
  | 0 => .nil
  | n + 1 => by
    rw [List.replicate_succ, List.replicate_succ, List.flatten_cons, List.flatten_cons]
    exact h.append (das_rep h n)
theorem el_mulL (ha : EvD A ta ρ (.list xs)) (hb : EvD A tb ρ (.int j)) (h1 : j < 2 ^ 63) (h2 : -(2 ^ 63) ≤ j) (hz : xs.length * j.toNat ≤ sizeLine) : EvL A (tOp rMul2 ta tb) ρ (List.replicate j.toNat xs).flatten := fun σ F H e p Q c =>
  ha σ F H e p _ fun v x F1 H1 hx po1 dv => hb σ F1 H1 (e.mono po1.ff) (p.next po1) _ fun w y F2 H2 hy po2 dw => by
    subst hx hy
    have p2 := (p.next po1).next po2
    have hv := Da.mono po2.ff _ _ dv
    obtain ⟨a, us, rfl, ha, hx⟩ := da_list.mp hv
    rw [da_int.mp dw]
    have po := po1.trans p.am po2
    exact .inr ⟨a, j, us, rfl, rfl, p2.fh _ _ ha, h2, h1, by rw [hx.len]; exact hz, fun q hq => c q _ _ F2 _ rfl (po.trans p.am (Post.new0 p2 hq)) (pre_none p2 hq) (none_back p.am po.le po.am hq) upd_same (das_rep hx _)⟩
theorem ev_powI (ha : EvD A ta ρ (.int i)) (hb : EvD A tb ρ (.int j)) (h : CPow2 i j) : EvD A (tOp (rI CPow2 fun i j => .int (i ^ j.toNat)) ta tb) ρ (.int (i ^ j.toNat)) := ev_op ha hb (r2_I h)
theorem r2_l {r r' : R2} (h : R2P A r x y P) : R2P A (fun x y H Q => r x y H Q ∨ r' x y H Q) x y P := fun F H v w p hv hw Q c => .inl (h F H v w p hv hw Q c)
theorem r2_r {r r' : R2} (h : R2P A r' x y P) : R2P A (fun x y H Q => r x y H Q ∨ r' x y H Q) x y P := fun F H v w p hv hw Q c => .inr (h F H v w p hv hw Q c)
theorem ev_eq {n m n' m' : Nat} (ha : EvD A ta ρ x) (hb : EvD A tb ρ y) (hx : Nc n m x) (hy : Nc n' m' y) (h1 : n ≤ 64 := by decide) (h2 : n' ≤ 64 := by decide) : EvD A (tOp (rEq2 K) ta tb) ρ (.bool (PyData.eqv x y)) := ev_op ha hb (r2_r (r2_eq hx.nod hy.nod (hx.shaped h1) (hy.shaped h2)))
theorem ev_ne {n m n' m' : Nat} (ha : EvD A ta ρ x) (hb : EvD A tb ρ y) (hx : Nc n m x) (hy : Nc n' m' y) (h1 : n ≤ 64 := by decide) (h2 : n' ≤ 64 := by decide) : EvD A (tOp (rNe2 K) ta tb) ρ (.bool (!PyData.eqv x y)) := ev_op ha hb (r2_r (r2_ne hx.nod hy.nod (hx.shaped h1) (hy.shaped h2)))
theorem ev_eqI2 (ha : EvD A ta ρ (.int i)) (hb : EvD A tb ρ (.int j)) : EvD A (tOp (rEq2 K) ta tb) ρ (.bool (decide (i = j))) :=
  (ev_op ha hb (r2_l (r2_eqS (v := .int i) (w := .int j) (fun _ _ => da_int.mp) (fun _ _ => da_int.mp) rfl))).to (by simp)
theorem ev_neI2 (ha : EvD A ta ρ (.int i)) (hb : EvD A tb ρ (.int j)) : EvD A (tOp (rNe2 K) ta tb) ρ (.bool (!decide (i = j))) :=
  (ev_op ha hb (r2_l (r2_neS (v := .int i) (w := .int j) (fun _ _ => da_int.mp) (fun _ _ => da_int.mp) rfl))).to (by simp)
theorem ev_eqS2 {s t : Str} (ha : EvD A ta ρ (.str s)) (hb : EvD A tb ρ (.str t)) : EvD A (tOp (rEq2 K) ta tb) ρ (.bool (decide (s = t))) :=
  (ev_op ha hb (r2_l (r2_eqS (v := .str s) (w := .str t) (fun _ _ => da_str.mp) (fun _ _ => da_str.mp) rfl))).to (by simp)
theorem ev_neS2 {s t : Str} (ha : EvD A ta ρ (.str s)) (hb : EvD A tb ρ (.str t)) : EvD A (tOp (rNe2 K) ta tb) ρ (.bool (!decide (s = t))) :=
  (ev_op ha hb (r2_l (r2_neS (v := .str s) (w := .str t) (fun _ _ => da_str.mp) (fun _ _ => da_str.mp) rfl))).to (by simp)
theorem ev_eqB2 {s t : Bool} (ha : EvD A ta ρ (.bool s)) (hb : EvD A tb ρ (.bool t)) : EvD A (tOp (rEq2 K) ta tb) ρ (.bool (decide (s = t))) :=
  (ev_op ha hb (r2_l (r2_eqS (v := .bl s) (w := .bl t) (fun _ _ => da_bool.mp) (fun _ _ => da_bool.mp) rfl))).to (by simp)
theorem ev_neB2 {s t : Bool} (ha : EvD A ta ρ (.bool s)) (hb : EvD A tb ρ (.bool t)) : EvD A (tOp (rNe2 K) ta tb) ρ (.bool (!decide (s = t))) :=
  (ev_op ha hb (r2_l (r2_neS (v := .bl s) (w := .bl t) (fun _ _ => da_bool.mp) (fun _ _ => da_bool.mp) rfl))).to (by simp)
theorem r2_in {n m n' m' : Nat} (hx : Nc n m x) (hy : Nc n' m' (.list ds)) (h1 : n ≤ 64) (h2 : n' ≤ 64) {neg : Bool} : R2P A (rInT K neg) x (.list ds) (fun w => w = .bool (if neg then !ds.any fun z => PyData.eqv z x else ds.any fun z => PyData.eqv z x)) := r2_val fun F H v w p hv hw =>
  ⟨_, da_bool.mpr rfl, fun Q q => ⟨x, ds, Da.dp p.fh x v hx.nod hv, .inl (Da.dp p.fh _ w hy.nod hw), hx.shaped h1, hy.shaped h2, q⟩⟩
theorem r2_inT {n m n' m' : Nat} (hx : Nc n m x) (hy : Nc n' m' (.tuple ds)) (h1 : n ≤ 64) (h2 : n' ≤ 64) {neg : Bool} : R2P A (rInT K neg) x (.tuple ds) (fun w => w = .bool (if neg then !ds.any fun z => PyData.eqv z x else ds.any fun z => PyData.eqv z x)) := r2_val fun F H v w p hv hw =>
  ⟨_, da_bool.mpr rfl, fun Q q => ⟨x, ds, Da.dp p.fh x v hx.nod hv, .inr (Da.dp p.fh _ w hy.nod hw), hx.shaped h1, (by
    have := hy.shaped h2
    unfold SeqAt.shaped at this ⊢
    simp only [PyData.canLay0, PyData.depth] at this ⊢
    exact this), q⟩⟩
theorem ev_in_l {n m n' m' : Nat} (ha : EvD A ta ρ x) (hb : EvD A tb ρ (.list ds)) (hx : Nc n m x) (hy : Nc n' m' (.list ds)) (h1 : n ≤ 64 := by decide) (h2 : n' ≤ 64 := by decide) : EvD A (tOp (rInT K false) ta tb) ρ (.bool (ds.any fun z => PyData.eqv z x)) := (ev_op ha hb (r2_in hx hy h1 h2)).to (by simp)
theorem ev_in_t {n m n' m' : Nat} (ha : EvD A ta ρ x) (hb : EvD A tb ρ (.tuple ds)) (hx : Nc n m x) (hy : Nc n' m' (.tuple ds)) (h1 : n ≤ 64 := by decide) (h2 : n' ≤ 64 := by decide) : EvD A (tOp (rInT K false) ta tb) ρ (.bool (ds.any fun z => PyData.eqv z x)) := (ev_op ha hb (r2_inT hx hy h1 h2)).to (by simp)
theorem ev_ni_l {n m n' m' : Nat} (ha : EvD A ta ρ x) (hb : EvD A tb ρ (.list ds)) (hx : Nc n m x) (hy : Nc n' m' (.list ds)) (h1 : n ≤ 64 := by decide) (h2 : n' ≤ 64 := by decide) : EvD A (tOp (rInT K true) ta tb) ρ (.bool (!ds.any fun z => PyData.eqv z x)) := (ev_op ha hb (r2_in hx hy h1 h2)).to (by simp)
theorem ev_ni_t {n m n' m' : Nat} (ha : EvD A ta ρ x) (hb : EvD A tb ρ (.tuple ds)) (hx : Nc n m x) (hy : Nc n' m' (.tuple ds)) (h1 : n ≤ 64 := by decide) (h2 : n' ≤ 64 := by decide) : EvD A (tOp (rInT K true) ta tb) ρ (.bool (!ds.any fun z => PyData.eqv z x)) := (ev_op ha hb (r2_inT hx hy h1 h2)).to (by simp)

/-! ### items, slices -/
theorem atI_das {F : Hp} {vs : List V} (h : Das F xs vs) (ha : atI xs i = some d) : ∃ v, atI vs i = some v ∧ Da F d v := by
  unfold atI at ha ⊢
  rw [h.len]
  cases e : ixN xs.length i with
  | none => rw [e] at ha; cases ha
  | some j =>
    rw [e] at ha
    exact h.get (show xs[j]? = some d from ha)
theorem ev_ix_l (ha : EvD A ta ρ (.list xs)) (hb : EvD A tb ρ (.int i)) (h : atI xs i = some d) : EvD A (tOp (rIx2 K) ta tb) ρ d := ev_op ha hb (r2_val fun F H v w p hv hw => by
  obtain ⟨a, us, rfl, ha, hx⟩ := da_list.mp hv
  obtain ⟨u, h1, h2⟩ := atI_das hx h
  exact ⟨u, h2, fun Q q => .inl ⟨a, us, i, u, rfl, da_int.mp hw, SqL.of (p.fh _ _ ha), h1, q⟩⟩)
theorem ev_ix_t (ha : EvD A ta ρ (.tuple xs)) (hb : EvD A tb ρ (.int i)) (h : atI xs i = some d) : EvD A (tOp (rIx2 K) ta tb) ρ d := ev_op ha hb (r2_val fun F H v w p hv hw => by
  obtain ⟨a, us, rfl, ha, hx⟩ := da_tup.mp hv
  obtain ⟨u, h1, h2⟩ := atI_das hx h
  exact ⟨u, h2, fun Q q => .inr ⟨a, us, i, u, rfl, da_int.mp hw, SqT.of (p.fh _ _ ha), h1, q⟩⟩)
def EvO (A : Am) (to : TO) (ρ : List Ab) (o : Option Int) : Prop := ∀ σ F H, En A F ρ σ → Pre A F H → ∀ Q : Option Int → Hp → Prop, (∀ F' H', Post A F H F' H' → Q o H') → to σ H Q
theorem eo_none : EvO A tNoPart ρ none := fun σ F H e p Q c => c F H p.refl
theorem eo_some (h : EvD A te ρ (.int i)) : EvO A (tPart te) ρ (some i) := fun σ F H e p Q c => h σ F H e p _ fun v d F1 H1 hd po dv => by
  subst hd
  exact ⟨i, da_int.mp dv, c F1 H1 po⟩
def cutD (xs : List PyData) (lo hi : Option Int) : List PyData := (xs.drop (HT.sIx xs.length 0 lo)).take (HT.sIx xs.length xs.length hi - HT.sIx xs.length 0 lo)
theorem das_cut {F : Hp} {vs : List V} {lo hi : Option Int} (h : Das F xs vs) : Das F (cutD xs lo hi) (cutV vs lo hi) := by
  unfold cutD cutV
  rw [h.len]
  exact (h.drop _).take _
theorem cut_whole {xs : List PyData} {lo hi : Option Int} (h : HT.sIx xs.length 0 lo = 0 ∧ HT.sIx xs.length xs.length hi = xs.length) : cutD xs lo hi = xs := by
  unfold cutD
  rw [h.1, h.2, Nat.sub_zero, List.drop_zero, List.take_length]
theorem ev_sl_t {lo hi : Option Int} (ha : EvD A ta ρ (.tuple xs)) (h1 : EvO A tl ρ lo) (h2 : EvO A th ρ hi) : EvD A (tSl (rSl2 K) ta tl th) ρ (.tuple (cutD xs lo hi)) := fun σ F H e p Q c =>
  ha σ F H e p _ fun v x F1 H1 hx po1 dv => h1 σ F1 H1 (e.mono po1.ff) (p.next po1) _ fun F2 H2 po2 => h2 σ F2 H2 ((e.mono po1.ff).mono po2.ff) ((p.next po1).next po2) _ fun F3 H3 po3 => by
    subst hx
    have p3 := ((p.next po1).next po2).next po3
    have po := (po1.trans p.am po2).trans p.am po3
    have hv := Da.mono (fun a o h => po3.ff _ _ (po2.ff _ _ h)) _ _ dv
    obtain ⟨a, us, rfl, ha, hx⟩ := da_tup.mp hv
    refine .inr ⟨a, us, rfl, SqT.of (p3.fh _ _ ha), fun hw => ?_, fun _ q hq => ?_⟩
    · rw [hx.len] at hw
      exact c _ _ F3 H3 (by rw [cut_whole hw]) po hv
    · exact c _ _ (upd F3 q (.tup (cutV us lo hi))) _ rfl (po.trans p.am (Post.new p3 hq)) (da_tup.mpr ⟨q, _, rfl, upd_same, (das_cut hx).mono (le_upd (pre_none p3 hq))⟩)
theorem evn_sl_l {N M : List PyData → Prop} {lo hi : Option Int} (ha : EvP A ta ρ (fun d => ∃ xs, d = .list xs ∧ N xs)) (h1 : EvO A tl ρ lo) (h2 : EvO A th ρ hi) (hM : ∀ xs, N xs → M (cutD xs lo hi)) : EvN A (tSl (rSl2 K) ta tl th) ρ M := fun σ F H e p Q c =>
  ha σ F H e p _ fun v x F1 H1 ⟨xs, hx, hn⟩ po1 dv => h1 σ F1 H1 (e.mono po1.ff) (p.next po1) _ fun F2 H2 po2 => h2 σ F2 H2 ((e.mono po1.ff).mono po2.ff) ((p.next po1).next po2) _ fun F3 H3 po3 => by
    subst hx
    have p3 := ((p.next po1).next po2).next po3
    have po := (po1.trans p.am po2).trans p.am po3
    have hv := Da.mono (fun a o h => po3.ff _ _ (po2.ff _ _ h)) _ _ dv
    obtain ⟨a, us, rfl, ha, hx⟩ := da_list.mp hv
    exact .inl ⟨a, us, rfl, SqL.of (p3.fh _ _ ha), fun q hq => c q _ _ F3 _ (hM xs hn) (po.trans p.am (Post.new0 p3 hq)) (pre_none p3 hq) (none_back p.am po.le po.am hq) upd_same (das_cut hx)⟩
theorem el_sl_l {lo hi : Option Int} (ha : EvD A ta ρ (.list xs)) (h1 : EvO A tl ρ lo) (h2 : EvO A th ρ hi) : EvL A (tSl (rSl2 K) ta tl th) ρ (cutD xs lo hi) :=
  evn_sl_l (N := fun w => w = xs) (EvP.imp ha fun d e => ⟨xs, e, rfl⟩) h1 h2 fun w e => by rw [e]

/-! ### defs -/
def spOf (n : Nat) (R : Am → List Ab → (PyData → Prop) → Prop) : Sp := fun vs H Q _ => vs.length = n ∧ ∃ A F bs P, Vas A F bs vs ∧ Pre A F H ∧ R A bs P ∧ ∀ v d F' H', P d → Post A F H F' H' → Da F' d v → Q v H'
theorem evp_call {n : Nat} {R : Am → List Ab → (PyData → Prop) → Prop} {E : XK} {N : List Ab → Prop} (h : EvA A tas ρ N) (hn : ∀ bs, N bs → bs.length = n ∧ R A bs P) : EvP A (tCall (spOf n R) [] E tas) ρ P := fun σ F H e p Q c =>
  h σ F H e p _ fun vs bs F1 H1 hb po hv => by
    obtain ⟨h1, h2⟩ := hn bs hb
    have hl : ∀ {bs : List Ab} {vs : List V}, Vas A F1 bs vs → vs.length = bs.length := by
      intro bs
      induction bs with
      | nil => intro vs h; rw [show vs = [] from h] <;> rfl
      | cons b bs ih =>
        rintro vs ⟨y, ys, rfl, _, t⟩
        rw [List.length_cons, List.length_cons, ih t]
    show spOf n R (vs ++ []) H1 Q E
    rw [List.append_nil]
    exact ⟨by rw [hl hv, h1], A, F1, bs, P, hv, p.next po, h2, fun v d F2 H2 hd po2 dv => c v d F2 H2 hd (po.trans p.am po2) dv⟩
theorem ev_call {n : Nat} {R : Am → List Ab → (PyData → Prop) → Prop} {E : XK} {bs : List Ab} (h : EvA A tas ρ (fun w => w = bs)) (hn : bs.length = n) (hR : R A bs (fun w => w = z)) : EvD A (tCall (spOf n R) [] E tas) ρ z :=
  evp_call h fun _ e => by rw [e]; exact ⟨hn, hR⟩
end
theorem en_start {A : Am} {F : Hp} {N : List Str} {bs : List Ab} {vs : List V} (h : Vas A F bs vs) (n : Nat) (hn : N.length - vs.length = n) : En A F (bs ++ List.replicate n .no) (L2.start N vs) := by
  have key : ∀ {bs : List Ab} {vs : List V}, Vas A F bs vs → En A F (bs ++ List.replicate n .no) (vs.map some ++ List.replicate n none) := by
    intro bs
    induction bs with
    | nil =>
      intro vs h
      have e : vs = [] := h
      subst e
      refine ⟨by simp, fun i b hb => ?_⟩
      have hb : (List.replicate n Ab.no)[i]? = some b := hb
      have hi : i < n := by
        have := (List.getElem?_eq_some_iff.mp hb).1
        simpa using this
      rw [List.getElem?_replicate_of_lt hi] at hb
      cases hb
      exact ⟨none, by simp [hi], trivial⟩
    | cons b bs ih =>
      rintro vs ⟨y, ys, rfl, h1, t⟩
      have k := ih t
      refine ⟨by simpa using k.len, fun i c hc => ?_⟩
      cases i with
      | zero =>
        have hc : b = c := by simpa using hc
        subst hc
        refine ⟨some y, by simp, ?_⟩
        cases b with
        | dat d => exact ⟨y, rfl, h1⟩
        | src =>
          have h1 : y = .ref A.root := h1
          rw [h1]
          exact rfl
        | no => exact trivial
        | own _ => exact trivial
        | tab _ => exact trivial
      | succ i =>
        obtain ⟨o, h2, h3⟩ := k.at_ i c (by simpa using hc)
        exact ⟨o, by simpa using h2, h3⟩
  unfold L2.start
  rw [hn]
  exact key h
section
variable {P : Program} {w : World} {K : PySem.W.Frag} {mg : Str → Option Value} {base : Heap}
theorem vas_noT {A : Am} {F : Hp} : ∀ {bs : List Ab} {vs : List V}, Vas A F bs vs → ∀ b ∈ bs, ∀ d, b ≠ .tab d
  | [], _, _, b, hb, _ => absurd hb (by simp)
  | c :: bs, vs, ⟨y, ys, e, h1, t⟩, b, hb, d => by
    rcases List.mem_cons.mp hb with rfl | hb
    · intro e
      rw [e] at h1
      exact h1
    · exact vas_noT t b hb d
theorem vas_no {A : Am} {F : Hp} : ∀ {bs : List Ab} {vs : List V}, Vas A F bs vs → ∀ b ∈ bs, ∀ ds, b ≠ .own ds
  | [], _, _, b, hb, _ => absurd hb (by simp)
  | c :: bs, vs, ⟨y, ys, e, h1, t⟩, b, hb, ds => by
    rcases List.mem_cons.mp hb with rfl | hb
    · intro e
      rw [e] at h1
      exact h1
    · exact vas_no t b hb ds
/-- THE RULE for a def of data -/
theorem fn_run {x qual : Str} {st : Stmt} {f : Addr} {fd : FuncData} {N ps : List Str} {k n : Nat} {R : Am → List Ab → (PyData → Prop) → Prop} (Fd : Fun K x qual st f fd) (S : FnScope N ps (defScope st)) (hn : ps.length = n)
    (body : ∀ (cdv : Value) (A : Around) (outer : List Env) (s : Shared) (H : Hp) (E : XK), A.guards = some [] → Room k (A.deeper (PyProof.Rows.envOfC qual (defScope st) s.heap.objs.size f cdv)) →
      ∃ t, PSs (cxOf CX0 P w K mg base N qual (defScope st) f cdv A outer s H E).nox (defBody st) t ∧ ∀ (M : Am) (bs : List Ab) (Q : PyData → Prop), R M bs Q → bs.length = n → Run M t (bs ++ List.replicate (N.length - n) .no) { nx := fun _ => Q .none, rt := Q }) :
    FnG P w K mg base CX0 (k + 1) f fd ps (spOf n R) := by
  refine fng_of Fd S (fun vs H Q E h => h.1.trans hn.symm) (fun cdv A outer s H vs Q E hgu hr h => ?_)
  obtain ⟨t, ht, hrun⟩ := body cdv A outer s H E hgu hr
  obtain ⟨hl, M, F, bs, P', hv, p, hR, c⟩ := h
  have hb : bs.length = n := by
    have : ∀ {bs : List Ab} {vs : List V}, Vas M F bs vs → vs.length = bs.length := by
      intro bs
      induction bs with
      | nil => intro vs h; rw [show vs = [] from h] <;> rfl
      | cons b bs ih =>
        rintro vs ⟨y, ys, rfl, _, t⟩
        rw [List.length_cons, List.length_cons, ih t]
    rw [← this hv, hl]
  refine ⟨t, ht.nox, hrun M bs P' hR hb F F H (L2.start N vs) F H _ ⟨fun _ _ h => h, en_start hv _ (by rw [hl]), p, p.refl, fun i ds hi => ?_, fun i j ds es a hi => ?_, fun i d hi => ?_, fun i j d e a hi => ?_⟩ ⟨fun ρ σ F' H' hq o => c _ _ F' H' hq o.post (da_none.mpr rfl), fun _ _ _ _ h _ => h.elim, fun _ _ _ _ h _ => h.elim, fun v d F' H' hd po dv => c v d F' H' hd po dv⟩⟩
  · exfalso
    rcases List.mem_append.mp (List.mem_of_getElem? hi) with h | h
    · exact vas_no hv _ h ds rfl
    · have := List.eq_of_mem_replicate h
      cases this
  · exfalso
    rcases List.mem_append.mp (List.mem_of_getElem? hi) with h | h
    · exact vas_no hv _ h ds rfl
    · have := List.eq_of_mem_replicate h
      cases this
  · exfalso
    rcases List.mem_append.mp (List.mem_of_getElem? hi) with h | h
    · exact vas_noT hv _ h d rfl
    · have := List.eq_of_mem_replicate h
      cases this
  · exfalso
    rcases List.mem_append.mp (List.mem_of_getElem? hi) with h | h
    · exact vas_noT hv _ h d rfl
    · have := List.eq_of_mem_replicate h
      cases this
end
end Pu

/-! The source of the laws: a dict with a list of cells. -/
namespace Pu
open PySem L2
theorem hgu_of {A : Around} {env : Env} (h : A.guards = some []) : (A.deeper env).guards = some [] := h
theorem hu65_of {k : Nat} {A : Around} (r : Room k A) : A.units + 65 < cLine := by have := r.un; omega
theorem hrep_of {k : Nat} {A : Around} (r : Room k A) : A.units + 70 < cLine := by have := r.un; omega
def srcD (l : Addr) (left mixed turn : Int) : List (Key × V) := [(.inr "cells", .ref l), (.inr "left", .int left), (.inr "mixed", .int mixed), (.inr "turn", .int turn)]
def SrcOk (p l : Addr) (H : Hp) : Prop := p ≠ l ∧ ∃ (cells : List Int) (left mixed turn : Int), H p = some (.dK (srcD l left mixed turn)) ∧ H l = some (.lst (cells.map V.int)) ∧ (∀ c ∈ cells, 0 ≤ c) ∧ 0 ≤ left ∧ 0 ≤ mixed ∧ mixed < 2147483647 ∧ 0 ≤ turn ∧ SysOk H
def srcAm (p l : Addr) : Am where
  root := p
  dom := fun a => a = p ∨ a = l ∨ a = sysModules
  ok := SrcOk p l
  tr := fun H a h hd => by
    obtain ⟨_, cells, left, mixed, turn, h1, h2, _, _, _, _, _, o, u, h3⟩ := h
    rcases hd with rfl | rfl | rfl
    · rw [h1]; exact fun z => nomatch z
    · rw [h2]; exact fun z => nomatch z
    · rw [h3]; exact fun z => nomatch z
  loc := fun H H' k h => by
    obtain ⟨ne, cells, left, mixed, turn, h1, h2, h3, h4, h5, h6, h7, o, u, h8⟩ := h
    exact ⟨ne, cells, left, mixed, turn, k p _ (.inl rfl) h1, k l _ (.inr (.inl rfl)) h2, h3, h4, h5, h6, h7, o, u, k _ _ (.inr (.inr rfl)) h8⟩
def IsSrc (M : Am) : Prop := ∃ p l, M = srcAm p l
/-- nothing may be changed -/
def am0 : Am := ⟨0, fun _ => False, fun _ => True, fun _ _ _ h => h.elim, fun _ _ _ _ => trivial⟩
def R_pick : Am → List Ab → (PyData → Prop) → Prop := fun M bs P => IsSrc M ∧ ∃ m : Int, bs = [.src, .dat (.int m)] ∧ m < 2 ^ 30 ∧ P = fun d => ∃ i : Int, d = .int i ∧ 0 ≤ i ∧ i < max 1 m
theorem key_cells (l : Addr) (a b c : Int) : valV (srcD l a b c) (.inr "cells" : Key) = some (.ref l) := rfl
theorem key_left (l : Addr) (a b c : Int) : valV (srcD l a b c) (.inr "left" : Key) = some (.int a) := rfl
theorem key_mixed (l : Addr) (a b c : Int) : valV (srcD l a b c) (.inr "mixed" : Key) = some (.int b) := rfl
theorem key_turn (l : Addr) (a b c : Int) : valV (srcD l a b c) (.inr "turn" : Key) = some (.int c) := rfl
theorem put_left (l : Addr) (a b c z : Int) : putK (srcD l a b c) (.inr "left" : Key) (.int z) = srcD l z b c := rfl
theorem put_mixed (l : Addr) (a b c z : Int) : putK (srcD l a b c) (.inr "mixed" : Key) (.int z) = srcD l a z c := rfl
theorem put_turn (l : Addr) (a b c z : Int) : putK (srcD l a b c) (.inr "turn" : Key) (.int z) = srcD l a b z := rfl
end Pu

/-! The reader of the source, walked once. -/
namespace Pu
open PySem L2
structure S0 (p l : Addr) (Hb H : Hp) (cells : List Int) (left mixed turn : Int) : Prop where
  d : H p = some (.dK (srcD l left mixed turn))
  c : H l = some (.lst (cells.map V.int))
  ne : p ≠ l
  bc : ∀ c ∈ cells, 0 ≤ c
  bl : 0 ≤ left
  bm : 0 ≤ mixed
  bm2 : mixed < 2147483647
  bt : 0 ≤ turn
  sy : SysOk H
  fr : ∀ a, a ≠ p → a ≠ l → H a = Hb a
section
variable {p l : Addr} {Hb H : Hp} {cells : List Int} {left mixed turn : Int} {σ : L2.St}
theorem S0.ok (s : S0 p l Hb H cells left mixed turn) : SrcOk p l H := ⟨s.ne, cells, left, mixed, turn, s.d, s.c, s.bc, s.bl, s.bm, s.bm2, s.bt, s.sy⟩
theorem S0.sp (s : S0 p l Hb H cells left mixed turn) : sysModules ≠ p := fun z => by
  obtain ⟨o, u, h⟩ := s.sy
  rw [z, s.d] at h
  cases h
theorem S0.sl (s : S0 p l Hb H cells left mixed turn) : sysModules ≠ l := fun z => by
  obtain ⟨o, u, h⟩ := s.sy
  rw [z, s.c] at h
  cases h
theorem sys_upd {H : Hp} {q : Addr} {x : HO} (h : SysOk H) (n : sysModules ≠ q) : SysOk (upd H q x) := by
  obtain ⟨o, u, h⟩ := h
  exact ⟨o, u, by rw [upd_ne n]; exact h⟩
theorem S0.g {k : Key} {v : V} (s : S0 p l Hb H cells left mixed turn) (hσ : σ[0]? = some (some (.ref p))) (hk : valV (srcD l left mixed turn) k = some v) {ks : Str} (e : k = .inr ks) (Q : VK) (q : Q v H) : tDGet (tVar 0) (tC (V.str ks)) σ H Q := by
  subst e
  exact ⟨_, hσ, p, v, rfl, by rw [← hk]; exact DGet.k (k := Sum.inr ks) s.d, q⟩
theorem S0.pl (s : S0 p l Hb H cells left mixed turn) {z : Int} (hz : 0 ≤ z) : S0 p l Hb (upd H p (.dK (srcD l z mixed turn))) cells z mixed turn :=
  ⟨upd_same, by rw [upd_ne (Ne.symm s.ne)]; exact s.c, s.ne, s.bc, hz, s.bm, s.bm2, s.bt, sys_upd s.sy s.sp, fun a h1 h2 => by rw [upd_ne h1]; exact s.fr a h1 h2⟩
theorem S0.pt (s : S0 p l Hb H cells left mixed turn) {z : Int} (hz : 0 ≤ z) : S0 p l Hb (upd H p (.dK (srcD l left mixed z))) cells left mixed z :=
  ⟨upd_same, by rw [upd_ne (Ne.symm s.ne)]; exact s.c, s.ne, s.bc, s.bl, s.bm, s.bm2, hz, sys_upd s.sy s.sp, fun a h1 h2 => by rw [upd_ne h1]; exact s.fr a h1 h2⟩
theorem S0.pm (s : S0 p l Hb H cells left mixed turn) {z : Int} (hz : 0 ≤ z) (h2 : z < 2147483647) : S0 p l Hb (upd H p (.dK (srcD l left z turn))) cells left z turn :=
  ⟨upd_same, by rw [upd_ne (Ne.symm s.ne)]; exact s.c, s.ne, s.bc, s.bl, hz, h2, s.bt, sys_upd s.sy s.sp, fun a h1 h2 => by rw [upd_ne h1]; exact s.fr a h1 h2⟩
theorem S0.pop (s : S0 p l Hb H (cells ++ [z]) left mixed turn) : S0 p l Hb (upd H l (.lst (cells.map V.int))) cells left mixed turn :=
  ⟨by rw [upd_ne s.ne]; exact s.d, upd_same, s.ne, fun c hc => s.bc c (List.mem_append_left _ hc), s.bl, s.bm, s.bm2, s.bt, sys_upd s.sy s.sl, fun a h1 h2 => by rw [upd_ne h2]; exact s.fr a h1 h2⟩
theorem putv {v : V} {k : Key} {kvs : List (Key × V)} (s : H p = some (.dK kvs)) {ks : Str} (e : k = .inr ks) (hl : kvs.length < sizeLine) : DPut H p (.str ks) v (upd H p (.dK (putK kvs k v))) := by
  subst e
  exact DPut.k (k := Sum.inr ks) s hl
end
def pickTS (K : PySem.W.Frag) : TS :=
  tSeq
    (tWhile
      (tAnd (tTest (tOp (rI0 fun i j => V.bl (decide (j < i))) (tVar 1) (tC (V.int 1))))
        (tAnd (tTest (tOp (rI0 fun i j => V.bl (decide (i < j))) (tDGet (tVar 0) (tC (V.str "left"))) (tC (V.int 2))))
          (tTest (tOp (rI0 fun i j => V.bl (decide (j < i))) (tCB (rLen K) (tCons (tDGet (tVar 0) (tC (V.str "cells"))) tNil)) (tC (V.int 0))))))
      (sDPut (tVar 0) (tC (V.str "left")) (tBM0 K "list" rPop (tDGet (tVar 0) (tC (V.str "cells"))))))
    (tSeq (tAsg (tDGet (tVar 0) (tC (V.str "left"))) (gName 2))
      (tSeq
        (tIfS
          (tOr (tTest (tOp (rI0 fun i j => V.bl (decide (i < j))) (tVar 1) (tC (V.int 2)))) (tTest (tOp (rI0 fun i j => V.bl (decide (j < i))) (tVar 2) (tC (V.int 1)))))
          (tSeq
            (sDPut (tVar 0) (tC (V.str "left")) (tOp (rI CDivW fun i j => V.int (i / j)) (tVar 2) (tCB rMx2 (tCons (tC (V.int 1)) (tCons (tVar 1) tNil)))))
            (tRet (tOp (rI (fun _ j => 0 < j) fun i j => V.int (i % j)) (tCB rInt1 (tCons (tVar 2) tNil)) (tCB rMx2 (tCons (tC (V.int 1)) (tCons (tVar 1) tNil))))))
          tNext)
        (tSeq (sDPut (tVar 0) (tC (V.str "turn")) (tOp (rAdd3 K) (tDGet (tVar 0) (tC (V.str "turn"))) (tC (V.int 1))))
          (tSeq
            (tAsg (tOp (rI (fun _ j => 0 < j) fun i j => V.int (i % j)) (tCB rInt1 (tCons (tOp (rAdd3 K) (tDGet (tVar 0) (tC (V.str "mixed"))) (tOp rMul2 (tDGet (tVar 0) (tC (V.str "turn"))) (tC (V.int 104729)))) tNil)) (tC (V.int 998244353))) (gName 3))
            (tSeq
              (tAsg (tOp (rI (fun _ j => 0 < j) fun i j => V.int (i % j)) (tCB rInt1 (tCons (tOp (rAdd3 K) (tOp rMul2 (tVar 3) (tVar 3)) (tOp rMul2 (tDGet (tVar 0) (tC (V.str "turn"))) (tC (V.int 17)))) tNil)) (tC (V.int 2147483647))) (gName 3))
              (tSeq (sDPut (tVar 0) (tC (V.str "mixed")) (tVar 3))
                (tRet (tOp (rI (fun _ j => 0 < j) fun i j => V.int (i % j)) (tCB rInt1 (tCons (tOp (rI CDivW fun i j => V.int (i / j)) (tVar 3) (tC (V.int 16))) tNil)) (tVar 1)))))))))
theorem log2_30 {m : Int} (h0 : 0 < m) (h : m < 2 ^ 30) : CDivW i m := wide_div h0 (b := 30) (by omega) (by decide) (by decide)
theorem run_pick {K : PySem.W.Frag} {M : Am} {bs : List Ab} {Q : PyData → Prop} (hR : R_pick M bs Q) : Run M (pickTS K) (bs ++ [.no, .no]) { nx := fun _ => Q .none, rt := Q } := by
  obtain ⟨⟨p, l, rfl⟩, m, rfl, hm, rfl⟩ := hR
  intro G F0 H0 σ F H D o en
  obtain ⟨o0, e0, h0⟩ := o.en.at_ 0 .src rfl
  obtain ⟨o1, e1, v1, rfl, h1⟩ := o.en.at_ 1 (.dat (.int m)) rfl
  have h0 : o0 = some (.ref p) := h0
  subst h0
  rw [da_int.mp h1] at e1
  have hlen : σ.length = 4 := o.en.len
  obtain ⟨ne, cells, left, mixed, turn, d1, d2, d3, d4, d5, d6, d7, d8⟩ := o.pre.am
  have s0 : S0 p l H H cells left mixed turn := ⟨d1, d2, ne, d3, d4, d5, d6, d7, d8, fun _ _ _ => rfl⟩
  -- the end: any state of the source
  have fin : ∀ {H' : Hp} {cells left mixed turn} {i : Int}, S0 p l H H' cells left mixed turn → 0 ≤ i → i < max 1 m → D.rt (.int i) H' := by
    intro H' cells left mixed turn i s hi hi2
    refine en.rt (.int i) (.int i) F H' ⟨i, rfl, hi, hi2⟩ (o.post.trans o.pre0.am ⟨fun a x h n => ?_, fun _ _ h => h, fun a x h => ?_, fun _ _ h => .inl h, s.ok⟩) (da_int.mpr rfl)
    · rw [s.fr a (fun z => n (.inl z)) (fun z => n (.inr (.inl z)))]
      exact h
    · have n1 : a ≠ p := fun z => by
        rw [o.pre.fa a (.inl z)] at h
        cases h
      have n2 : a ≠ l := fun z => by
        rw [o.pre.fa a (.inr (.inl z))] at h
        cases h
      rw [s.fr a n1 n2]
      exact o.pre.fh a x h
  -- the while
  refine ⟨fun n σ' H' => σ' = σ ∧ ∃ cells left mixed turn, cells.length = n ∧ S0 p l H H' cells left mixed turn, ⟨cells.length, rfl, cells, left, mixed, turn, rfl, s0⟩, ?_⟩
  rintro n σ' H1 ⟨hσ', cells, left, mixed, turn, hn, s1⟩
  rw [hσ']
  -- behind the while
  have tail : ∀ {H1 : Hp} {cells left mixed turn}, S0 p l H H1 cells left mixed turn → tSeq (tAsg (tDGet (tVar 0) (tC (V.str "left"))) (gName 2))
      (tSeq
        (tIfS
          (tOr (tTest (tOp (rI0 fun i j => V.bl (decide (i < j))) (tVar 1) (tC (V.int 2)))) (tTest (tOp (rI0 fun i j => V.bl (decide (j < i))) (tVar 2) (tC (V.int 1)))))
          (tSeq
            (sDPut (tVar 0) (tC (V.str "left")) (tOp (rI CDivW fun i j => V.int (i / j)) (tVar 2) (tCB rMx2 (tCons (tC (V.int 1)) (tCons (tVar 1) tNil)))))
            (tRet (tOp (rI (fun _ j => 0 < j) fun i j => V.int (i % j)) (tCB rInt1 (tCons (tVar 2) tNil)) (tCB rMx2 (tCons (tC (V.int 1)) (tCons (tVar 1) tNil))))))
          tNext)
        (tSeq (sDPut (tVar 0) (tC (V.str "turn")) (tOp (rAdd3 K) (tDGet (tVar 0) (tC (V.str "turn"))) (tC (V.int 1))))
          (tSeq
            (tAsg (tOp (rI (fun _ j => 0 < j) fun i j => V.int (i % j)) (tCB rInt1 (tCons (tOp (rAdd3 K) (tDGet (tVar 0) (tC (V.str "mixed"))) (tOp rMul2 (tDGet (tVar 0) (tC (V.str "turn"))) (tC (V.int 104729)))) tNil)) (tC (V.int 998244353))) (gName 3))
            (tSeq
              (tAsg (tOp (rI (fun _ j => 0 < j) fun i j => V.int (i % j)) (tCB rInt1 (tCons (tOp (rAdd3 K) (tOp rMul2 (tVar 3) (tVar 3)) (tOp rMul2 (tDGet (tVar 0) (tC (V.str "turn"))) (tC (V.int 17)))) tNil)) (tC (V.int 2147483647))) (gName 3))
              (tSeq (sDPut (tVar 0) (tC (V.str "mixed")) (tVar 3))
                (tRet (tOp (rI (fun _ j => 0 < j) fun i j => V.int (i % j)) (tCB rInt1 (tCons (tOp (rI CDivW fun i j => V.int (i / j)) (tVar 3) (tC (V.int 16))) tNil)) (tVar 1)))))))) D σ H1 := by
    intro H1 cells left mixed turn s
    refine s.g e0 (key_left ..) rfl _ ?_
    -- left is at 2
    show tSeq _ _ D (σ.set 2 (some (V.int left))) H1
    generalize hσ2 : σ.set 2 (some (V.int left)) = σ2
    have k0 : σ2[0]? = some (some (.ref p)) := by rw [← hσ2, List.getElem?_set_ne (by decide)]; exact e0
    have k1 : σ2[1]? = some (some (.int m)) := by rw [← hσ2, List.getElem?_set_ne (by decide)]; exact e1
    have k2 : σ2[2]? = some (some (.int left)) := by rw [← hσ2, List.getElem?_set_self (by omega)]
    have hl2 : σ2.length = 4 := by rw [← hσ2, List.length_set, hlen]
    refine ⟨_, k1, _, _, rfl, rfl, _, rfl, ?_⟩
    have mx : (if m > 1 then m else 1) = max 1 m := by omega
    have yes : tSeq (sDPut (tVar 0) (tC (V.str "left")) (tOp (rI CDivW fun i j => V.int (i / j)) (tVar 2) (tCB rMx2 (tCons (tC (V.int 1)) (tCons (tVar 1) tNil)))))
            (tRet (tOp (rI (fun _ j => 0 < j) fun i j => V.int (i % j)) (tCB rInt1 (tCons (tVar 2) tNil)) (tCB rMx2 (tCons (tC (V.int 1)) (tCons (tVar 1) tNil))))) D σ2 H1 := by
      refine ⟨_, k2, _, k1, 1, m, rfl, left, _, rfl, rfl, log2_30 (by omega) (by omega), _, k0, p, _, rfl, putv s.d rfl (by show 4 < sizeLine; decide), ?_⟩
      rw [mx]
      have s2 := s.pl (z := left / max 1 m) (Int.ediv_nonneg s.bl (by omega))
      refine ⟨_, k2, .inl ⟨left, rfl, _, k1, 1, m, rfl, left, _, rfl, rfl, ?_, ?_⟩⟩
      · omega
      · rw [mx]
        exact fin s2 (Int.emod_nonneg _ (by omega)) (Int.emod_lt_of_pos _ (by omega))
    by_cases hm2 : m < 2
    · rw [decide_eq_true hm2]
      exact yes
    · rw [decide_eq_false hm2]
      refine ⟨_, k2, _, _, rfl, rfl, _, rfl, ?_⟩
      by_cases hl : 1 < left
      · rw [decide_eq_true hl]
        exact yes
      · rw [decide_eq_false hl]
        -- turn + 1
        refine s.g k0 (key_turn ..) rfl _ (.inl ⟨turn, 1, rfl, rfl, _, k0, p, _, rfl, putv s.d rfl (by show 4 < sizeLine; decide), ?_⟩)
        have s3 := s.pt (z := turn + 1) (by have := s.bt; omega)
        show tSeq _ _ D σ2 _
        refine S0.g s3 k0 (key_mixed ..) rfl _ (S0.g s3 k0 (key_turn ..) rfl _ (.inl ⟨turn + 1, 104729, rfl, rfl, .inl (.inr ⟨by decide, by decide⟩), .inl ⟨mixed, _, rfl, rfl, .inl ⟨_, rfl, _, _, rfl, rfl, (by decide : (0 : Int) < 998244353), ?_⟩⟩⟩))
        show tSeq _ _ D (σ2.set 3 (some (V.int ((mixed + (turn + 1) * 104729) % 998244353)))) _
        generalize hx : (mixed + (turn + 1) * 104729) % 998244353 = x
        have hx0 : 0 ≤ x := by rw [← hx]; exact Int.emod_nonneg _ (by decide)
        have hx1 : x < 998244353 := by rw [← hx]; exact Int.emod_lt_of_pos _ (by decide)
        generalize hσ3 : σ2.set 3 (some (V.int x)) = σ3
        have j0 : σ3[0]? = some (some (.ref p)) := by rw [← hσ3, List.getElem?_set_ne (by decide)]; exact k0
        have j1 : σ3[1]? = some (some (.int m)) := by rw [← hσ3, List.getElem?_set_ne (by decide)]; exact k1
        have j3 : σ3[3]? = some (some (.int x)) := by rw [← hσ3, List.getElem?_set_self (by omega)]
        have hl3 : σ3.length = 4 := by rw [← hσ3, List.length_set, hl2]
        refine ⟨_, j3, _, j3, .inl ⟨x, x, rfl, rfl, .inl (.inl ⟨by omega, by omega⟩), S0.g s3 j0 (key_turn ..) rfl _ (.inl ⟨turn + 1, 17, rfl, rfl, .inl (.inr ⟨by decide, by decide⟩), .inl ⟨_, _, rfl, rfl, .inl ⟨_, rfl, _, _, rfl, rfl, (by decide : (0 : Int) < 2147483647), ?_⟩⟩⟩)⟩⟩
        show tSeq _ _ D (σ3.set 3 (some (V.int ((x * x + (turn + 1) * 17) % 2147483647)))) _
        generalize hy : (x * x + (turn + 1) * 17) % 2147483647 = y
        have hy0 : 0 ≤ y := by rw [← hy]; exact Int.emod_nonneg _ (by decide)
        have hy1 : y < 2147483647 := by rw [← hy]; exact Int.emod_lt_of_pos _ (by decide)
        generalize hσ4 : σ3.set 3 (some (V.int y)) = σ4
        have i0 : σ4[0]? = some (some (.ref p)) := by rw [← hσ4, List.getElem?_set_ne (by decide)]; exact j0
        have i1 : σ4[1]? = some (some (.int m)) := by rw [← hσ4, List.getElem?_set_ne (by decide)]; exact j1
        have i3 : σ4[3]? = some (some (.int y)) := by rw [← hσ4, List.getElem?_set_self (by omega)]
        refine ⟨_, i3, _, i0, p, _, rfl, putv s3.d rfl (by show 4 < sizeLine; decide), ?_⟩
        have s4 := s3.pm hy0 hy1
        refine ⟨_, i3, _, _, rfl, rfl, ⟨by decide, by decide⟩, .inl ⟨_, rfl, _, i1, _, _, rfl, rfl, by omega, ?_⟩⟩
        exact fin s4 (Int.emod_nonneg _ (by omega)) (Int.lt_of_lt_of_le (Int.emod_lt_of_pos _ (by omega)) (by omega))
  refine ⟨_, e1, _, _, rfl, rfl, _, rfl, ?_⟩
  by_cases hm1 : 1 < m
  · rw [decide_eq_true hm1]
    refine s1.g e0 (key_left ..) rfl _ ⟨_, _, rfl, rfl, _, rfl, ?_⟩
    by_cases hl : left < 2
    · rw [decide_eq_true hl]
      refine s1.g e0 (key_cells ..) rfl _ ⟨_, _, rfl, .inl (SqL.of s1.c), _, _, rfl, rfl, _, rfl, ?_⟩
      rw [List.length_map]
      by_cases hc : (0 : Int) < (cells.length : Int)
      · rw [decide_eq_true hc]
        have hne : cells ≠ [] := fun z => by rw [z] at hc; exact absurd hc (by decide)
        obtain ⟨cs, c, rfl⟩ : ∃ cs c, cells = cs ++ [c] := ⟨cells.dropLast, cells.getLast hne, (List.dropLast_concat_getLast hne).symm⟩
        refine ⟨fun σ' H' => σ' = σ ∧ ∃ left, S0 p l H H' cs left mixed turn, fun σ' H' ⟨h1, left, h2⟩ => ⟨cs.length, by rw [← hn, List.length_append]; exact Nat.lt_succ_self _, h1, cs, left, mixed, turn, rfl, h2⟩, ?_⟩
        have s2 := s1.pop
        refine s1.g e0 (key_cells ..) rfl _ ⟨.inl ⟨rfl, _, SqL.of s1.c⟩, l, _, .int c, rfl, rfl, s1.c, ?_, ?_⟩
        · rw [List.length_map, List.length_append, List.map_append, List.length_singleton, Nat.add_sub_cancel]
          simp
        · rw [List.map_append, List.map_singleton, List.dropLast_concat]
          refine ⟨_, e0, p, _, rfl, putv s2.d rfl (by show 4 < sizeLine; decide), rfl, c, ?_⟩
          exact s2.pl (s1.bc c (List.mem_append_right _ List.mem_cons_self))
      · rw [decide_eq_false hc]
        exact tail s1
    · rw [decide_eq_false hl]
      exact tail s1
  · rw [decide_eq_false hm1]
    exact tail s1
end Pu

/-! The source made. -/
namespace Pu
open PySem L2
def spSource (K : PySem.W.Frag) : Sp := fun vs H Q _ => ∃ (s : Addr) (ns : List Int), vs = [.ref s] ∧ SqL K H s (ns.map V.int) ∧ ns.length ≤ 63 ∧ SysOk H ∧
  ∀ p l H', (∀ a o, H a = some o → H' a = some o) → H p = none → H l = none → SrcOk p l H' → Q (.ref p) H'
def sourceTS (K : PySem.W.Frag) : TS :=
  tSeq (tAsg (tC (V.int 11)) (gName 1))
    (tSeq
      (tFor (iSeq K (tVar 0)) (gName 2)
        (tAsg (tOp (rI (fun _ j => 0 < j) fun i j => V.int (i % j)) (tCB rInt1 (tCons (tOp (rAdd3 K) (tOp (rAdd3 K) (tOp rMul2 (tVar 1) (tC (V.int 69069))) (tOp rMul2 (tVar 2) (tC (V.int 31)))) (tC (V.int 5))) tNil)) (tC (V.int 2147483629))) (gName 1)))
      (tRet (tDisp [(tC (V.str "cells"), tRevL K (tLc (iSeq K (tVar 0)) (gName 2) tYes (tCB rAbs (tCons (tVar 2) tNil)) [2])), (tC (V.str "left"), tC (V.int 1)), (tC (V.str "mixed"), tVar 1), (tC (V.str "turn"), tC (V.int 0))])))
theorem seq_up {K : PySem.W.Frag} {H H' : Hp} {a : Addr} {xs : List V} (e : ∀ a o, H a = some o → H' a = some o) (h : SqL K H a xs) : SqL K H' a xs := Same.seq e h
theorem src_read {K : PySem.W.Frag} {s : Addr} {ns : List Int} {H : Hp} {Q : VK} (hS : SqL K H s (ns.map V.int)) (hn : ns.length ≤ 63) (hSy : SysOk H) (q : ∀ p l H', (∀ a o, H a = some o → H' a = some o) → H p = none → H l = none → SrcOk p l H' → Q (.ref p) H') (D : Ends) (hD : D.rt = Q) : sourceTS K D [some (.ref s), none, none] H := by
  show tSeq _ _ D [some (.ref s), some (.int 11), none] H
  refine ⟨.ref s, rfl, s, rfl, .inl ⟨⟨_, hS⟩, for_list (K := K) (a := s) (xs := ns.map V.int) (fun i σ H' => H' = H ∧ ∃ (m : Int) (c : Option V), σ = [some (.ref s), some (.int m), c] ∧ 0 ≤ m ∧ m < 2147483647)
    ⟨rfl, 11, none, rfl, by decide, by decide⟩ (fun i σ H' _ h => by rw [h.1]; exact hS) ?_ ?_⟩⟩
  · rintro i x σ H' hx ⟨rfl, m, c, rfl, h0, h1⟩
    obtain ⟨z, rfl⟩ : ∃ z, x = V.int z := by
      rw [List.getElem?_map] at hx
      cases e : ns[i]? with
      | none => rw [e] at hx; cases hx
      | some z => rw [e] at hx; exact ⟨z, (Option.some.inj hx).symm⟩
    refine ⟨_, rfl, .inl ⟨m, 69069, rfl, rfl, .inl (.inr ⟨by decide, by decide⟩), _, rfl, .inl ⟨z, 31, rfl, rfl, .inl (.inr ⟨by decide, by decide⟩), .inl ⟨_, _, rfl, rfl, .inl ⟨_, 5, rfl, rfl, .inl ⟨_, rfl, _, _, rfl, rfl, (by decide : (0 : Int) < 2147483629), ?_⟩⟩⟩⟩⟩⟩
    exact ⟨rfl, _, _, rfl, Int.emod_nonneg _ (by decide), Int.lt_of_lt_of_le (Int.emod_lt_of_pos _ (by decide)) (by decide)⟩
  · rintro σ H' ⟨rfl, m, c, rfl, h0, h1⟩
    intro p hp
    have n0 : ∀ a o, H' a = some o → upd H' p (.dK []) a = some o := fun a o h => by
      rw [upd_ne (ne_of_none h hp)]
      exact h
    -- the cells
    refine ⟨.ref s, rfl, s, rfl, .inl ⟨⟨_, seq_up n0 hS⟩, fun L hL => ?_⟩⟩
    have n1 : ∀ {Hx : Hp} {acc : List V}, (∀ a o, upd H' p (.dK []) a = some o → a ≠ L → Hx a = some o) → ∀ a o, H' a = some o → Hx a = some o := fun {Hx acc} h a o e => h a o (n0 a o e) (ne_of_none (n0 a o e) hL)
    refine lc_list (K := K) (a := s) (xs := ns.map V.int) (fun i Hx => Hx L = some (.lst (((ns.take i).map fun z => if z < 0 then -z else z).map V.int)) ∧ ∀ a, a ≠ L → Hx a = upd H' p (.dK []) a) ⟨by rw [upd_same] <;> rfl, fun a h => by rw [upd_ne h]⟩
      (fun i Hx _ h => seq_up (fun a o e => by rw [h.2 a (ne_of_none e hL)]; exact e) (seq_up n0 hS)) ?_ ?_
    · rintro i x Hx hx ⟨hL1, hL2⟩
      obtain ⟨z, hz, rfl⟩ : ∃ z, ns[i]? = some z ∧ x = V.int z := by
        rw [List.getElem?_map] at hx
        cases e : ns[i]? with
        | none => rw [e] at hx; cases hx
        | some z => rw [e] at hx; exact ⟨z, rfl, (Option.some.inj hx).symm⟩
      have hi : i < ns.length := (List.getElem?_eq_some_iff.mp hz).1
      refine ⟨rfl, _, rfl, z, rfl, _, hL1, ?_, ?_, fun a h => by rw [upd_ne h]; exact hL2 a h⟩
      · rw [List.length_map, List.length_map, List.length_take]
        exact small1000 (by omega)
      · rw [upd_same, List.take_add_one, hz]
        simp
    · rintro Hx ⟨hL1, hL2⟩
      rw [List.length_map, List.take_length] at hL1
      have hLp : L ≠ p := fun z => by
        rw [z, upd_same] at hL
        cases hL
      refine ⟨L, _, rfl, SqL.of hL1, fun M hM => ?_⟩
      have hMp : M ≠ p := fun z => by
        rw [z, hL2 p (Ne.symm hLp), upd_same] at hM
        cases hM
      refine ⟨_, rfl, ?_⟩
      have pk : (upd Hx M (.lst ((ns.map fun z => if z < 0 then -z else z).map V.int).reverse)) p = some (.dK []) := by
        rw [upd_ne (Ne.symm hMp), hL2 p (Ne.symm hLp), upd_same]
      refine ⟨pk, srcD M 1 m 0, rfl, by show 4 ≤ 15; decide, ?_⟩
      rw [hD]
      have e : mergeK [] (srcD M 1 m 0) = srcD M 1 m 0 := rfl
      rw [e]
      have up : ∀ a o, H' a = some o → (upd (upd Hx M (.lst ((ns.map fun z => if z < 0 then -z else z).map V.int).reverse)) p (.dK (srcD M 1 m 0))) a = some o := fun a o h => by
        have a1 : a ≠ p := ne_of_none h hp
        have a2 : a ≠ L := ne_of_none (n0 a o h) hL
        have a3 : Hx a = some o := by rw [hL2 a a2]; exact n0 a o h
        rw [upd_ne a1, upd_ne (ne_of_none a3 hM)]
        exact a3
      refine q p M _ up hp ?_ ?_
      · cases e : H' M with
        | none => rfl
        | some o =>
          have : Hx M = some o := by
            rw [hL2 M (ne_of_none (n0 M o e) hL)]
            exact n0 M o e
          rw [this] at hM
          cases hM
      · refine ⟨Ne.symm hMp, ((ns.map fun z => if z < 0 then -z else z)).reverse, 1, m, 0, upd_same, ?_, ?_, by decide, h0, h1, by decide, by obtain ⟨o, u, h⟩ := hSy; exact ⟨o, u, up _ _ h⟩⟩
        · rw [upd_ne hMp, upd_same, List.map_reverse]
        · intro c hc
          obtain ⟨z, hz, rfl⟩ := List.mem_map.mp (List.mem_reverse.mp hc)
          split <;> omega
end Pu

/-! More rules by data, in the forms that a search takes. -/
namespace Pu
open PySem L2
section
variable {A : Am} {ρ : List Ab} {te ta tb tc : TE} {tt tu : TT} {tas : TA} {tl th : TO} {P P' P1 P2 : PyData → Prop} {B B1 B2 : Bool → Prop} {d d1 d2 x y z : PyData} {ds xs ys : List PyData} {b b1 b2 : Bool} {i j k : Int} {K : PySem.W.Frag}
theorem el_frz (h : EvL A te ρ ds) : EvD A te ρ (.list ds) := h.frz
theorem ea_cons' {bs : List Ab} (h : EvD A te ρ x) (hr : EvA A tas ρ (fun w => w = bs)) : EvA A (tCons te tas) ρ (fun w => w = .dat x :: bs) := ea_cons h hr
/-- displays of one, two, .. items -/
theorem ev_tup2 (h1 : EvD A ta ρ x) (h2 : EvD A tb ρ y) : EvD A (tTup (tCons ta (tCons tb tNil))) ρ (.tuple [x, y]) := ev_tup (ds := [x, y]) (ea_cons h1 (ea_cons h2 ea_nil)) (by show 2 ≤ sizeLine; decide)
theorem ev_tup1 (h1 : EvD A ta ρ x) : EvD A (tTup (tCons ta tNil)) ρ (.tuple [x]) := ev_tup (ds := [x]) (ea_cons h1 ea_nil) (by show 1 ≤ sizeLine; decide)
theorem ev_tup0 : EvD A (tTup tNil) ρ (.tuple []) := ev_tup (ds := []) ea_nil (by show 0 ≤ sizeLine; decide)
theorem el_lst0 : EvL A (tLst tNil) ρ [] := ev_lst (ds := []) ea_nil (by show 0 ≤ sizeLine; decide)
theorem el_lst1 (h1 : EvD A ta ρ x) : EvL A (tLst (tCons ta tNil)) ρ [x] := ev_lst (ds := [x]) (ea_cons h1 ea_nil) (by show 1 ≤ sizeLine; decide)
theorem el_lst2 (h1 : EvD A ta ρ x) (h2 : EvD A tb ρ y) : EvL A (tLst (tCons ta (tCons tb tNil))) ρ [x, y] := ev_lst (ds := [x, y]) (ea_cons h1 (ea_cons h2 ea_nil)) (by show 2 ≤ sizeLine; decide)
theorem el_lst3 (h1 : EvD A ta ρ x) (h2 : EvD A tb ρ y) (h3 : EvD A tc ρ z) : EvL A (tLst (tCons ta (tCons tb (tCons tc tNil)))) ρ [x, y, z] := ev_lst (ds := [x, y, z]) (ea_cons h1 (ea_cons h2 (ea_cons h3 ea_nil))) (by show 3 ≤ sizeLine; decide)
/-- any display: the arguments' data by a list -/
inductive EvAs (A : Am) (ρ : List Ab) : TA → List PyData → Prop
  | nil : EvAs A ρ tNil []
  | cons {te : TE} {ts : TA} {d : PyData} {ds : List PyData} : EvD A te ρ d → EvAs A ρ ts ds → EvAs A ρ (tCons te ts) (d :: ds)
theorem EvAs.ea (h : EvAs A ρ tas ds) : EvA A tas ρ (fun bs => bs = ds.map Ab.dat) := by
  induction h with
  | nil => exact ea_nil
  | cons h1 _ ih => exact ea_cons h1 ih
theorem ev_tupN (h : EvAs A ρ tas ds) (hl : ds.length ≤ sizeLine) : EvD A (tTup tas) ρ (.tuple ds) := ev_tup h.ea hl
theorem el_lstN (h : EvAs A ρ tas ds) (hl : ds.length ≤ sizeLine) : EvL A (tLst tas) ρ ds := ev_lst h.ea hl
/-- what is walked, as a map -/
theorem ei_l {α : Type} {as : List α} {en : α → PyData} (h : EvD A te ρ (.list (as.map en))) : EvI A (iSeq K te) ρ (fun w => w = as.map en) := ei_lst h
theorem ei_t {α : Type} {as : List α} {en : α → PyData} (h : EvD A te ρ (.tuple (as.map en))) : EvI A (iSeq K te) ρ (fun w => w = as.map en) := ei_tup h
theorem ei_r1 (h : EvD A te ρ (.int j)) (h1 : -(2 ^ 62) ≤ j) (h2 : j < 2 ^ 62) : EvI A (iRng1 (tCons te tNil)) ρ (fun w => w = (List.range j.toNat).map fun i : Nat => PyData.int (i : Int)) := by
  have e : rngD 0 j.toNat = (List.range j.toNat).map fun i : Nat => PyData.int (i : Int) := by
    unfold rngD
    apply List.map_congr_left
    intro i _
    rw [Int.zero_add]
  have := ei_rng1 (ea_cons h ea_nil) h1 h2
  rw [e] at this
  exact this
theorem ei_r2 (h : EvD A ta ρ (.int i)) (h' : EvD A tb ρ (.int j)) (h1 : -(2 ^ 62) ≤ i ∧ i < 2 ^ 62 ∧ -(2 ^ 62) ≤ j ∧ j < 2 ^ 62) : EvI A (iRng2 (tCons ta (tCons tb tNil))) ρ (fun w => w = (List.range (j - i).toNat).map fun k : Nat => PyData.int (i + (k : Int))) := ei_rng2 (ea_cons h (ea_cons h' ea_nil)) h1
/-- chains: 0 <= x < y -/
theorem ev_chain {r r' : R2} (ha : EvD A ta ρ x) (hb : EvD A tb ρ y) (hr : R2P A r x y (fun w => w = .bool b1)) (hc : b1 = true → EvD A tc ρ z) (hr' : b1 = true → R2P A r' y z (fun w => w = .bool b2)) : EvD A (tChain r r' ta tb tc) ρ (.bool (b1 && b2)) := fun σ F H e p Q c =>
  ha σ F H e p _ fun v x' F1 H1 hx po1 dv => hb σ F1 H1 (e.mono po1.ff) (p.next po1) _ fun w y' F2 H2 hy po2 dw => by
    subst hx hy
    have p2 := (p.next po1).next po2
    have po := po1.trans p.am po2
    refine hr F2 H2 v w p2 (Da.mono po2.ff _ _ dv) dw _ fun u d3 F3 H3 hd po3 du => ?_
    subst hd
    refine ⟨b1, da_bool.mp du, ?_⟩
    have po' := po.trans p.am po3
    cases b1 with
    | false =>
      rw [if_neg Bool.false_ne_true]
      exact c _ _ F3 H3 rfl po' (da_bool.mpr rfl)
    | true =>
      rw [if_pos rfl]
      refine hc rfl σ F3 H3 (e.mono po'.ff) (p.next po') _ fun w' z' F4 H4 hz po4 dz => ?_
      subst hz
      exact hr' rfl F4 H4 w w' ((p.next po').next po4) (Da.mono (fun a o h => po4.ff _ _ (po3.ff _ _ h)) _ _ dw) dz Q fun q d5 F5 H5 hd5 po5 dq => c q d5 F5 H5 (by rw [hd5]; simp) ((po'.trans p.am po4).trans p.am po5) dq
theorem r2_lt : R2P A (rI0 fun i j => .bl (decide (i < j))) (.int i) (.int j) (fun w => w = .bool (decide (i < j))) := r2_B0
theorem r2_le : R2P A (rI0 fun i j => .bl (decide (i ≤ j))) (.int i) (.int j) (fun w => w = .bool (decide (i ≤ j))) := r2_B0

/-- comprehensions, as the search takes them -/
theorem hl_of {l : List (Nat × PyData)} {vs : List Nat} (h : (l.all fun q => decide (q.1 ∈ vs)) = true) : ∀ q ∈ l, q.1 ∈ vs := fun q hq => of_decide_eq_true (List.all_eq_true.mp h q hq)
theorem el_lc {α : Type} {wi : TI} {g : TG} {vs : List Nat} {as : List α} {en : α → PyData} {l : α → List (Nat × PyData)} {p : α → Bool} {f : α → PyData} (hi : EvI A wi ρ (fun w => w = as.map en)) (hg : ∀ a ∈ as, TgP g (en a) (l a)) (hl : ∀ a ∈ as, ((l a).all fun q => decide (q.1 ∈ vs)) = true)
    (ht : ∀ a ∈ as, EvT A tt (setA (wipeA ρ vs) (l a)) (p a)) (hv : ∀ a ∈ as, p a = true → EvD A te (setA (wipeA ρ vs) (l a)) (f a)) (hz : as.length < sizeLine) : EvL A (tLc wi g tt te vs) ρ ((as.filter p).map f) :=
  ev_lc hi hg (fun a ha => hl_of (hl a ha)) ht hv hz
theorem el_lc1 {α : Type} {wi : TI} {g : TG} {vs : List Nat} {as : List α} {en : α → PyData} {l : α → List (Nat × PyData)} {f : α → PyData} (hi : EvI A wi ρ (fun w => w = as.map en)) (hg : ∀ a ∈ as, TgP g (en a) (l a)) (hl : ∀ a ∈ as, ((l a).all fun q => decide (q.1 ∈ vs)) = true)
    (hv : ∀ a ∈ as, EvD A te (setA (wipeA ρ vs) (l a)) (f a)) (hz : as.length < sizeLine) : EvL A (tLc wi g tYes te vs) ρ (as.map f) :=
  ev_lc1 hi hg (fun a ha => hl_of (hl a ha)) hv hz
theorem is_evp (h : EvP A te ρ P) : EvP A te ρ P := h
theorem is_evn {N : List PyData → Prop} (h : EvN A te ρ N) : EvN A te ρ N := h
theorem is_evb (h : EvB A tt ρ B) : EvB A tt ρ B := h
theorem is_evi {wi : TI} {N : List PyData → Prop} (h : EvI A wi ρ N) : EvI A wi ρ N := h
theorem is_eva {N : List Ab → Prop} (h : EvA A tas ρ N) : EvA A tas ρ N := h
theorem is_evas (h : EvAs A ρ tas ds) : EvAs A ρ tas ds := h
theorem is_evo {to : TO} {o : Option Int} (h : EvO A to ρ o) : EvO A to ρ o := h
theorem is_tg {g : TG} {l : List (Nat × PyData)} (h : TgP g d l) : TgP g d l := h
theorem is_tgs {g : TGs} {l : List (Nat × PyData)} (h : TgsP g ds l) : TgsP g ds l := h

/-! ### statements, told forms -/
variable {C : Ct} {t u : TS} {n m : Nat}
theorem run_setD (h : EvD A te ρ d) (hn : C.nx (ρ.set n (.dat d))) : Run A (tAsg te (gName n)) ρ C := run_set h fun _ e => by rw [e]; exact hn
theorem run_setL (hi : n < ρ.length) (h : EvL A te ρ ds) (hn : C.nx (ρ.set n (.own ds))) : Run A (tAsg te (gName n)) ρ C := run_setN hi h fun _ e => by rw [e]; exact hn
theorem run_asgD {g : TG} {l : List (Nat × PyData)} (h : EvD A te ρ d) (hg : TgP g d l) (hn : C.nx (setA ρ l)) : Run A (tAsg te g) ρ C := run_asg h fun _ e => by rw [e]; exact ⟨l, hg, hn⟩
theorem run_ifD (h : EvT A tt (ρ.map fz) b) (h1 : b = true → Run A t ρ C) (h2 : b = false → Run A u ρ C) : Run A (tIfS tt t u) ρ C := run_if h (fun e => h1 e.symm) (fun e => h2 e.symm)
theorem run_retD (h : EvD A te (ρ.map fz) d) (hr : C.rt d) : Run A (tRet te) ρ C := run_ret h fun _ e => by rw [e]; exact hr
/-- a, b = x, y -/
theorem run_par (h : EvAs A ρ (tCons ta (tCons tb tNil)) [x, y]) (hn : C.nx ((ρ.set n (.dat x)).set m (.dat y))) : Run A (tPar n m (tCons ta (tCons tb tNil))) ρ C := fun G F0 H0 σ F H D o e =>
  h.ea σ F H o.en o.pre _ fun vs bs F1 H1 hb po hv => by
    subst hb
    obtain ⟨v, w, ev, hv1, hw1⟩ := vas2 hv
    subst ev
    have o1 := (o.step po).setD n hv1
    have o2 := o1.setD m hw1
    exact ⟨v, w, rfl, e.nx _ _ F1 H1 hn o2⟩
theorem run_parP {N : PyData → PyData → Prop} (h : EvP A ta ρ P1) (h' : ∀ x, P1 x → EvP A tb ρ (fun y => N x y)) (hn : ∀ x y, P1 x → N x y → C.nx ((ρ.set n (.dat x)).set m (.dat y))) : Run A (tPar n m (tCons ta (tCons tb tNil))) ρ C := fun G F0 H0 σ F H D o e =>
  h σ F H o.en o.pre _ fun v x F1 H1 hx po1 dv => h' x hx σ F1 H1 (o.en.mono po1.ff) (o.pre.next po1) _ fun w y F2 H2 hy po2 dw =>
    have o1 := ((o.step po1).step po2).setD n (Da.mono po2.ff _ _ dv)
    ⟨v, w, rfl, e.nx _ _ F2 H2 (hn x y hx hy) (o1.setD m dw)⟩
/-- the second a new list of one's own -/
theorem run_parPN {N : PyData → List PyData → Prop} (hm : m < ρ.length) (h : EvP A ta ρ P1) (h' : ∀ x, P1 x → EvN A tb ρ (fun y => N x y)) (hn : ∀ x y, P1 x → N x y → C.nx ((ρ.set n (.dat x)).set m (.own y))) : Run A (tPar n m (tCons ta (tCons tb tNil))) ρ C := fun G F0 H0 σ F H D o e =>
  h σ F H o.en o.pre _ fun v x F1 H1 hx po1 dv => h' x hx σ F1 H1 (o.en.mono po1.ff) (o.pre.next po1) _ fun a vs ds F2 H2 hy po2 f2 h0 ha dw => by
    have oa := (o.step po1).step po2
    have o1 := oa.setD n (Da.mono po2.ff _ _ dv)
    have h00 : H0 a = none := none_back o.pre0.am (o.step po1).post.le (o.step po1).post.am h0
    refine ⟨v, .ref a, rfl, e.nx _ _ F2 H2 (hn x ds hx hy) (o1.setN m (by rw [List.length_set]; exact hm) ha f2 h00 dw fun j es nj hj z => ?_)⟩
    rcases set_some hj with ⟨_, e'⟩ | ⟨nn, hj⟩
    · cases e'
    · rw [List.getElem?_set_ne (fun z => nn z.symm)] at z
      obtain ⟨b, us, k1, k2, _⟩ := (o.step po1).ow j es hj
      rw [k1] at z
      cases z
      rw [h0] at k2
      cases k2
/-- while -/
theorem run_while (I : Nat → List Ab → Prop) (h0 : ∃ k, I k ρ) (hs : ∀ k ρ', I k ρ' → ∃ B : Bool → Prop, EvB A tt (ρ'.map fz) B ∧ (B true → Run A t ρ' { nx := fun ρ2 => ∃ k', k' < k ∧ I k' ρ2, ct := fun ρ2 => ∃ k', k' < k ∧ I k' ρ2, bk := C.nx, rt := C.rt }) ∧ (B false → C.nx ρ')) : Run A (tWhile tt t) ρ C := fun G F0 H0 σ F H D o e => by
  obtain ⟨k0, hk0⟩ := h0
  refine ⟨fun k σ' H' => ∃ ρ' F', I k ρ' ∧ Ok A G F0 H0 ρ' σ' F' H', ⟨k0, ρ, F, hk0, o⟩, ?_⟩
  rintro k σ' H' ⟨ρ', F', hI, o'⟩
  obtain ⟨B, hB, h1, h2⟩ := hs k ρ' hI
  refine hB σ' _ H' o'.frz.en o'.frz.pre _ fun b F1 H1 hb po => ?_
  have o1 := o'.step (po.thaw o'.frz_le o'.pre)
  cases b with
  | false => exact e.nx ρ' σ' F' H1 (h2 hb) o1
  | true =>
    refine ⟨fun σ2 H2 => ∃ k', k' < k ∧ ∃ ρ2 F2, I k' ρ2 ∧ Ok A G F0 H0 ρ2 σ2 F2 H2, fun σ2 H2 h => h, ?_⟩
    refine h1 hb G F0 H0 σ' F' H1 _ o1 ⟨?_, fun ρ3 σ3 F3 H3 h3 o3 => e.nx ρ3 σ3 F3 H3 h3 o3, ?_, e.rt⟩
    · rintro ρ2 σ2 F2 H2 ⟨k', hk', hI2⟩ o2
      exact ⟨k', hk', ρ2, F2, hI2, o2⟩
    · rintro ρ2 σ2 F2 H2 ⟨k', hk', hI2⟩ o2
      exact ⟨k', hk', ρ2, F2, hI2, o2⟩
/-- x += e -/
theorem run_aug {i j : Int} (hi : ρ[n]? = some (.dat (.int i))) (h : EvD A te ρ (.int j)) (hn : C.nx (ρ.set n (.dat (.int (i + j))))) : Run A (tAug n te (ipI fun i j => i + j)) ρ C := fun G F0 H0 σ F H D o e => by
  obtain ⟨ov, e1, v, rfl, hv⟩ := o.en.at_ n _ hi
  rw [da_int.mp hv] at e1
  refine ⟨_, e1, h σ F H o.en o.pre _ fun w d F1 H1 hd po dw => ?_⟩
  subst hd
  exact ⟨i, j, rfl, da_int.mp dw, e.nx _ _ F1 H1 hn ((o.step po).setD n (da_int.mpr rfl))⟩
/-- xs[i] = e, xs one's own -/
theorem run_put {K : PySem.W.Frag} {ti : TE} {P2 : PyData → Prop} (ho : ρ[n]? = some (.own ds)) (h : EvP A te ρ P1) (h2 : ∀ x, P1 x → EvP A ti ρ P2) (hn : ∀ x k, P1 x → P2 k → ∃ j : Nat, k = .int j ∧ j < ds.length ∧ ds.length < 2 ^ 62 ∧ C.nx (ρ.set n (.own (ds.set j x)))) : Run A (tAsg te (gSub (tVar n) ti rSetL)) ρ C := fun G F0 H0 σ F H D o e =>
  h σ F H o.en o.pre _ fun v x F1 H1 hx po1 dv => by
    have o1 := o.step po1
    obtain ⟨a, vs, k1, _⟩ := o.ow n ds ho
    refine ⟨_, k1, h2 x hx σ F1 H1 o1.en o1.pre _ fun w k F2 H2 hk po2 dw => ?_⟩
    have o2 := o1.step po2
    obtain ⟨a', vs', q1, q2, q3, q4, q5⟩ := o2.ow n ds ho
    rw [k1] at q1
    cases q1
    obtain ⟨j, rfl, hj, hz, hn⟩ := hn x k hx hk
    have hl := q5.len
    have hix : ixN vs'.length (j : Int) = some j := by
      unfold ixN
      rw [if_pos (by omega), if_pos (by omega), Int.toNat_natCast]
    exact ⟨a, vs', _, j, rfl, da_int.mp dw, q2, hix, e.nx _ σ F2 _ hn (o2.chg (vs := vs') ho k1 q3 q4 (q5.set j (Da.mono po2.ff _ _ dv)))⟩
end
end Pu

/-! enumerate over a list or a tuple, with a pair of names. -/
namespace PySem
open Sem (wp)
theorem meets_enum1 {v : Value} {o : Obj} {H : Heap → Prop} (B : Begins v o H) :
    Meets (Builtin.«enumerate.__new__» ⟨[.type "enumerate", v], []⟩) (fun _ R s => H s.heap ∧
      R (.ok (.ret (.ref (s.heap.push o).objs.size))) { s with heap := (s.heap.push o).push { cls := .type "enumerate", data := .fields #[.none, .bool false, .ref s.heap.objs.size, rawInt 0, .none, .none] } }) :=
  .of_wp fun prog w A R s h => by
    obtain ⟨hp, g, d, tk, os⟩ := s
    obtain ⟨h1, h⟩ := h
    have hsub := sub_enumerate
    have q1 : ∀ {A' : Around} {E : Value → Shared → Prop} {Q : Value → Shared → Prop}, Q (.ref hp.objs.size) ⟨hp.push o, g, d, tk, os⟩ → wpAny (model prog w) A' (pyIter v) Q E ⟨hp, g, d, tk, os⟩ := fun q => B.iter prog w _ _ ⟨hp, g, d, tk, os⟩ _ h1 q
    wp_walk using q1
    refine wpAny_stack_any (fun st => wpAny_pure ?_)
    split
    · rename_i c _ _ _ _ _
      cases (c == Value.type "enumerate")
      · wp_walk using q1
        exact ⟨_, rfl, h⟩
      · wp_walk using q1
        exact ⟨_, rfl, h⟩
    · wp_walk using q1
      exact ⟨_, rfl, h⟩
theorem call_enum1 {prog : Program} {w : World} {A : Around} {E : Value → Shared → Prop} {s : Shared} {v : Value} {o : Obj} {H : Heap → Prop} {Q : Value → Shared → Prop} (B : Begins v o H) (h1 : H s.heap)
    (h : ∀ h', IsEnum h' (s.heap.objs.size + 1) s.heap.objs.size 0 .none → h'.get? s.heap.objs.size = some o → (∀ b o, s.heap.get? b = some o → h'.get? b = some o) → Q (.ref (s.heap.objs.size + 1)) { s with heap := h' }) :
    wpAny (model prog w) A (call (.type "enumerate") [v]) Q E s := by
  refine callType_new F.called_enumerate (by decide) (F.typeCall_enumerate_1 _) (F.newCall_enumerate_1 _) (fun obj => F.args_object_init_2 obj _) F.entry_enumerate_new (meets_enum1 B) ⟨h1, ?_⟩
  have hz : (s.heap.push o).objs.size = s.heap.objs.size + 1 := Heap.size_push ..
  show _ ∧ _
  rw [hz]
  have he : IsEnum ((s.heap.push o).push { cls := .type "enumerate", data := .fields #[.none, .bool false, .ref s.heap.objs.size, rawInt 0, .none, .none] }) (s.heap.objs.size + 1) s.heap.objs.size 0 .none := by
    have k := Heap.get?_push_size (s.heap.push o) (o := { cls := .type "enumerate", data := .fields #[.none, .bool false, .ref s.heap.objs.size, rawInt 0, .none, .none] }) rfl
    rw [hz] at k
    exact k
  exact ⟨⟨_, he, rfl⟩, h _ he (Heap.get?_push_of_some _ (Heap.get?_push_size _ B.free)) (fun b o x => Heap.get?_push_of_some _ (Heap.get?_push_of_some _ x))⟩
end PySem
namespace Pu
open PySem PySem.Spec PyProof.Rows L2
/-- the tuple at a, its items with their numbers, in new pairs -/
def Itet (K : PySem.W.Frag) (a : Addr) : It :=
  ⟨fun i H => ∃ (xs : List V) (x : V), SqT K H a xs ∧ xs[i]? = some x, fun i H v H' => ∃ T x, v = .ref T ∧ H T = none ∧ H' = upd H T (.tup [.int (i : Nat), x]) ∧ ∀ xs, SqT K H a xs → xs[i]? = some x, fun i H => ∃ xs : List V, SqT K H a xs ∧ xs.length = i⟩
theorem turn_enumT {P : Program} {w : World} {K : PySem.W.Frag} {elts : List Expr} {kk : Nat} {tpos : Pos} (a e it : Addr) :
    Turn P w K (.Tuple elts kk tpos) (Itet K a) [e, it] e (fun i h => (∃ old, IsEnum h e it ((i : Nat) : Int) old) ∧ h.IsTupleIter it a i ∧ e ≠ it) where
  mem := by simp
  obj := fun i h st b hb => by
    obtain ⟨⟨old, he⟩, ⟨o, ho, hc, hd⟩, _⟩ := st
    rcases (by simpa using hb : b = e ∨ b = it) with z | z
    · rw [z]
      exact ⟨_, he, fun v q => nomatch q⟩
    · rw [z]
      exact ⟨o, ho, fun v q => by rw [hd] at q; cases q⟩
  keep := fun i h h' st k => by
    obtain ⟨⟨old, he⟩, hi, hne⟩ := st
    exact ⟨⟨old, k e (by simp) _ he⟩, hi.at (fun o q => k it (by simp) o q), hne⟩
  item := by
    intro X hP hw hK hc i pins s σ H E I hf st hg
    subst hP hw hK
    obtain ⟨⟨old, he⟩, hit, hne⟩ := st
    obtain ⟨xs, x, hq, hx⟩ := hg
    obtain ⟨its, rv, p, hz⟩ := I.tuple hq
    obtain ⟨u, hu, ru⟩ := rv.get hx
    have hel : e < s.heap.objs.size := Heap.lt_size he
    have hil : it < s.heap.objs.size := by
      obtain ⟨_, q, _⟩ := hit
      exact Heap.lt_size q
    have hti : a ≠ it := by
      intro z
      subst z
      obtain ⟨o1, q1, c1, _⟩ := hit
      obtain ⟨o2, q2, c2, _⟩ := p
      rw [q1] at q2
      cases q2
      rw [c1] at c2
      exact absurd c2 (by decide)
    have hei : i < its.toArray.size := by
      have := (List.getElem?_eq_some_iff.mp hu).1
      simpa using this
    have D := Draws.tuple (prog := X.prog) (w := X.w) (A := X.A.in1) (I.ok.hd hc) it a hti its.toArray
    have hea : e ∉ [it, a] := by
      intro z
      rcases (by simpa using z : e = it ∨ e = a) with z | z
      · exact hne z
      · subst z
        obtain ⟨o2, q2, c2, _⟩ := p
        rw [he] at q2
        cases q2
        exact Value.noConfusion c2 (fun q => absurd q (by decide))
    refine wpAny_pyNext_enum_itemD D he ⟨hit, p⟩ hei hne hea (fun u' h' tk hu' ho hit' hT hsz hk => ?_)
    have eu : u' = u := by
      have : its.toArray[i]? = some u := by simpa using hu
      rw [this] at hu'
      exact (Option.some.inj hu').symm
    subst eu
    refine ⟨_, rfl, wpAny_letOwnedTupleGo_enum (s := { s with heap := h', toks := tk + 1 }) ho (fun h'' he' sb => ?_)⟩
    have hT2 : h''.get? s.heap.objs.size = some { cls := .type "tuple", data := .seq #[.int i tk, u'] } := (sb.2 _ (Nat.ne_of_gt hel)).trans hT
    have new : ObjOk X.prog X.w (upd H s.heap.objs.size (.tup [.int (i : Nat), x])) h'' s.heap.objs.size (.tup [.int (i : Nat), x]) :=
      ⟨by show 2 ≤ sizeLine; decide, [.int i tk, u'], .cons ⟨_, rfl⟩ (.cons ru .nil), ⟨_, hT2, rfl, _, rfl⟩⟩
    have I1 : Inv X pins σ (upd H s.heap.objs.size (.tup [.int (i : Nat), x])) { s with heap := h'', toks := tk + 1 } :=
      I.turnedNew (ch := [e, it]) (fun b ob hb q => (sb.2 b (fun z => hb (by simp [z]))).trans (hk b ob (fun z => hb (by simp [z])) (fun z => hb (by simp [z])) q)) hf (Nat.le_refl _) new
    refine ⟨.ref s.heap.objs.size, _, I1, rfl, ⟨_, x, rfl, I.hok.fresh (Nat.le_refl _), rfl, fun ys hy => by rw [I.tuple_inj hy hq]; exact hx⟩, ⟨⟨u', ?_⟩, hit'.1.at (fun o q => (sb.2 it (Ne.symm hne)).trans q), hne⟩, fun b hb => ?_⟩
    · rw [show ((i + 1 : Nat) : Int) = (i : Int) + 1 by omega]
      exact he'
    · have hb' : b < s.heap.objs.size := by
        rcases (by simpa using hb : b = e ∨ b = it) with z | z
        · rw [z]; exact hel
        · rw [z]; exact hil
      rw [upd_ne (Nat.ne_of_lt hb')]
      exact (hf b hb).1
  done := by
    intro X hP hw hK hc i pins s σ H E I hf st hg
    subst hP hw hK
    obtain ⟨⟨old, he⟩, hit, hne⟩ := st
    obtain ⟨xs, hq, hx⟩ := hg
    obtain ⟨its, rv, p, hz⟩ := I.tuple hq
    obtain ⟨f0, f1, f2, f3, f4, f5⟩ := hf it (by simp)
    have hl := rv.length
    have hti : a ≠ it := by
      intro z
      subst z
      obtain ⟨o1, q1, c1, _⟩ := hit
      obtain ⟨o2, q2, c2, _⟩ := p
      rw [q1] at q2
      cases q2
      rw [c1] at c2
      exact absurd c2 (by decide)
    have D := Draws.tuple (prog := X.prog) (w := X.w) (A := X.A.in1) (I.ok.hd hc) it a hti its.toArray
    have ei : its.toArray.size = i := by rw [List.size_toArray, ← hl]; exact hx
    refine wpAny_pyNext_enum_endD D he (by rw [ei]; exact ⟨hit, p⟩) (fun h' eb => ⟨rfl, I.turned (t' := s.toks) (fun b o hb q => eb b o hb q) f0 f1 f3 f4 f5⟩)
  self := fun A i s Q E st h => by
    obtain ⟨⟨_, he⟩, _⟩ := st
    exact wpAny_pyIter_enum he h
/-- enumerate(e), e a list or a tuple -/
def iEn2 (K : PySem.W.Frag) (ta : TA) : TI := fun σ H R => ta σ H fun vs H1 => ∃ a xs, vs = [.ref a] ∧ ((SqL K H1 a xs ∧ R (Ite K a) H1) ∨ (SqT K H1 a xs ∧ R (Itet K a) H1))
theorem pi_enum2 {X : Cx} {e : Expr} {ta : TA} {p pos tpos : Pos} {elts : List Expr} {kk : Nat} (hg : Gl X "enumerate") (hm : X.mg "enumerate" = none) (ha : PA X [e] ta) (hs : starEach [e] X.env = [(false, eval e X.env)] := by rfl) :
    PI X (.Tuple elts kk tpos) (.Call (.Name "enumerate" p) [e] [] pos) (iEn2 X.K ta) := by
  refine ⟨fun pins s σ H R I h => Call_ (ld_blt I hg hm boot_enumerate (PyProof.Rows.callWith_type1 (thn (ha.run pos pins s σ H _ I h) fun us s1 ⟨vs, H1, I1, r1, q1⟩ => ?_) hs rfl))⟩
  obtain ⟨a, xs, ex, q⟩ := q1
  subst ex
  cases r1 with
  | cons r rr =>
    cases rr
    cases r
    have fpk : ∀ b, (b = s1.heap.objs.size + 1 ∨ b = s1.heap.objs.size) → FpOk X pins H1 b := fun b hb => by
      have hle : s1.heap.objs.size ≤ b := by
        rcases hb with z | z <;> omega
      exact I1.fpOk hle (I1.hok.fresh hle)
    rcases q with ⟨hq, q⟩ | ⟨hq, q⟩
    · obtain ⟨its, rv, p', hz⟩ := I1.list hq
      refine call_enum1 (begins_list a its.toArray) p'.isList (fun h' he hit hk => wpAny_pyIter_enum he ?_)
      exact ⟨s1.heap.objs.size + 1, [s1.heap.objs.size + 1, s1.heap.objs.size], _, _, H1, rfl, I1.kept (t' := s1.toks) hk, turn_enum a (s1.heap.objs.size + 1) s1.heap.objs.size, ⟨⟨.none, he⟩, ⟨_, hit, rfl, rfl⟩, Nat.succ_ne_self _⟩, fun b hb => fpk b (by simpa using hb), q⟩
    · obtain ⟨its, rv, p', hz⟩ := I1.tuple hq
      refine call_enum1 (begins_tuple a its.toArray) (show s1.heap.IsTuple a its.toArray from p') (fun h' he hit hk => wpAny_pyIter_enum he ?_)
      exact ⟨s1.heap.objs.size + 1, [s1.heap.objs.size + 1, s1.heap.objs.size], _, _, H1, rfl, I1.kept (t' := s1.toks) hk, turn_enumT a (s1.heap.objs.size + 1) s1.heap.objs.size, ⟨⟨.none, he⟩, ⟨_, hit, rfl, rfl⟩, Nat.succ_ne_self _⟩, fun b hb => fpk b (by simpa using hb), q⟩
/-- the items with their numbers -/
def numD (ds : List PyData) : List PyData := ds.zipIdx.map fun p => .tuple [.int (p.2 : Nat), p.1]
theorem numD_get {ds : List PyData} {i : Nat} {d : PyData} (h : (numD ds)[i]? = some d) : ∃ x, ds[i]? = some x ∧ d = .tuple [.int (i : Nat), x] := by
  unfold numD at h
  rw [List.getElem?_map] at h
  cases e : ds.zipIdx[i]? with
  | none => rw [e] at h; cases h
  | some p =>
    rw [e] at h
    have h : PyData.tuple [.int (p.2 : Nat), p.1] = d := Option.some.inj h
    rw [List.getElem?_zipIdx] at e
    cases e2 : ds[i]? with
    | none => rw [e2] at e; cases e
    | some x =>
      rw [e2] at e
      have e : (x, 0 + i) = p := Option.some.inj e
      subst e
      exact ⟨x, rfl, by rw [← h, Nat.zero_add]⟩
theorem numD_len {ds : List PyData} : (numD ds).length = ds.length := by
  unfold numD
  rw [List.length_map, List.length_zipIdx]
theorem itd_enl {K : PySem.W.Frag} {F : Hp} {a : Addr} {xs : List V} {ds : List PyData} (h : F a = some (.lst xs)) (hd : Das F ds xs) : ItD (Ite K a) F (numD ds) where
  go := fun i F' H h1 h2 hi => by
    have hx : i < xs.length := by rw [hd.len, ← numD_len]; exact hi
    exact ⟨xs, xs[i], SqL.of (h2 _ _ (h1 _ _ h)), List.getElem?_eq_getElem hx⟩
  yld := fun i F' H x H' d h1 h2 hy hdi => by
    obtain ⟨T, y, rfl, nT, rfl, hy⟩ := hy
    obtain ⟨d0, e0, rfl⟩ := numD_get hdi
    obtain ⟨v, hv, dv⟩ := hd.get e0
    have e2 := hy xs (SqL.of (h2 _ _ (h1 _ _ h)))
    rw [hv] at e2
    cases e2
    have fT : F' T = none := by
      cases e : F' T with
      | none => rfl
      | some o => rw [h2 _ _ e] at nT; cases nT
    refine ⟨upd F' T (.tup [.int (i : Nat), y]), fun b o e => by rw [upd_ne (ne_of_none e nT)]; exact e, le_upd fT, fun b o e => ?_, fun b o e => ?_, da_tup.mpr ⟨T, _, rfl, upd_same, .cons (da_int.mpr rfl) (.cons (Da.mono (fun b o e => le_upd fT b o (h1 _ _ e)) _ _ dv) .nil)⟩⟩
    · by_cases hb : b = T
      · subst hb; rw [upd_same] at e ⊢; exact e
      · rw [upd_ne hb] at e ⊢; exact h2 _ _ e
    · by_cases hb : b = T
      · subst hb; exact .inr nT
      · rw [upd_ne hb] at e; exact .inl e
  stop := fun F' H h1 h2 => ⟨xs, SqL.of (h2 _ _ (h1 _ _ h)), by rw [hd.len, numD_len]; exact Nat.le_refl _⟩
theorem itd_ent {K : PySem.W.Frag} {F : Hp} {a : Addr} {xs : List V} {ds : List PyData} (h : F a = some (.tup xs)) (hd : Das F ds xs) : ItD (Itet K a) F (numD ds) where
  go := fun i F' H h1 h2 hi => by
    have hx : i < xs.length := by rw [hd.len, ← numD_len]; exact hi
    exact ⟨xs, xs[i], SqT.of (h2 _ _ (h1 _ _ h)), List.getElem?_eq_getElem hx⟩
  yld := fun i F' H x H' d h1 h2 hy hdi => by
    obtain ⟨T, y, rfl, nT, rfl, hy⟩ := hy
    obtain ⟨d0, e0, rfl⟩ := numD_get hdi
    obtain ⟨v, hv, dv⟩ := hd.get e0
    have e2 := hy xs (SqT.of (h2 _ _ (h1 _ _ h)))
    rw [hv] at e2
    cases e2
    have fT : F' T = none := by
      cases e : F' T with
      | none => rfl
      | some o => rw [h2 _ _ e] at nT; cases nT
    refine ⟨upd F' T (.tup [.int (i : Nat), y]), fun b o e => by rw [upd_ne (ne_of_none e nT)]; exact e, le_upd fT, fun b o e => ?_, fun b o e => ?_, da_tup.mpr ⟨T, _, rfl, upd_same, .cons (da_int.mpr rfl) (.cons (Da.mono (fun b o e => le_upd fT b o (h1 _ _ e)) _ _ dv) .nil)⟩⟩
    · by_cases hb : b = T
      · subst hb; rw [upd_same] at e ⊢; exact e
      · rw [upd_ne hb] at e ⊢; exact h2 _ _ e
    · by_cases hb : b = T
      · subst hb; exact .inr nT
      · rw [upd_ne hb] at e; exact .inl e
  stop := fun F' H h1 h2 => ⟨xs, SqT.of (h2 _ _ (h1 _ _ h)), by rw [hd.len, numD_len]⟩
section
variable {A : Am} {ρ : List Ab} {te : TE} {ds : List PyData} {K : PySem.W.Frag}
theorem ei_en_t (h : EvD A te ρ (.tuple ds)) : EvI A (iEn2 K (tCons te tNil)) ρ (fun w => w = numD ds) := fun σ F H e p R c => (ea_cons h ea_nil) σ F H e p _ fun vs bs F1 H1 hb po hv => by
  subst hb
  obtain ⟨v, ev, hv1⟩ := vas1 hv
  subst ev
  obtain ⟨a, xs, rfl, ha, hx⟩ := da_tup.mp hv1
  exact ⟨a, xs, rfl, .inr ⟨SqT.of (po.fh _ _ ha), c _ _ F1 H1 rfl po (itd_ent ha hx)⟩⟩
theorem ei_en_l (h : EvD A te ρ (.list ds)) : EvI A (iEn2 K (tCons te tNil)) ρ (fun w => w = numD ds) := fun σ F H e p R c => (ea_cons h ea_nil) σ F H e p _ fun vs bs F1 H1 hb po hv => by
  subst hb
  obtain ⟨v, ev, hv1⟩ := vas1 hv
  subst ev
  obtain ⟨a, xs, rfl, ha, hx⟩ := da_list.mp hv1
  exact ⟨a, xs, rfl, .inl ⟨SqL.of (po.fh _ _ ha), c _ _ F1 H1 rfl po (itd_enl ha hx)⟩⟩
end
end Pu

/-! t[::-1] of a list or a tuple. -/
namespace Pu
open PySem PySem.Spec PyProof.Rows HT
section
variable {prog : Program} {w : World} {A : Around} {E : Value → Shared → Prop} {s : Shared}
theorem pick_rev (xs : Array Value) : ((List.range xs.size).filterMap fun (m : Nat) => xs[(((xs.size : Int) - 1) + (m : Int) * (-1)).toNat]?).toArray = xs.toList.reverse.toArray := by
  have e : (fun (m : Nat) => xs[(((xs.size : Int) - 1) + (m : Int) * (-1)).toNat]?) = (fun (m : Nat) => xs[xs.size - 1 - m]?) := by
    funext m
    rw [show (((xs.size : Int) - 1) + (m : Int) * (-1)).toNat = xs.size - 1 - m by omega]
  rw [e]
  have k : (List.range xs.size).filterMap (fun (m : Nat) => xs[xs.size - 1 - m]?) = ((List.range xs.size).map fun k => xs.size - 1 - k).filterMap (xs[·]?) := by
    rw [List.filterMap_map]
    rfl
  rw [k, PySem.W.krv_range, List.filterMap_reverse, PySem.W.krv_all]
theorem sliceRev {sl : Addr} {vl vu vs : Value} {n : Nat} {Q : Int × Int × Nat → Shared → Prop} (hs : s.heap.IsSliceOf sl vl vu vs) (pl : IsPart vl none) (pu : IsPart vu none) (ps : IsPart vs (some (-1)))
    (h : Q ((n : Int) - 1, -1, n) s) : wpAny (model prog w) A (Builtin.Slice.sliceApplied (.ref sl) (pure (n : Int))) Q E s := by
  obtain ⟨os, hos, hcs, hds⟩ := id hs
  unfold Builtin.Slice.sliceApplied Builtin.Slice.sliceFields
  refine wpAny_bind (wpAny_bind (wpAny_field hos hds (x := vl) rfl (wpAny_bind (wpAny_field hos hds (x := vu) rfl (wpAny_bind (wpAny_field hos hds (x := vs) rfl (wpAny_pure ?_)))))))
  refine wpAny_bind (slicePart_ ps ?_)
  show wpAny _ _ (if ((-1 : Int) == 0) = true then _ else _) _ _ s
  rw [if_neg (by decide)]
  refine wpAny_bind (slicePart_ pl (wpAny_bind (slicePart_ pu (wpAny_bind (wpAny_pure ?_)))))
  show wpAny _ _ (pure ((Builtin.Slice.sliceAdjust none none (-1) (n : Int)).1, (-1 : Int), Builtin.Slice.slicePlaces (Builtin.Slice.sliceAdjust none none (-1) (n : Int)).1 (Builtin.Slice.sliceAdjust none none (-1) (n : Int)).2 (-1))) _ _ s
  have e1 : Builtin.Slice.sliceAdjust none none (-1) (n : Int) = ((n : Int) - 1, -1) := rfl
  rw [e1]
  have e2 : Builtin.Slice.slicePlaces ((n : Int) - 1) (-1) (-1) = n := by
    unfold Builtin.Slice.slicePlaces
    rw [if_neg (by decide)]
    by_cases h : (n : Int) - 1 > -1
    · rw [if_pos h, show (- -1 : Int) = 1 by decide, Int.ediv_one]
      omega
    · rw [if_neg h]
      omega
  show wpAny _ _ (pure ((n : Int) - 1, (-1 : Int), Builtin.Slice.slicePlaces ((n : Int) - 1) (-1) (-1))) _ _ s
  rw [e2]
  exact wpAny_pure h
theorem getItem_tuple_rev {t sl : Addr} {items : Array Value} {vl vu vs : Value} {Q : Value → Shared → Prop} (ht : IsTup s.heap t items) (hs : s.heap.IsSliceOf sl vl vu vs) (pl : IsPart vl none) (pu : IsPart vu none) (ps : IsPart vs (some (-1)))
    (h : Q (.ref s.heap.objs.size) { s with heap := s.heap.push { cls := .type "tuple", data := .seq items.toList.reverse.toArray } }) (hsz : items.size ≤ sizeLine) : wpAny (model prog w) A (getItem (.ref t) (.ref sl)) Q E s := by
  obtain ⟨os, hos, hcs, hds⟩ := id hs
  have hTs : s.TypeIs (.ref sl) "slice" := ⟨os, hos, hcs⟩
  have hok : sizeOk (.seq items.toList.reverse.toArray) := by
    show items.toList.reverse.toArray.size ≤ sizeLine
    rw [List.size_toArray, List.length_reverse, Array.length_toList]
    exact hsz
  unfold getItem
  try with_reducible refine wpAny_holding ?_
  first | refine wpAny_bind (wpAny_pure ?_) | skip
  refine wpAny_bind (wpAny_sequenceKey ht.typeIs (by decide) ?_)
  refine wpAny_bind (wpAny_callSpecial?_slot (name := Str.ofString "__getitem__") ht.typeIs PyProof.Rows.slot_tuple_getitem
    (wpAny_call_entry PyProof.Rows.slot_tuple_getitem ht.typeIs entry_tuple_getitem ?_ (args_tuple_getitem _ _)))
  show wpAny _ _ (Builtin.Tuple.tupleItemsOf (.ref t) >>= _) _ _ s
  refine wpAny_bind (tupleItemsOf_ ht (wpAny_bind (wpAny_typeOf hTs ?_)))
  rw [if_pos (by decide)]
  refine wpAny_bind (sliceRev hs pl pu ps ?_)
  have hno : ¬ ((((items.size : Int) - 1) == 0 && (-1 : Int) == 1 && items.size == items.size) = true) := by
    intro q
    rw [Bool.and_eq_true, Bool.and_eq_true] at q
    exact absurd q.1.2 (by decide)
  show wpAny _ _ (if (((items.size : Int) - 1) == 0 && (-1 : Int) == 1 && items.size == items.size) = true then _ else _) _ _ s
  rw [if_neg hno, pick_rev]
  first
    | exact wpAny_bind (m := Builtin.Tuple.tupleExact _) (wpAny_newObj_type (wpAny_pure ⟨_, rfl, wpAny_pure h⟩) hok)
    | exact wpAny_bind (m := Builtin.Tuple.tupleExact _) (wpAny_newObj_type (wpAny_bind (wpAny_pure (wpAny_pure ⟨_, rfl, wpAny_pure h⟩))) hok)
    | exact wpAny_bind (wpAny_bind (m := Builtin.Tuple.tupleExact _) (wpAny_newObj_type (wpAny_pure (wpAny_pure ⟨_, rfl, wpAny_pure h⟩)) hok))
    | exact wpAny_bind (wpAny_bind (m := Builtin.Tuple.tupleExact _) (wpAny_newObj_type (wpAny_pure ⟨_, rfl, wpAny_pure h⟩) hok))
end
end Pu
namespace Pu
open PySem PySem.Spec PyProof.Rows L2
def tRevS (K : PySem.W.Frag) (te : TE) : TE := fun σ H Q => te σ H fun x H1 => ∃ a xs, x = .ref a ∧ ((SqL K H1 a xs ∧ ∀ p, H1 p = none → Q (.ref p) (upd H1 p (.lst xs.reverse))) ∨ (SqT K H1 a xs ∧ ∀ p, H1 p = none → Q (.ref p) (upd H1 p (.tup xs.reverse))))
theorem pe_revS {X : Cx} {te : TE} {e : Expr} {k : Nat} {p1 p2 p3 pos : Pos} (he : PE X e te) : PE X (.Subscript e (.Slice none none (some (.UnaryOp .USub (.Constant (.int 1) k p1) p2)) p3) pos) (tRevS X.K te) := by
  refine ⟨fun pins s σ H Q I h => Subscript_ (thn (he.run pins s σ H _ I h) fun v s1 ⟨x, H1, I1, r1, q1⟩ => ?_)⟩
  obtain ⟨a, xs, ex, q⟩ := q1
  subst ex
  cases r1
  have hst : PO X (some (.UnaryOp .USub (.Constant (.int 1) k p1) p2)) (tPart (tUn (rU fun i => .int (-i)) (tC (.int 1)))) := po_some (pe_un un_neg pe_int)
  refine wpAny_Slice (thn (po_none.run pins s1 σ H1 (fun o H2 => o = none ∧ H2 = H1) I1 ⟨rfl, rfl⟩) fun vl s2 ⟨l, H2, I2, pl, el, e2⟩ => ?_)
  subst el e2
  refine thn (po_none.run pins s2 σ H2 (fun o H3 => o = none ∧ H3 = H2) I2 ⟨rfl, rfl⟩) fun vu s3 ⟨u, H3, I3, pu, eu, e3⟩ => ?_
  subst eu e3
  refine thn (hst.run pins s3 σ H3 (fun o H4 => o = some (-1) ∧ H4 = H3) I3 ⟨1, rfl, -1, rfl, rfl, rfl⟩) fun vs s4 ⟨o, H4, I4, ps, eo, e4⟩ => ?_
  subst eo e4
  have I5 : Inv X pins σ H4 { s4 with heap := s4.heap.push { cls := .type "slice", data := .fields #[vl, vu, vs] } } := I4.kept (t' := s4.toks) fun b ob q => Heap.get?_push_of_some _ q
  show wpAny (model X.prog X.w) X.A (subscriptTail e (.Slice none none (some (.UnaryOp .USub (.Constant (.int 1) k p1) p2)) p3) (.ref a) (.ref s4.heap.objs.size)) (EP X pins σ Q) X.xe { s4 with heap := s4.heap.push { cls := .type "slice", data := .fields #[vl, vu, vs] } }
  rcases q with ⟨hx, q⟩ | ⟨hx, q⟩
  · obtain ⟨its, r, ht, hz⟩ := I5.list hx
    have hlen := r.length
    refine tail_any (ops := [.ref a, .ref s4.heap.objs.size]) ht.isList.typeIs (PySem.slot_list_getitem.lookup) ?_ (by with_unfolding_all rfl)
    refine wpAny_getItem_list_slice ht.isList (Heap.IsSliceOf.new _ vl vu vs) pl pu ps (by decide) ?_ (by rw [List.size_toArray]; omega)
    rw [PySem.W.krv_pick]
    exact ⟨.ref _, _, I5.laid (t' := s4.toks) (o := .lst xs.reverse) (fun b ob q => Heap.get?_push_of_some _ q) (Nat.le_refl _) ⟨by rw [List.length_reverse]; exact hz, _, 0, r.reverse, Heap.get?_push_size _ rfl⟩, rfl, q _ (I5.hok.fresh (Nat.le_refl _))⟩
  · obtain ⟨its, r, ht, hz⟩ := I5.tuple hx
    have hlen := r.length
    refine tail_any (ops := [.ref a, .ref s4.heap.objs.size]) ht.typeIs PyProof.Rows.slot_tuple_getitem.lookup ?_ (by with_unfolding_all rfl)
    refine getItem_tuple_rev ht (Heap.IsSliceOf.new _ vl vu vs) pl pu ps ?_ (by rw [List.size_toArray]; omega)
    exact ⟨.ref _, _, I5.laid (t' := s4.toks) (o := .tup xs.reverse) (fun b ob q => Heap.get?_push_of_some _ q) (Nat.le_refl _) ⟨by rw [List.length_reverse]; exact hz, _, r.reverse, ⟨_, Heap.get?_push_size _ rfl, rfl, _, rfl⟩⟩, rfl, q _ (I5.hok.fresh (Nat.le_refl _))⟩
section
variable {A : Am} {ρ : List Ab} {te : TE} {ds : List PyData} {K : PySem.W.Frag}
theorem ev_rev_t (h : EvD A te ρ (.tuple ds)) : EvD A (tRevS K te) ρ (.tuple ds.reverse) := fun σ F H e p Q c => h σ F H e p _ fun v d F1 H1 hd po dv => by
  subst hd
  obtain ⟨a, xs, rfl, ha, hx⟩ := da_tup.mp dv
  have p1 := p.next po
  exact ⟨a, xs, rfl, .inr ⟨SqT.of (po.fh _ _ ha), fun q hq => c _ _ (upd F1 q (.tup xs.reverse)) _ rfl (po.trans p.am (Post.new p1 hq)) (da_tup.mpr ⟨q, _, rfl, upd_same, hx.rev.mono (le_upd (pre_none p1 hq))⟩)⟩⟩
theorem el_rev_l (h : EvD A te ρ (.list ds)) : EvL A (tRevS K te) ρ ds.reverse := fun σ F H e p Q c => h σ F H e p _ fun v d F1 H1 hd po dv => by
  subst hd
  obtain ⟨a, xs, rfl, ha, hx⟩ := da_list.mp dv
  have p1 := p.next po
  exact ⟨a, xs, rfl, .inl ⟨SqL.of (po.fh _ _ ha), fun q hq => c q _ _ F1 _ rfl (po.trans p.am (Post.new0 p1 hq)) (pre_none p1 hq) (none_back p.am po.le po.am hq) upd_same hx.rev⟩⟩
end
end Pu

/-! Comparisons and texts of data, with one measure of what is nice. -/
namespace Pu
open PySem L2
abbrev NC (d : PyData) : Prop := Nc 64 16000000 d
theorem Nc.up {n m : Nat} {d : PyData} (h : Nc n m d) (h1 : n ≤ 64 := by decide) (h2 : m ≤ 16000000 := by decide) : NC d := h.mono h1 h2
section
variable {A : Am} {ρ : List Ab} {te ta tb tc : TE} {x y : PyData} {ds : List PyData} {K : PySem.W.Frag}
theorem ev_eqN (ha : EvD A ta ρ x) (hb : EvD A tb ρ y) (hx : NC x) (hy : NC y) : EvD A (tOp (rEq2 K) ta tb) ρ (.bool (PyData.eqv x y)) := ev_eq ha hb hx hy (by decide) (by decide)
theorem ev_neN (ha : EvD A ta ρ x) (hb : EvD A tb ρ y) (hx : NC x) (hy : NC y) : EvD A (tOp (rNe2 K) ta tb) ρ (.bool (!PyData.eqv x y)) := ev_ne ha hb hx hy (by decide) (by decide)
theorem ev_in_lN (ha : EvD A ta ρ x) (hb : EvD A tb ρ (.list ds)) (hx : NC x) (hy : NC (.list ds)) : EvD A (tOp (rInT K false) ta tb) ρ (.bool (ds.any fun z => PyData.eqv z x)) := ev_in_l ha hb hx hy (by decide) (by decide)
theorem ev_in_tN (ha : EvD A ta ρ x) (hb : EvD A tb ρ (.tuple ds)) (hx : NC x) (hy : NC (.tuple ds)) : EvD A (tOp (rInT K false) ta tb) ρ (.bool (ds.any fun z => PyData.eqv z x)) := ev_in_t ha hb hx hy (by decide) (by decide)
theorem ev_ni_lN (ha : EvD A ta ρ x) (hb : EvD A tb ρ (.list ds)) (hx : NC x) (hy : NC (.list ds)) : EvD A (tOp (rInT K true) ta tb) ρ (.bool (!ds.any fun z => PyData.eqv z x)) := ev_ni_l ha hb hx hy (by decide) (by decide)
theorem ev_ni_tN (ha : EvD A ta ρ x) (hb : EvD A tb ρ (.tuple ds)) (hx : NC x) (hy : NC (.tuple ds)) : EvD A (tOp (rInT K true) ta tb) ρ (.bool (!ds.any fun z => PyData.eqv z x)) := ev_ni_t ha hb hx hy (by decide) (by decide)
theorem ev_reprN (h : EvD A te ρ x) (hn : NC x) : EvD A (tCB (rRepr K) (tCons te tNil)) ρ (.str x.shown) := ev_repr h hn (by decide) (by decide)
end
/-- the members' measures -/
theorem NC.list {n m : Nat} {ds : List PyData} (k : Nat) (hk : ds.length ≤ k) (h : ∀ d ∈ ds, Nc n m d) (h1 : n + 1 ≤ 64) (h2 : k * (m + 2) + 3 ≤ 16000000) : NC (.list ds) := (Nc.list hk h).mono h1 h2
theorem NC.tuple {n m : Nat} {ds : List PyData} (k : Nat) (hk : ds.length ≤ k) (h : ∀ d ∈ ds, Nc n m d) (h1 : n + 1 ≤ 64) (h2 : k * (m + 2) + 3 ≤ 16000000) : NC (.tuple ds) := (Nc.tuple hk h).mono h1 h2
theorem nc_map {α : Type} {n m : Nat} {as : List α} {f : α → PyData} (h : ∀ a ∈ as, Nc n m (f a)) : ∀ d ∈ as.map f, Nc n m d := fun d hd => by
  obtain ⟨a, ha, rfl⟩ := List.mem_map.mp hd
  exact h a ha
/-- equality of typed data -/
theorem eqv_int (i j : Int) : PyData.eqv (.int i) (.int j) = decide (i = j) := by
  simp only [PyData.eqv]
  rw [Bool.beq_eq_decide_eq]
theorem eqv_bool (i j : Bool) : PyData.eqv (.bool i) (.bool j) = decide (i = j) := by
  simp only [PyData.eqv]
  rw [Bool.beq_eq_decide_eq]
theorem eqvAll_map {α : Type} [DecidableEq α] {f : α → PyData} (hf : ∀ a b, PyData.eqv (f a) (f b) = decide (a = b)) : ∀ as bs : List α, PyData.eqvAll (as.map f) (bs.map f) = decide (as = bs)
  | [], [] => by simp [PyData.eqvAll]
  | [], b :: bs => by simp [PyData.eqvAll]
  | a :: as, [] => by simp [PyData.eqvAll]
  | a :: as, b :: bs => by
    simp only [List.map_cons, PyData.eqvAll, hf, eqvAll_map hf as bs]
    by_cases h : a = b
    · subst h
      simp
    · simp [h]
theorem eqv_lmap {α : Type} [DecidableEq α] {f : α → PyData} (hf : ∀ a b, PyData.eqv (f a) (f b) = decide (a = b)) (as bs : List α) : PyData.eqv (.list (as.map f)) (.list (bs.map f)) = decide (as = bs) := by
  simp only [PyData.eqv]
  exact eqvAll_map hf as bs
theorem eqv_tmap {α : Type} [DecidableEq α] {f : α → PyData} (hf : ∀ a b, PyData.eqv (f a) (f b) = decide (a = b)) (as bs : List α) : PyData.eqv (.tuple (as.map f)) (.tuple (bs.map f)) = decide (as = bs) := by
  simp only [PyData.eqv]
  exact eqvAll_map hf as bs
theorem eqv_lnil (ds : List PyData) : PyData.eqv (.list ds) (.list []) = ds.isEmpty := by
  cases ds <;> simp [PyData.eqv, PyData.eqvAll]
theorem eqv_tnil (ds : List PyData) : PyData.eqv (.tuple ds) (.tuple []) = ds.isEmpty := by
  cases ds <;> simp [PyData.eqv, PyData.eqvAll]
theorem eqv_pair (a b c d : Int) : PyData.eqv (.tuple [.int a, .int b]) (.tuple [.int c, .int d]) = decide ((a, b) = (c, d)) := by
  simp only [PyData.eqv, PyData.eqvAll, Bool.and_true, Bool.beq_eq_decide_eq, Prod.mk.injEq, Bool.decide_and]
theorem any_map_eqv {α : Type} [DecidableEq α] {f : α → PyData} (hf : ∀ a b, PyData.eqv (f a) (f b) = decide (a = b)) (as : List α) (x : α) : ((as.map f).any fun z => PyData.eqv z (f x)) = decide (x ∈ as) := by
  induction as with
  | nil => simp
  | cons a as ih =>
    rw [List.map_cons, List.any_cons, ih, hf]
    by_cases h : a = x
    · subst h
      simp
    · have h' : ¬ x = a := fun z => h z.symm
      simp [h, h']
end Pu

/-! The rules with the written part named, so that they hold within a comprehension's block. -/
namespace Pu
open PySem L2
theorem is_eq {α : Sort _} {a b : α} (h : a = b) : a = b := h
section
variable {X : Cx}
theorem kc_len (K : PySem.W.Frag) (h : X.K = K := by rfl) : CallR X (.builtin "len") (rLen K) := by subst h; exact c_len
theorem kc_tuple (K : PySem.W.Frag) (h : X.K = K := by rfl) : CallR X (.type "tuple") (rTupOf K) := by subst h; exact c_tuple
theorem kc_list (K : PySem.W.Frag) (h : X.K = K := by rfl) : CallR X (.type "list") (rLstOf K) := by subst h; exact c_list
theorem kc_sum (K : PySem.W.Frag) (hc : X.calm = true) (h : X.K = K := by rfl) : CallR X (.builtin "sum") (rSum K) := by subst h; exact cr_sum hc
theorem kc_any (K : PySem.W.Frag) (hc : X.calm = true) (h : X.K = K := by rfl) : CallR X (.builtin "any") (rAny K) := by subst h; exact cr_any hc
theorem kc_all (K : PySem.W.Frag) (hc : X.calm = true) (h : X.K = K := by rfl) : CallR X (.builtin "all") (rAll K) := by subst h; exact cr_all hc
theorem kc_repr (K : PySem.W.Frag) (hgu : X.A.guards = some []) (hu : X.A.units + 70 < cLine) (h : X.K = K := by rfl) : CallR X (.builtin "repr") (rRepr K) := by subst h; exact call_repr hgu hu
theorem kc_isi (K : PySem.W.Frag) (h : X.K = K := by rfl) : CallR X (.builtin "isinstance") (rIsi K) := by subst h; exact call_isi
theorem k_ix (K : PySem.W.Frag) (h : X.K = K := by rfl) : IxR X (rIx2 K) := by subst h; exact i_ix
theorem k_sl (K : PySem.W.Frag) (h : X.K = K := by rfl) : SlR X (rSl2 K) := by subst h; exact s_sl
theorem k_add (K : PySem.W.Frag) (h : X.K = K := by rfl) : OpR X (binaryOp .Add) (rAdd3 K) := by subst h; exact o_add
theorem k_in (K : PySem.W.Frag) (hu : X.A.units + 65 < cLine) (h : X.K = K := by rfl) : OpR X (compareOp .In) (rInT K false) := by subst h; exact o_in hu
theorem k_notIn (K : PySem.W.Frag) (hu : X.A.units + 65 < cLine) (h : X.K = K := by rfl) : OpR X (compareOp .NotIn) (rInT K true) := by subst h; exact o_notIn hu
theorem k_eq (K : PySem.W.Frag) (hu : X.A.units + 64 < cLine) (h : X.K = K := by rfl) : OpR X (compareOp .Eq) (rEq2 K) := by subst h; exact o_eq hu
theorem k_ne (K : PySem.W.Frag) (hu : X.A.units + 64 < cLine) (h : X.K = K := by rfl) : OpR X (compareOp .NotEq) (rNe2 K) := by subst h; exact o_ne hu
theorem kpi_seq (K : PySem.W.Frag) {tg l : Expr} {tl : TE} (hl : PE X l tl) (h : X.K = K := by rfl) : PI X tg l (iSeq K tl) := by subst h; exact pi_seq hl
theorem kpe_revS (K : PySem.W.Frag) {te : TE} {e : Expr} {k : Nat} {p1 p2 p3 pos : Pos} (he : PE X e te) (h : X.K = K := by rfl) : PE X (.Subscript e (.Slice none none (some (.UnaryOp .USub (.Constant (.int 1) k p1) p2)) p3) pos) (tRevS K te) := by subst h; exact pe_revS he
theorem kpi_enum (K : PySem.W.Frag) {e : Expr} {ta : TA} {p pos tpos : Pos} {elts : List Expr} {kk : Nat} (hg : Gl X "enumerate") (hm : X.mg "enumerate" = none) (ha : PA X [e] ta) (hs : starEach [e] X.env = [(false, eval e X.env)] := by rfl) (h : X.K = K := by rfl) :
    PI X (.Tuple elts kk tpos) (.Call (.Name "enumerate" p) [e] [] pos) (iEn2 K ta) := by subst h; exact pi_enum2 hg hm ha hs
end
end Pu

/-! The rules with small bounds, for the search. -/
namespace Pu
open PySem L2
theorem is_at {α : Type} {l : List α} {i : Int} {x : α} (h : atI l i = some x) : atI l i = some x := h
theorem is_pr {p : Prop} (h : p) : p := h
theorem lt_line {n : Nat} (h : n ≤ 1000000) : n < sizeLine := Nat.lt_of_le_of_lt h (by decide)
theorem le_line {n : Nat} (h : n ≤ 1000000) : n ≤ sizeLine := Nat.le_trans h (by decide)
theorem atI_c0 {α : Type} {x : α} {r : List α} : atI (x :: r) 0 = some x := by
  unfold atI ixN
  rw [if_pos (by decide), if_pos (by simp)]
  rfl
theorem nc_lnil : NC (.list []) := NC.list (n := 0) (m := 0) 0 (by decide) (fun _ h => by cases h) (by decide) (by decide)
theorem nc_tnil : NC (.tuple []) := NC.tuple (n := 0) (m := 0) 0 (by decide) (fun _ h => by cases h) (by decide) (by decide)
section
variable {A : Am} {ρ : List Ab} {te ta tb tc : TE} {tt : TT} {x y : PyData} {ds xs ys : List PyData} {K : PySem.W.Frag} {i j : Int}
theorem ei_r1M (h : EvD A te ρ (.int j)) (h1 : -1000000 ≤ j ∧ j ≤ 1000000) : EvI A (iRng1 (tCons te tNil)) ρ (fun w => w = (List.range j.toNat).map fun i : Nat => PyData.int (i : Int)) := ei_r1 h (by omega) (by omega)
theorem ei_r2M (h : EvD A ta ρ (.int i)) (h' : EvD A tb ρ (.int j)) (h1 : -1000000 ≤ i ∧ i ≤ 1000000 ∧ -1000000 ≤ j ∧ j ≤ 1000000) : EvI A (iRng2 (tCons ta (tCons tb tNil))) ρ (fun w => w = (List.range (j - i).toNat).map fun k : Nat => PyData.int (i + (k : Int))) := ei_r2 h h' (by omega)
theorem el_lcM {α : Type} {wi : TI} {g : TG} {vs : List Nat} {as : List α} {en : α → PyData} {l : α → List (Nat × PyData)} {p : α → Bool} {f : α → PyData} (hi : EvI A wi ρ (fun w => w = as.map en)) (hg : ∀ a ∈ as, TgP g (en a) (l a)) (hl : ∀ a ∈ as, ((l a).all fun q => decide (q.1 ∈ vs)) = true)
    (ht : ∀ a ∈ as, EvT A tt (setA (wipeA ρ vs) (l a)) (p a)) (hv : ∀ a ∈ as, p a = true → EvD A te (setA (wipeA ρ vs) (l a)) (f a)) (hz : as.length ≤ 1000000) : EvL A (tLc wi g tt te vs) ρ ((as.filter p).map f) := el_lc hi hg hl ht hv (lt_line hz)
theorem el_lc1M {α : Type} {wi : TI} {g : TG} {vs : List Nat} {as : List α} {en : α → PyData} {l : α → List (Nat × PyData)} {f : α → PyData} (hi : EvI A wi ρ (fun w => w = as.map en)) (hg : ∀ a ∈ as, TgP g (en a) (l a)) (hl : ∀ a ∈ as, ((l a).all fun q => decide (q.1 ∈ vs)) = true)
    (hv : ∀ a ∈ as, EvD A te (setA (wipeA ρ vs) (l a)) (f a)) (hz : as.length ≤ 1000000) : EvL A (tLc wi g tYes te vs) ρ (as.map f) := el_lc1 hi hg hl hv (lt_line hz)
theorem ev_addTM (ha : EvD A ta ρ (.tuple xs)) (hb : EvD A tb ρ (.tuple ys)) (hz : xs.length + ys.length ≤ 1000000) : EvD A (tOp (rAdd3 K) ta tb) ρ (.tuple (xs ++ ys)) := ev_addT ha hb (le_line hz)
theorem el_addLM (ha : EvD A ta ρ (.list xs)) (hb : EvD A tb ρ (.list ys)) (hz : xs.length + ys.length ≤ 1000000) : EvL A (tOp (rAdd3 K) ta tb) ρ (xs ++ ys) := el_addL ha hb (le_line hz)
theorem el_mulLM (ha : EvD A ta ρ (.list xs)) (hb : EvD A tb ρ (.int j)) (h1 : -1000000 ≤ j ∧ j ≤ 1000000) (hz : xs.length * j.toNat ≤ 1000000) : EvL A (tOp rMul2 ta tb) ρ (List.replicate j.toNat xs).flatten := el_mulL ha hb (by omega) (by omega) (le_line hz)
theorem ev_tupM (h : EvAs A ρ tas ds) (hl : ds.length ≤ 1000000) : EvD A (tTup tas) ρ (.tuple ds) := ev_tupN h (le_line hl)
theorem el_lstM (h : EvAs A ρ tas ds) (hl : ds.length ≤ 1000000) : EvL A (tLst tas) ρ ds := el_lstN h (le_line hl)
theorem ev_allM {α : Type} {as : List α} {g : α → Bool} (h : EvD A te ρ (.list (as.map fun x => .bool (g x)))) : EvD A (tCB (rAll K) (tCons te tNil)) ρ (.bool (as.all g)) := by
  have h2 : EvD A te ρ (.list ((as.map g).map .bool)) := by rw [List.map_map]; exact h
  have := ev_all (K := K) h2
  rw [List.all_map] at this
  exact this
theorem ev_anyM {α : Type} {as : List α} {g : α → Bool} (h : EvD A te ρ (.list (as.map fun x => .bool (g x)))) : EvD A (tCB (rAny K) (tCons te tNil)) ρ (.bool (as.any g)) := by
  have h2 : EvD A te ρ (.list ((as.map g).map .bool)) := by rw [List.map_map]; exact h
  have := ev_any (K := K) h2
  rw [List.any_map] at this
  exact this
theorem ev_sumM {α : Type} {as : List α} {g : α → Int} (h : EvD A te ρ (.list (as.map fun x => .int (g x)))) : EvD A (tCB (rSum K) (tCons te tNil)) ρ (.int (as.map g).sum) := by
  have h2 : EvD A te ρ (.list ((as.map g).map .int)) := by rw [List.map_map]; exact h
  exact ev_sum (K := K) h2
theorem ev_ifT {b : Bool} (h : EvT A tt ρ b) (hb : b = true) (h1 : EvD A ta ρ x) : EvD A (tIf tt ta tb) ρ x := by
  subst hb
  exact (ev_if (y := .none) h (fun _ => h1) (fun e => by cases e))
theorem ev_ifF {b : Bool} (h : EvT A tt ρ b) (hb : b = false) (h1 : EvD A tb ρ x) : EvD A (tIf tt ta tb) ρ x := by
  subst hb
  exact (ev_if (x := .none) h (fun e => by cases e) (fun _ => h1))
/-- products and squares of small numbers -/
theorem ev_mulM (ha : EvD A ta ρ (.int i)) (hb : EvD A tb ρ (.int j)) (h : (-1000000 ≤ i ∧ i ≤ 1000000) ∨ (-1000000 ≤ j ∧ j ≤ 1000000)) : EvD A (tOp rMul2 ta tb) ρ (.int (i * j)) := ev_mulI ha hb (.inl (h.elim (fun h => .inl ⟨by omega, by omega⟩) (fun h => .inr ⟨by omega, by omega⟩)))
/-- products of numbers of a measure -/
theorem cm_big {i j : Int} (h : i.natAbs < 2 ^ 200) (h' : j.natAbs < 2 ^ 200) : CM i j := .inr (by
  have a : ∀ n : Nat, n < 2 ^ 200 → n.log2 < 200 := fun n hn => by
    by_cases h0 : n = 0
    · subst h0; decide
    · exact (Nat.log2_lt h0).mpr hn
  have := a _ h
  have := a _ h'
  show _ + _ < _
  omega)
theorem cp_big {i : Int} (h : i.natAbs < 2 ^ 200) : CPow2 i 2 := .inr ⟨by decide, by decide, Nat.lt_of_lt_of_le h (Nat.pow_le_pow_right (by decide) (by decide))⟩
theorem ev_sqM (ha : EvD A ta ρ (.int i)) (hb : EvD A tb ρ (.int 2)) (h : -1000000 ≤ i ∧ i ≤ 1000000) : EvD A (tOp (rI CPow2 fun i j => .int (i ^ j.toNat)) ta tb) ρ (.int (i ^ 2)) := ev_powI ha hb (.inl ⟨by decide, by decide, by omega⟩)
end
end Pu

/-! What is picked: values that are only known to lie among some. -/
namespace Pu
open PySem L2
def IntIn (lo hi : Int) : PyData → Prop := fun d => ∃ i : Int, d = .int i ∧ lo ≤ i ∧ i < hi
def R_of : Am → List Ab → (PyData → Prop) → Prop := fun M bs P => IsSrc M ∧ ∃ ds : List PyData, bs = [.src, .dat (.list ds)] ∧ 1 ≤ ds.length ∧ ds.length ≤ 1000000 ∧ P = fun w => w ∈ ds
section
variable {A : Am} {ρ : List Ab} {te ta tb tc : TE} {tas : TA} {tt : TT} {x y : PyData} {ds xs ys : List PyData} {K : PySem.W.Frag} {i j lo hi m : Int} {E : XK} {n : Nat} {P P1 P2 : PyData → Prop}
theorem evp_pick (hM : IsSrc A) (hs : ρ[n]? = some .src) (h : EvD A te ρ (.int m)) (h1 : 1 ≤ m ∧ m ≤ 1000000) : EvP A (tCall (spOf 2 R_pick) [] E (tCons (tVar n) (tCons te tNil))) ρ (IntIn 0 m) :=
  EvP.imp (evp_call (P := fun d => ∃ i : Int, d = .int i ∧ 0 ≤ i ∧ i < max 1 m) (N := fun bs => bs = [.src, .dat (.int m)]) (ea_src hs (ea_cons h ea_nil) (fun _ e => by rw [e])) (fun bs e => by
    subst e
    exact ⟨rfl, hM, m, rfl, by omega, rfl⟩)) (fun d ⟨i, e, h0, h2⟩ => ⟨i, e, h0, by omega⟩)
theorem evp_of (hM : IsSrc A) (hs : ρ[n]? = some .src) (h : EvD A te ρ (.list ds)) (h1 : 1 ≤ ds.length) (h2 : ds.length ≤ 1000000) : EvP A (tCall (spOf 2 R_of) [] E (tCons (tVar n) (tCons te tNil))) ρ (fun w => w ∈ ds) :=
  evp_call (N := fun bs => bs = [.src, .dat (.list ds)]) (ea_src hs (ea_cons h ea_nil) (fun _ e => by rw [e])) (fun bs e => by
    subst e
    exact ⟨rfl, hM, ds, rfl, h1, h2, rfl⟩)
theorem r2_ixL (h : atI xs i = some x) : R2P A (rIx2 K) (.list xs) (.int i) (fun w => w = x) := r2_val fun F H v w p hv hw => by
  obtain ⟨a, us, rfl, ha, hx⟩ := da_list.mp hv
  obtain ⟨u, h1, h2⟩ := atI_das hx h
  exact ⟨u, h2, fun Q q => .inl ⟨a, us, i, u, rfl, da_int.mp hw, SqL.of (p.fh _ _ ha), h1, q⟩⟩
theorem r2_addIJ : R2P A (rAdd3 K) (.int i) (.int j) (fun w => w = .int (i + j)) := r2_val fun F H v w p hv hw =>
  ⟨_, da_int.mpr rfl, fun Q q => .inl ⟨i, j, da_int.mp hv, da_int.mp hw, q⟩⟩
theorem at_mem {α : Type} {l : List α} {i : Int} (h0 : 0 ≤ i) (h1 : i < l.length) : ∃ x, atI l i = some x ∧ x ∈ l := by
  have hi : i.toNat < l.length := by omega
  refine ⟨l[i.toNat], ?_, List.getElem_mem hi⟩
  unfold atI ixN
  rw [if_pos h0, if_pos h1]
  show l[i.toNat]? = _
  rw [List.getElem?_eq_getElem hi]
theorem EvP.of_imp (h : EvP A te ρ P1) (q : ∀ d, P1 d → P d) : EvP A te ρ P := EvP.imp h q
theorem evp_ixL (ha : EvD A ta ρ (.list xs)) (hb : EvP A tb ρ (IntIn 0 xs.length)) : EvP A (tOp (rIx2 K) ta tb) ρ (fun w => w ∈ xs) := fun σ F H e p Q c =>
  ha σ F H e p _ fun v x F1 H1 hx po1 dv => hb σ F1 H1 (e.mono po1.ff) (p.next po1) _ fun w y F2 H2 ⟨i, hy, h0, h1⟩ po2 dw => by
    subst hx hy
    obtain ⟨z, hz, hm⟩ := at_mem h0 h1
    exact r2_ixL hz F2 H2 v w ((p.next po1).next po2) (Da.mono po2.ff _ _ dv) dw Q fun u d F3 H3 hd po3 du => c u d F3 H3 (by rw [hd]; exact hm) ((po1.trans p.am po2).trans p.am po3) du
theorem evp_addD (ha : EvD A ta ρ (.int i)) (hb : EvP A tb ρ (IntIn lo hi)) : EvP A (tOp (rAdd3 K) ta tb) ρ (IntIn (i + lo) (i + hi)) := fun σ F H e p Q c =>
  ha σ F H e p _ fun v x F1 H1 hx po1 dv => hb σ F1 H1 (e.mono po1.ff) (p.next po1) _ fun w y F2 H2 ⟨j, hy, h0, h1⟩ po2 dw => by
    subst hx hy
    exact r2_addIJ F2 H2 v w ((p.next po1).next po2) (Da.mono po2.ff _ _ dv) dw Q fun u d F3 H3 hd po3 du => c u d F3 H3 ⟨_, hd, by omega, by omega⟩ ((po1.trans p.am po2).trans p.am po3) du
theorem evp_addP (ha : EvP A ta ρ (IntIn lo hi)) (hb : EvD A tb ρ (.int j)) : EvP A (tOp (rAdd3 K) ta tb) ρ (IntIn (lo + j) (hi + j)) :=
  evp_op ha (fun _ _ => hb) fun x y ⟨i, hx, h0, h1⟩ hy => by
    subst hx hy
    exact fun F H v w p dv dw Q c => r2_addIJ F H v w p dv dw Q fun u d F3 H3 hd => c u d F3 H3 ⟨_, hd, by omega, by omega⟩
theorem evp_subP (ha : EvP A ta ρ (IntIn lo hi)) (hb : EvD A tb ρ (.int j)) : EvP A (tOp (rI0 fun i j => .int (i - j)) ta tb) ρ (IntIn (lo - j) (hi - j)) :=
  evp_op ha (fun _ _ => hb) fun x y ⟨i, hx, h0, h1⟩ hy => by
    subst hx hy
    exact fun F H v w p dv dw Q c => r2_I0 F H v w p dv dw Q fun u d F3 H3 hd => c u d F3 H3 ⟨_, hd, by omega, by omega⟩
theorem evb_lt (ha : EvP A ta ρ (IntIn lo hi)) (hb : EvD A tb ρ (.int j)) : EvB A (tTest (tOp (rI0 fun i j => .bl (decide (i < j))) ta tb)) ρ (fun _ => True) :=
  etp_test (evp_op ha (fun _ _ => hb) fun x y ⟨i, hx, h0, h1⟩ hy => by
    subst hx hy
    exact fun F H v w p dv dw Q c => r2_B0 F H v w p dv dw Q fun u d F3 H3 hd => c u d F3 H3 ⟨_, hd, trivial⟩)
/-- items that are not known -/
def EvQ (A : Am) (ρ : List Ab) (tas : TA) (N : List PyData → Prop) : Prop := EvA A tas ρ (Dats N)
theorem evq_nil : EvQ A ρ tNil (fun ds => ds = []) := fun σ F H e p Q c => ea_nil σ F H e p Q fun vs bs F' H' hb => c vs bs F' H' ⟨[], hb, rfl⟩
theorem evq_cons {N1 : List PyData → Prop} (h : EvP A te ρ P1) (hr : EvQ A ρ tas N1) : EvQ A ρ (tCons te tas) (fun ds => ∃ x xs, ds = x :: xs ∧ P1 x ∧ N1 xs) :=
  eap_cons (N1 := Dats N1) h (fun _ _ => hr) fun x bs hx ⟨ds, e, hn⟩ => ⟨x :: ds, by rw [e]; rfl, x, ds, rfl, hx, hn⟩
theorem evp_tupQ {N : List PyData → Prop} (h : EvQ A ρ tas N) (hl : ∀ ds, N ds → ds.length ≤ 1000000) : EvP A (tTup tas) ρ (fun d => ∃ ds, d = .tuple ds ∧ N ds) := evp_tup h fun ds hd => le_line (hl ds hd)
theorem run_of {C : Ct} (hC : C = { nx := fun _ => P .none, rt := P }) {bs : List Ab} (hR : R_of A bs P) {t : TS} (ht : t = tRet (tOp (rIx2 K) (tVar 1) (tCall (spOf 2 R_pick) [] E (tCons (tVar 0) (tCons (tCB (rLen K) (tCons (tVar 1) tNil)) tNil))))) : Run A t bs C := by
  obtain ⟨hM, ds, rfl, h1, h2, rfl⟩ := hR
  subst ht hC
  refine run_ret (P := fun w => w ∈ ds) ?_ (fun d h => h)
  refine evp_ixL (ev_var rfl) ?_
  exact evp_pick hM rfl (ev_len_l (ev_var rfl)) (by omega)
/-- xs[i] = xs[j], xs one's own -/
theorem run_putIx {C : Ct} {tj ti : TE} (ho : ρ[n]? = some (.own ds)) (hj : EvP A tj ρ (IntIn 0 ds.length)) (hi : EvP A ti ρ (IntIn 0 ds.length)) (hn : ∀ x ∈ ds, ∀ j : Nat, j < ds.length → C.nx (ρ.set n (.own (ds.set j x)))) : Run A (tAsg (tOp (rIx2 K) (tVar n) tj) (gSub (tVar n) ti rSetL)) ρ C := fun G F0 H0 σ F H D o e => by
  obtain ⟨a, vs, k1, k2, k3, k4, k5⟩ := o.ow n ds ho
  refine ⟨_, k1, hj σ F H o.en o.pre _ fun w y F1 H1 ⟨j, hy, h0, h1⟩ po1 dw => ?_⟩
  subst hy
  have o1 := o.step po1
  obtain ⟨a', vs', q1, q2, q3, q4, q5⟩ := o1.ow n ds ho
  rw [k1] at q1
  cases q1
  obtain ⟨x, hx, hm⟩ := at_mem h0 h1
  obtain ⟨u, g1, g2⟩ := atI_das q5 hx
  refine .inl ⟨a, vs', j, u, rfl, da_int.mp dw, SqL.of q2, g1, ?_⟩
  refine ⟨_, k1, hi σ F1 H1 o1.en o1.pre _ fun w2 k F2 H2 ⟨j2, hy2, h02, h12⟩ po2 dw2 => ?_⟩
  subst hy2
  have o2 := o1.step po2
  obtain ⟨a2, vs2, r1, r2, r3, r4, r5⟩ := o2.ow n ds ho
  rw [k1] at r1
  cases r1
  have hl := r5.len
  have hix : ixN vs2.length j2 = some j2.toNat := by
    unfold ixN
    rw [if_pos (by omega), if_pos (by omega)]
  exact ⟨a, vs2, _, j2.toNat, rfl, da_int.mp dw2, r2, hix, e.nx _ σ F2 _ (hn x hm j2.toNat (by omega)) (o2.chg (vs := vs2) ho k1 r3 r4 (r5.set j2.toNat (Da.mono po2.ff _ _ g2)))⟩
end
theorem made_sub {E : Nat → PyData → Option PyData → Prop} (hE : ∀ k d o, E k d o → o = none ∨ o = some d) {ds es : List PyData} (h : Made E ds es) : ∀ e ∈ es, e ∈ ds := by
  induction h with
  | nil => exact fun e he => he
  | skip _ _ ih => exact fun e he => List.mem_append_left _ (ih e he)
  | more _ hx ih =>
    intro e he
    rcases List.mem_append.mp he with he | he
    · exact List.mem_append_left _ (ih e he)
    · rcases hE _ _ _ hx with h | h
      · cases h
      · cases h
        exact List.mem_append_right _ he
theorem unmap {α : Type} {f : α → PyData} {as : List α} : ∀ {es : List PyData}, (∀ e ∈ es, e ∈ as.map f) → ∃ rs : List α, es = rs.map f ∧ (∀ r ∈ rs, r ∈ as)
  | [], _ => ⟨[], rfl, fun _ h => by cases h⟩
  | e :: es, h => by
    obtain ⟨rs, e1, h1⟩ := unmap (es := es) fun x hx => h x (List.mem_cons_of_mem _ hx)
    obtain ⟨r, hr, e2⟩ := List.mem_map.mp (h e List.mem_cons_self)
    refine ⟨r :: rs, by rw [e1, ← e2]; rfl, fun x hx => ?_⟩
    rcases List.mem_cons.mp hx with rfl | hx
    · exact hr
    · exact h1 x hx
/-- each is made by itself -/
theorem made_all {E : Nat → PyData → Option PyData → Prop} {p : PyData → Prop} (hE : ∀ k d x, E k d (some x) → p x) {ds es : List PyData} (h : Made E ds es) : ∀ e ∈ es, p e := by
  induction h with
  | nil => exact fun e he => by cases he
  | skip _ _ ih => exact ih
  | more _ hx ih =>
    intro e he
    rcases List.mem_append.mp he with he | he
    · exact ih e he
    · rw [List.mem_singleton.mp he]
      exact hE _ _ _ hx
end Pu

/-! The start of a law: its source is made, and then all is a run. -/
namespace Pu
open PySem L2
def spLaw (K : PySem.W.Frag) : Sp := fun vs H Q _ => ∃ (a : Addr) (ns : List Int), vs = [.ref a] ∧ SqL K H a (ns.map V.int) ∧ ns.length ≤ 63 ∧ SysOk H ∧ ∀ H', Q (.bl true) H'
theorem law_start {K : PySem.W.Frag} {rest : TS} {x : Addr} {ns : List Int} {H : Hp} {Q : VK} {E : XK} {n : Nat} {D : Ends} (hS : SqL K H x (ns.map V.int)) (hn : ns.length ≤ 63) (hSy : SysOk H) (hD : D.rt = Q) (q : ∀ H', Q (.bl true) H')
    (hrun : ∀ M, IsSrc M → Run M rest (.no :: .src :: List.replicate n .no) { nx := fun _ => False, rt := fun w => w = .bool true }) :
    (tSeq (tAsg (tCall (spSource K) [] E (tCons (tVar 0) tNil)) (gName 1)) rest) D (some (.ref x) :: none :: List.replicate n none) H := by
  refine ⟨.ref x, rfl, x, ns, rfl, hS, hn, hSy, fun p l H' hk hp hl hs => ?_⟩
  refine hrun (srcAm p l) ⟨p, l, rfl⟩ (fun _ => none) (fun _ => none) H' (some (.ref x) :: some (.ref p) :: List.replicate n none) (fun _ => none) H' D ?_ ?_
  · have pr : Pre (srcAm p l) (fun _ => none) H' := ⟨(fun _ _ h => by cases h), hs, fun _ _ => rfl⟩
    refine ⟨fun _ _ h => (by cases h), ⟨by simp, fun i b hb => ?_⟩, pr, pr.refl, fun i ds hi => ?_, fun i j ds es a hi => ?_, fun i d hi => ?_, fun i j d e a hi => ?_⟩
    · match i with
      | 0 => cases hb; exact ⟨_, rfl, trivial⟩
      | 1 => cases hb; exact ⟨_, rfl, rfl⟩
      | i + 2 =>
        have hb : (List.replicate n Ab.no)[i]? = some b := hb
        have hi : i < n := by
          have := (List.getElem?_eq_some_iff.mp hb).1
          simpa using this
        rw [List.getElem?_replicate_of_lt hi] at hb
        cases hb
        exact ⟨none, by simp [hi], trivial⟩
    · exfalso
      match i with
      | 0 => cases hi
      | 1 => cases hi
      | i + 2 =>
        have hb : (List.replicate n Ab.no)[i]? = some (.own ds) := hi
        have := List.eq_of_mem_replicate (List.mem_of_getElem? hb)
        cases this
    · exfalso
      match i with
      | 0 => cases hi
      | 1 => cases hi
      | i + 2 =>
        have hb : (List.replicate n Ab.no)[i]? = some (.own ds) := hi
        have := List.eq_of_mem_replicate (List.mem_of_getElem? hb)
        cases this
    · exfalso
      match i with
      | 0 => cases hi
      | 1 => cases hi
      | i + 2 =>
        have hb : (List.replicate n Ab.no)[i]? = some (.tab d) := hi
        have := List.eq_of_mem_replicate (List.mem_of_getElem? hb)
        cases this
    · exfalso
      match i with
      | 0 => cases hi
      | 1 => cases hi
      | i + 2 =>
        have hb : (List.replicate n Ab.no)[i]? = some (.tab d) := hi
        have := List.eq_of_mem_replicate (List.mem_of_getElem? hb)
        cases this
  · refine ⟨fun _ _ _ _ h => h.elim, fun _ _ _ _ h => h.elim, fun _ _ _ _ h => h.elim, fun v d F H2 hd _ dv => ?_⟩
    have hd : d = .bool true := hd
    subst hd
    rw [da_bool.mp dv, hD]
    exact q H2
/-- to forget what is held -/
inductive Wk : List Ab → List Ab → Prop
  | nil : Wk [] []
  | no {b : Ab} {xs ys : List Ab} : Wk xs ys → Wk (.no :: xs) (b :: ys)
  | same {b : Ab} {xs ys : List Ab} : Wk xs ys → Wk (b :: xs) (b :: ys)
theorem Wk.len {xs ys : List Ab} (h : Wk xs ys) : xs.length = ys.length := by
  induction h with
  | nil => rfl
  | no _ ih => exact congrArg (· + 1) ih
  | same _ ih => exact congrArg (· + 1) ih
theorem Wk.at_ {xs ys : List Ab} (h : Wk xs ys) : ∀ (i : Nat) (b : Ab), xs[i]? = some b → (b = .no ∧ ∃ c, ys[i]? = some c) ∨ ys[i]? = some b := by
  induction h with
  | nil => intro i b h; exact .inr h
  | no _ ih =>
    intro i b h
    cases i with
    | zero => cases h; exact .inl ⟨rfl, _, rfl⟩
    | succ i => exact ih i b h
  | same _ ih =>
    intro i b h
    cases i with
    | zero => exact .inr h
    | succ i => exact ih i b h
theorem run_wk {A : Am} {t : TS} {ρ ρ' : List Ab} {C : Ct} (hw : Wk ρ' ρ) (h : Run A t ρ' C) : Run A t ρ C := fun G F0 H0 σ F H D o e =>
  h G F0 H0 σ F H D ⟨o.gf, ⟨o.en.len.trans hw.len.symm, fun i b hb => by
    rcases hw.at_ i b hb with ⟨rfl, c, hc⟩ | hc
    · obtain ⟨x, hx, _⟩ := o.en.at_ i c hc
      exact ⟨x, hx, trivial⟩
    · exact o.en.at_ i b hc⟩, o.pre0, o.post, fun i ds hi => by
    rcases hw.at_ i _ hi with ⟨z, _⟩ | hc
    · cases z
    · exact o.ow i ds hc, fun i j ds es x hi hj h1 h2 => by
    rcases hw.at_ i _ hi with ⟨z, _⟩ | hc
    · cases z
    · rcases hw.at_ j _ hj with ⟨z, _⟩ | hd
      · cases z
      · exact o.oj i j ds es x hc hd h1 h2, fun i d hi => by
    rcases hw.at_ i _ hi with ⟨z, _⟩ | hc
    · cases z
    · exact o.tw i d hc, fun i j d e x hi hj h1 h2 => by
    rcases hw.at_ i _ hi with ⟨z, _⟩ | hc
    · cases z
    · rcases hw.at_ j _ hj with ⟨z, _⟩ | hd
      · cases z
      · exact o.tj i j d e x hc hd h1 h2⟩ e
theorem Wk.refl : ∀ xs : List Ab, Wk xs xs
  | [] => .nil
  | _ :: xs => .same (Wk.refl xs)
theorem Wk.set {xs ys : List Ab} (h : Wk xs ys) : ∀ (i : Nat) (b : Ab), Wk (xs.set i b) (ys.set i b) := by
  induction h with
  | nil => intro i b; exact .nil
  | no h ih =>
    intro i b
    cases i with
    | zero => exact .same h
    | succ i => exact .no (ih i b)
  | same h ih =>
    intro i b
    cases i with
    | zero => exact .same h
    | succ i => exact .same (ih i b)
theorem Wk.setNo {xs ys : List Ab} (h : Wk xs ys) : ∀ {i : Nat} {b : Ab}, xs[i]? = some .no → Wk xs (ys.set i b) := by
  induction h with
  | nil => intro i b e; exact .nil
  | no h ih =>
    intro i b e
    cases i with
    | zero => exact .no h
    | succ i => exact .no (ih e)
  | same h ih =>
    intro i b e
    cases i with
    | zero => cases e; exact .no h
    | succ i => exact .same (ih e)
theorem Wk.trans {xs ys zs : List Ab} (h : Wk xs ys) (h2 : Wk ys zs) : Wk xs zs := by
  induction h generalizing zs with
  | nil => exact h2
  | no h ih =>
    cases h2 with
    | no h2 => exact .no (ih h2)
    | same h2 => exact .no (ih h2)
  | same h ih =>
    cases h2 with
    | no h2 => exact .no (ih h2)
    | same h2 => exact .same (ih h2)
section
variable {A : Am} {ρ : List Ab} {C : Ct} {t : TS} {te ta tb : TE} {tt tu : TT} {b : Bool} {x : PyData} {s : Str} {K : PySem.W.Frag}
/-- a test that fails -/
theorem run_no (h : EvT A tt (ρ.map fz) false) (hn : C.nx ρ) : Run A (tIfS tt t tNext) ρ C := run_ifD h (fun e => by cases e) fun _ => run_next hn
theorem et_rep (x : PyData) (ha : EvD A ta ρ x) (hb : EvD A tb ρ x) (hx : NC x) : EvT A (tTest (tOp (rNe2 K) (tCB (rRepr K) (tCons ta tNil)) (tCB (rRepr K) (tCons tb tNil)))) ρ false :=
  (et_test (ev_neS2 (ev_reprN ha hx) (ev_reprN hb hx))).to (by simp)
theorem et_shn (ha : EvD A ta ρ x) (hb : EvD A tb ρ (.str x.shown)) (hx : NC x) : EvT A (tTest (tOp (rNe2 K) (tCB (rRepr K) (tCons ta tNil)) tb)) ρ false :=
  (et_test (ev_neS2 (ev_reprN ha hx) hb)).to (by simp)
theorem et_orF (h1 : EvT A tt ρ false) (h2 : EvT A tu ρ false) : EvT A (tOr tt tu) ρ false := (et_or h1 fun _ => h2).to rfl
end
theorem any_take {α : Type} {l : List α} {k : Nat} {x : α} (p : α → Bool) (h : l[k]? = some x) : (l.take (k + 1)).any p = ((l.take k).any p || p x) := by
  rw [List.take_succ, h, List.any_append]
  simp
end Pu

/-! zip of two lists, of two tuples. -/
namespace Pu
open PySem PySem.Spec PyProof.Rows L2 RZ
def zipD (ds es : List PyData) : List PyData := (ds.zip es).map fun p => .tuple [p.1, p.2]
theorem zipD_len {ds es : List PyData} : (zipD ds es).length = min ds.length es.length := by
  unfold zipD
  rw [List.length_map, List.length_zip]
theorem zipD_get {ds es : List PyData} {i : Nat} {d : PyData} (h : (zipD ds es)[i]? = some d) : ∃ x y, ds[i]? = some x ∧ es[i]? = some y ∧ d = .tuple [x, y] := by
  unfold zipD at h
  rw [List.getElem?_map] at h
  cases e : (ds.zip es)[i]? with
  | none => rw [e] at h; cases h
  | some p =>
    rw [e] at h
    cases h
    obtain ⟨h1, h2⟩ := List.getElem?_zip_eq_some.mp e
    exact ⟨p.1, p.2, h1, h2, rfl⟩
theorem itd_zipl {K : PySem.W.Frag} {F : Hp} {a b : Addr} {xs ys : List V} {ds es : List PyData} (h : F a = some (.lst xs)) (hd : Das F ds xs) (k : F b = some (.lst ys)) (kd : Das F es ys) : ItD (Itz K a b) F (zipD ds es) where
  go := fun i F' H h1 h2 hi => by
    have hl : i < ds.length ∧ i < es.length := by
      rw [zipD_len] at hi
      omega
    have hx : i < xs.length := by rw [hd.len]; exact hl.1
    have hy : i < ys.length := by rw [kd.len]; exact hl.2
    exact ⟨xs, ys, xs[i], ys[i], SqL.of (h2 _ _ (h1 _ _ h)), SqL.of (h2 _ _ (h1 _ _ k)), List.getElem?_eq_getElem hx, List.getElem?_eq_getElem hy⟩
  yld := fun i F' H x H' d h1 h2 hy hdi => by
    obtain ⟨T, y, z, rfl, nT, rfl, hy, hz⟩ := hy
    obtain ⟨d0, d1, e0, e1, rfl⟩ := zipD_get hdi
    obtain ⟨v, hv, dv⟩ := hd.get e0
    obtain ⟨u, hu, du⟩ := kd.get e1
    have e2 := hy xs (SqL.of (h2 _ _ (h1 _ _ h)))
    rw [hv] at e2
    cases e2
    have e3 := hz ys (SqL.of (h2 _ _ (h1 _ _ k)))
    rw [hu] at e3
    cases e3
    have fT : F' T = none := by
      cases e : F' T with
      | none => rfl
      | some o => rw [h2 _ _ e] at nT; cases nT
    refine ⟨upd F' T (.tup [y, z]), fun b o e => by rw [upd_ne (ne_of_none e nT)]; exact e, le_upd fT, fun b o e => ?_, fun b o e => ?_, da_tup.mpr ⟨T, _, rfl, upd_same, .cons (Da.mono (fun b o e => le_upd fT b o (h1 _ _ e)) _ _ dv) (.cons (Da.mono (fun b o e => le_upd fT b o (h1 _ _ e)) _ _ du) .nil)⟩⟩
    · by_cases hb : b = T
      · subst hb; rw [upd_same] at e ⊢; exact e
      · rw [upd_ne hb] at e ⊢; exact h2 _ _ e
    · by_cases hb : b = T
      · subst hb; exact .inr nT
      · rw [upd_ne hb] at e; exact .inl e
  stop := fun F' H h1 h2 => ⟨xs, ys, SqL.of (h2 _ _ (h1 _ _ h)), SqL.of (h2 _ _ (h1 _ _ k)), by rw [hd.len, kd.len, zipD_len]; omega⟩
theorem itd_zipt {K : PySem.W.Frag} {F : Hp} {a b : Addr} {xs ys : List V} {ds es : List PyData} (h : F a = some (.tup xs)) (hd : Das F ds xs) (k : F b = some (.tup ys)) (kd : Das F es ys) : ItD (ItzT K a b) F (zipD ds es) where
  go := fun i F' H h1 h2 hi => by
    have hl : i < ds.length ∧ i < es.length := by
      rw [zipD_len] at hi
      omega
    have hx : i < xs.length := by rw [hd.len]; exact hl.1
    have hy : i < ys.length := by rw [kd.len]; exact hl.2
    exact ⟨xs, ys, xs[i], ys[i], SqT.of (h2 _ _ (h1 _ _ h)), SqT.of (h2 _ _ (h1 _ _ k)), List.getElem?_eq_getElem hx, List.getElem?_eq_getElem hy⟩
  yld := fun i F' H x H' d h1 h2 hy hdi => by
    obtain ⟨T, y, z, rfl, nT, rfl, hy, hz⟩ := hy
    obtain ⟨d0, d1, e0, e1, rfl⟩ := zipD_get hdi
    obtain ⟨v, hv, dv⟩ := hd.get e0
    obtain ⟨u, hu, du⟩ := kd.get e1
    have e2 := hy xs (SqT.of (h2 _ _ (h1 _ _ h)))
    rw [hv] at e2
    cases e2
    have e3 := hz ys (SqT.of (h2 _ _ (h1 _ _ k)))
    rw [hu] at e3
    cases e3
    have fT : F' T = none := by
      cases e : F' T with
      | none => rfl
      | some o => rw [h2 _ _ e] at nT; cases nT
    refine ⟨upd F' T (.tup [y, z]), fun b o e => by rw [upd_ne (ne_of_none e nT)]; exact e, le_upd fT, fun b o e => ?_, fun b o e => ?_, da_tup.mpr ⟨T, _, rfl, upd_same, .cons (Da.mono (fun b o e => le_upd fT b o (h1 _ _ e)) _ _ dv) (.cons (Da.mono (fun b o e => le_upd fT b o (h1 _ _ e)) _ _ du) .nil)⟩⟩
    · by_cases hb : b = T
      · subst hb; rw [upd_same] at e ⊢; exact e
      · rw [upd_ne hb] at e ⊢; exact h2 _ _ e
    · by_cases hb : b = T
      · subst hb; exact .inr nT
      · rw [upd_ne hb] at e; exact .inl e
  stop := fun F' H h1 h2 => ⟨xs, ys, SqT.of (h2 _ _ (h1 _ _ h)), SqT.of (h2 _ _ (h1 _ _ k)), by rw [hd.len, kd.len, zipD_len]; omega⟩
section
variable {A : Am} {ρ : List Ab} {ta tb : TE} {ds es : List PyData} {K : PySem.W.Frag}
theorem ei_zip_l (h : EvD A ta ρ (.list ds)) (h' : EvD A tb ρ (.list es)) : EvI A (iZipA K (tCons ta (tCons tb tNil))) ρ (fun w => w = zipD ds es) := fun σ F H e p R c => (ea_cons h (ea_cons h' ea_nil)) σ F H e p _ fun vs bs F1 H1 hb po hv => by
  subst hb
  obtain ⟨v, u, ev, hv1, hu1⟩ := vas2 hv
  subst ev
  obtain ⟨a, xs, rfl, ha, hx⟩ := da_list.mp hv1
  obtain ⟨b, ys, rfl, hb, hy⟩ := da_list.mp hu1
  exact ⟨a, b, xs, ys, rfl, .inl ⟨SqL.of (po.fh _ _ ha), SqL.of (po.fh _ _ hb), c _ _ F1 H1 rfl po (itd_zipl ha hx hb hy)⟩⟩
theorem ei_zip_t (h : EvD A ta ρ (.tuple ds)) (h' : EvD A tb ρ (.tuple es)) : EvI A (iZipA K (tCons ta (tCons tb tNil))) ρ (fun w => w = zipD ds es) := fun σ F H e p R c => (ea_cons h (ea_cons h' ea_nil)) σ F H e p _ fun vs bs F1 H1 hb po hv => by
  subst hb
  obtain ⟨v, u, ev, hv1, hu1⟩ := vas2 hv
  subst ev
  obtain ⟨a, xs, rfl, ha, hx⟩ := da_tup.mp hv1
  obtain ⟨b, ys, rfl, hb, hy⟩ := da_tup.mp hu1
  exact ⟨a, b, xs, ys, rfl, .inr ⟨SqT.of (po.fh _ _ ha), SqT.of (po.fh _ _ hb), c _ _ F1 H1 rfl po (itd_zipt ha hx hb hy)⟩⟩
/-- zip of two maps of one list -/
theorem zipD_map {α : Type} (f g : α → PyData) (as : List α) : zipD (as.map f) (as.map g) = as.map fun a => .tuple [f a, g a] := by
  unfold zipD
  induction as with
  | nil => rfl
  | cons a as ih => simp only [List.map_cons, List.zip_cons_cons]; rw [ih]
theorem ei_zip_lm {α : Type} {as : List α} {f g : α → PyData} (h : EvD A ta ρ (.list (as.map f))) (h' : EvD A tb ρ (.list (as.map g))) : EvI A (iZipA K (tCons ta (tCons tb tNil))) ρ (fun w => w = as.map fun a => .tuple [f a, g a]) := by
  have := ei_zip_l (K := K) h h'
  rw [zipD_map] at this
  exact this
theorem kpi_zip {X : Cx} (K : PySem.W.Frag) {e e2 : Expr} {ta : TA} {p pos tpos : Pos} {elts : List Expr} {kk : Nat} (hg : Gl X "zip") (hm : X.mg "zip" = none) (ha : PA X [e, e2] ta)
    (hs : starEach [e, e2] X.env = (false, eval e X.env) :: starEach [e2] X.env := by rfl) (hpl : (backTo pos (starEach [e2] X.env)).any (·.1) = false := by rfl) (h : X.K = K := by rfl) :
    PI X (.Tuple elts kk tpos) (.Call (.Name "zip" p) [e, e2] [] pos) (iZipA K ta) := by
  subst h
  exact pi_zipA hg hm ha hs hpl
end
end Pu

/-! sorted of a list of data that are alike. -/
namespace Pu
open PySem PySem.Spec PyProof.Rows L2 PySem.W
def sortV (xs : List V) (ds : List PyData) : List V := ((xs.zip ds).mergeSort (dataLe false fun b => b.2)).map (·.1)
def sortL (ds : List PyData) : List PyData := ds.mergeSort (dataLe false fun d => d)
def rSortD (K : PySem.W.Frag) : List V → Hp → VK → Prop := fun vs H Q => ∃ (a : Addr) (xs : List V) (ds : List PyData), vs = [V.ref a] ∧ SqL K H a xs ∧ DpAll K H xs ds ∧ AllAlike ds ∧ PySem.W.Sortable ds ∧ (∀ d ∈ ds, d.depth ≤ 64) ∧
  ∀ p, H p = none → Q (.ref p) (upd H p (.lst (sortV xs ds)))
theorem dpAll_len {K : PySem.W.Frag} {H : Hp} : ∀ {xs : List V} {ds : List PyData}, DpAll K H xs ds → xs.length = ds.length
  | _, _, .nil => rfl
  | _, _, .cons _ h => congrArg (· + 1) (dpAll_len h)
theorem each_rel {K : PySem.W.Frag} {H : Hp} {R : Value → V → PyData → Prop} (hR : ∀ x d u, Dp K H x d → RelV x u → R u x d) : ∀ {xs : List V} {ds : List PyData} {us : List Value}, DpAll K H xs ds → Vals xs us → EachIs (fun u (b : V × PyData) => R u b.1 b.2) us (xs.zip ds)
  | _, _, _, .nil, .nil => .nil
  | _, _, _, .cons hd h, .cons hr r => .cons (hR _ _ _ hd hr) (each_rel hR h r)
theorem each_vals : ∀ {us : List Value} {bs : List (V × PyData)}, EachIs (fun u (b : V × PyData) => RelV b.1 u) us bs → Vals (bs.map (·.1)) us
  | _, _, .nil => .nil
  | _, _, .cons h t => .cons h (each_vals t)
theorem zip_snd {α β : Type} : ∀ {xs : List α} {ds : List β}, xs.length = ds.length → (xs.zip ds).map (·.2) = ds
  | [], [], _ => rfl
  | _ :: xs, _ :: ds, h => by
    simp only [List.zip_cons_cons, List.map_cons]
    rw [zip_snd (by simpa using h)]
section
variable {X : Cx}
theorem cr_sortD (K : PySem.W.Frag) (hu : X.A.units + 70 < cLine) (hK : X.K = K := by rfl) : CallR X (.builtin "sorted") (rSortD K) := by
  subst hK
  intro pins s σ H vs us Q I r h
  obtain ⟨a, xs, ds, rfl, hs, hd, ha, hk, hdep, q⟩ := h
  obtain ⟨its, rv, hl, hz⟩ := I.list hs
  obtain ⟨u, rfl, ru⟩ := vals1 r
  obtain rfl : u = Value.ref a := ru
  have hlen := dpAll_len hd
  have em : (xs.zip ds).map (fun b => b.2) = ds := zip_snd hlen
  refine sorted_data (bs := xs.zip ds) (enc := fun b => b.2) (R := fun u b => RelV b.1 u) hl.isList (each_rel (R := fun u x d => RelV x u) (fun _ _ _ _ h => h) hd rv)
    (each_rel (R := fun u x d => ∃ as, Reads s.heap u d as) (fun x d u hx hr => Dp.reads I d x u hx hr) hd rv) (by rw [em]; exact ha) (by rw [em]; exact hk) ?_ (fun b hb => ?_) (fun out ho he => ?_)
  · rw [List.length_zip]
    exact Nat.le_trans (Nat.min_le_left _ _) hz
  · have : b.2 ∈ ds := by
      have := List.mem_map_of_mem (f := fun b : V × PyData => b.2) hb
      rw [em] at this
      exact this
    have := hdep _ this
    omega
  · obtain ⟨c, hc⟩ := sortedAll_at s.heap its out.toArray
    have hfr : s.heap.objs.size ≤ s.heap.objs.size + 1 := Nat.le_succ _
    refine ⟨.ref (s.heap.objs.size + 1), upd H (s.heap.objs.size + 1) (.lst (sortV xs ds)), I.laid (t' := s.toks) (fun _ _ => sortedAll_old) hfr ⟨?_, out, c, each_vals he, hc⟩, rfl, q _ (I.hok.fresh hfr)⟩
    show ((List.mergeSort _ _).map _).length ≤ _
    rw [List.length_map, List.length_mergeSort, List.length_zip]
    exact Nat.le_trans (Nat.min_le_left _ _) hz
end
theorem das_pairs {F : Hp} : ∀ {l : List (V × PyData)}, (∀ p ∈ l, Da F p.2 p.1) → Das F (l.map (·.2)) (l.map (·.1))
  | [], _ => rfl
  | p :: l, h => ⟨p.1, l.map (·.1), rfl, h p List.mem_cons_self, das_pairs fun q hq => h q (List.mem_cons_of_mem _ hq)⟩
theorem das_zip {F : Hp} : ∀ {ds : List PyData} {vs : List V}, Das F ds vs → ∀ p ∈ vs.zip ds, Da F p.2 p.1
  | [], vs, h, p, hp => by
    rw [show vs = [] from h] at hp
    cases hp
  | d :: ds, vs, ⟨y, ys, e, h1, h2⟩, p, hp => by
    subst e
    rcases List.mem_cons.mp hp with rfl | hp
    · exact h1
    · exact das_zip h2 p hp
theorem das_sort {F : Hp} {ds : List PyData} {vs : List V} (h : Das F ds vs) : Das F (sortL ds) (sortV vs ds) := by
  have e : sortL ds = ((vs.zip ds).mergeSort (dataLe false fun b => b.2)).map (·.2) := by
    rw [List.map_mergeSort (r := dataLe false fun b : V × PyData => b.2) (s := dataLe false fun d => d) (f := (·.2)) (hl := fun _ _ _ _ => rfl), zip_snd h.len]
    rfl
  rw [e]
  exact das_pairs fun p hp => das_zip h p ((List.mergeSort_perm _ _).mem_iff.mp hp)
section
variable {A : Am} {ρ : List Ab} {te : TE} {ds : List PyData} {K : PySem.W.Frag}
theorem el_sorted (h : EvD A te ρ (.list ds)) (hn : noDs ds = true) (ha : AllAlike ds) (hk : PySem.W.Sortable ds) (hd : ∀ d ∈ ds, d.depth ≤ 64) : EvL A (tCB (rSortD K) (tCons te tNil)) ρ (sortL ds) := evn_cb (ea_cons h ea_nil) fun _ e => by
  rw [e]
  exact fun F H vs p hv Q c => by
    obtain ⟨v, ev, hv1⟩ := vas1 hv
    subst ev
    have hv := hv1
    obtain ⟨a, xs, rfl, hfa, hx⟩ := da_list.mp hv
    exact ⟨a, xs, ds, rfl, SqL.of (p.fh _ _ hfa), Das.dp p.fh _ _ hn hx, ha, hk, hd, fun l hl => c l _ _ F _ rfl (Post.new0 p hl) (pre_none p hl) hl upd_same (das_sort hx)⟩
/-- of a map -/
theorem sortL_map {α : Type} (f : α → PyData) (as : List α) : sortL (as.map f) = (as.mergeSort (dataLe false f)).map f := by
  unfold sortL
  rw [List.map_mergeSort (r := dataLe false f) (s := dataLe false fun d => d) (f := f) (hl := fun _ _ _ _ => rfl)]
end
end Pu

/-! Own lists read while they are one's own, where what is read has no list in it; starred items; tests of picks. -/
namespace Pu
open PySem L2 StX
mutual
def noL : PyData → Bool
  | .list _ => false
  | .dict _ => false
  | .tuple ds => noLs ds
  | _ => true
def noLs : List PyData → Bool
  | [] => true
  | d :: ds => noL d && noLs ds
end
def tupF (F F1 : Hp) : Hp := fun a => match F a with
  | some x => some x
  | none => match F1 a with
    | some (.tup xs) => some (.tup xs)
    | _ => none
theorem tupF_tup {F F1 : Hp} (h : ∀ a x, F a = some x → F1 a = some x) {a : Addr} {xs : List V} (e : F1 a = some (.tup xs)) : tupF F F1 a = some (.tup xs) := by
  unfold tupF
  cases q : F a with
  | some x =>
    have := h _ _ q
    rw [e] at this
    exact this.symm
  | none => simp only [e]
theorem tupF_some {F F1 : Hp} {a : Addr} {x : HO} (e : tupF F F1 a = some x) : F a = some x ∨ (F a = none ∧ F1 a = some x ∧ ∃ xs, x = .tup xs) := by
  unfold tupF at e
  cases q : F a with
  | some y => rw [q] at e; exact .inl e
  | none =>
    rw [q] at e
    cases r : F1 a with
    | none => rw [r] at e; cases e
    | some y =>
      rw [r] at e
      cases y with
      | tup xs =>
        have e : some (HO.tup xs) = some x := e
        cases e
        exact .inr ⟨rfl, rfl, xs, rfl⟩
      | _ => cases e
mutual
theorem Da.tup {F F1 : Hp} (h : ∀ a x, F a = some x → F1 a = some x) : ∀ (d : PyData) (v : V), noL d = true → Da F1 d v → Da (tupF F F1) d v
  | .none, v, _, hd => da_none.mpr (da_none.mp hd)
  | .bool b, v, _, hd => da_bool.mpr (da_bool.mp hd)
  | .int b, v, _, hd => da_int.mpr (da_int.mp hd)
  | .str b, v, _, hd => da_str.mpr (da_str.mp hd)
  | .list _, v, hn, hd => by simp [noL] at hn
  | .dict _, v, hn, hd => by simp [noL] at hn
  | .tuple ds, v, hn, hd => by
    obtain ⟨a, xs, rfl, ha, hx⟩ := da_tup.mp hd
    exact da_tup.mpr ⟨a, xs, rfl, tupF_tup h ha, Das.tup h ds xs (by simpa [noL] using hn) hx⟩
theorem Das.tup {F F1 : Hp} (h : ∀ a x, F a = some x → F1 a = some x) : ∀ (ds : List PyData) (vs : List V), noLs ds = true → Das F1 ds vs → Das (tupF F F1) ds vs
  | [], vs, _, hd => hd
  | d :: ds, vs, hn, ⟨y, ys, e, h1, h2⟩ => by
    simp only [noLs, Bool.and_eq_true] at hn
    exact ⟨y, ys, e, Da.tup h d y hn.1 h1, Das.tup h ds ys hn.2 h2⟩
end
section
variable {A : Am} {G F0 H0 F H F1 H1 : Hp} {ρ : List Ab} {σ : St} {C : Ct} {te ti ta tb : TE} {tas : TA} {P P1 : PyData → Prop} {n i : Nat} {ds : List PyData} {K : PySem.W.Frag} {d : PyData}
theorem Ok.look (o : Ok A G F0 H0 ρ σ F H) (po : Post A (frzF ρ σ F H) H F1 H1) : Post A F H (tupF F F1) H1 where
  le := po.le
  ff := fun a x h => by unfold tupF; rw [h]
  fh := fun a x h => by
    rcases tupF_some h with h | ⟨_, h, _⟩
    · exact po.fh _ _ (po.ff _ _ (o.frz_le _ _ h))
    · exact po.fh _ _ h
  fr := fun a x h => by
    rcases tupF_some h with h | ⟨hn, h, xs, rfl⟩
    · exact .inl h
    · rcases po.fr _ _ h with z | z
      · unfold frzF at z
        split at z
        · rename_i hc
          obtain ⟨j, c, e, ⟨es, rfl⟩ | ⟨d, rfl⟩, hs⟩ := hc
          · obtain ⟨b, vs, h1, h2, _⟩ := o.ow j es e
            rw [hs] at h1
            cases h1
            rw [h2] at z
            cases z
          · obtain ⟨b, vs, h1, h2, _, _, h5⟩ := o.tw j d e
            rw [hs] at h1
            cases h1
            rw [h2] at z
            exact absurd (Option.some.inj z) (h5.nt xs)
        · rw [hn] at z; cases z
      · exact .inr z
  am := po.am
theorem Ok.look_le (o : Ok A G F0 H0 ρ σ F H) (po : Post A (frzF ρ σ F H) H F1 H1) : ∀ a x, F a = some x → F1 a = some x := fun a x h => po.ff _ _ (o.frz_le _ _ h)
/-- g = e, e reads own lists, what it gives has no list -/
theorem run_asgF {g : TG} (h : EvP A te (ρ.map fz) P) (hL : ∀ d, P d → noL d = true) (hg : ∀ d, P d → ∃ l, TgP g d l ∧ C.nx (setA ρ l)) : Run A (tAsg te g) ρ C := fun G F0 H0 σ F H D o e =>
  h σ _ H o.frz.en o.frz.pre _ fun v d F1 H1 hd po dv => by
    obtain ⟨l, hg, hn⟩ := hg d hd
    have po2 := o.look po
    have o1 := o.step po2
    obtain ⟨vs, k1, k2⟩ := hg _ H1 v (Da.tup (o.look_le po) _ _ (hL d hd) dv) po2.fh
    exact k2 σ _ (e.nx _ _ _ H1 hn (o1.sets k1))
theorem run_setF (h : EvP A te (ρ.map fz) P) (hL : ∀ d, P d → noL d = true) (hn : ∀ d, P d → C.nx (ρ.set i (.dat d))) : Run A (tAsg te (gName i)) ρ C :=
  run_asgF h hL fun d hd => ⟨[(i, d)], tg_name, hn d hd⟩
/-- xs[i] = e, xs one's own, e reads own lists -/
theorem run_putF {P2 : PyData → Prop} (ho : ρ[n]? = some (.own ds)) (h : EvP A te (ρ.map fz) P1) (hL : ∀ d, P1 d → noL d = true) (h2 : ∀ x, P1 x → EvP A ti ρ P2) (hn : ∀ x k, P1 x → P2 k → ∃ j : Nat, k = .int j ∧ j < ds.length ∧ ds.length < 2 ^ 62 ∧ C.nx (ρ.set n (.own (ds.set j x)))) : Run A (tAsg te (gSub (tVar n) ti rSetL)) ρ C := fun G F0 H0 σ F H D o e =>
  h σ _ H o.frz.en o.frz.pre _ fun v x F1 H1 hx po dv => by
    have po1 := o.look po
    have dv := Da.tup (o.look_le po) _ _ (hL x hx) dv
    have o1 := o.step po1
    obtain ⟨a, vs, k1, _⟩ := o.ow n ds ho
    refine ⟨_, k1, h2 x hx σ _ H1 o1.en o1.pre _ fun w k F2 H2 hk po2 dw => ?_⟩
    have o2 := o1.step po2
    obtain ⟨a', vs', q1, q2, q3, q4, q5⟩ := o2.ow n ds ho
    rw [k1] at q1
    cases q1
    obtain ⟨j, rfl, hj, hz, hn⟩ := hn x k hx hk
    have hl := q5.len
    have hix : ixN vs'.length (j : Int) = some j := by
      unfold ixN
      rw [if_pos (by omega), if_pos (by omega), Int.toNat_natCast]
    exact ⟨a, vs', _, j, rfl, da_int.mp dw, q2, hix, e.nx _ σ F2 _ hn (o2.chg (vs := vs') ho k1 q3 q4 (q5.set j (Da.mono po2.ff _ _ dv)))⟩
/-- xs.append(e), xs one's own, e reads own lists -/
theorem run_appF {r : V → List V → Hp → VK → Prop} (hr : r = fun x xs H Q => ∃ l ys y, x = V.ref l ∧ xs = [y] ∧ H l = some (HO.lst ys) ∧ ys.length < sizeLine ∧ Q V.non (upd H l (HO.lst (ys ++ [y])))) {T : String} (hT : T = "list")
    (ho : ρ[i]? = some (.own ds)) (hl : ds.length < sizeLine) (h : EvP A te (ρ.map fz) P) (hL : ∀ d, P d → noL d = true) (hn : ∀ d, P d → C.nx (ρ.set i (.own (ds ++ [d])))) : Run A (tDrop (tBM K T r (tVar i) (tCons te tNil))) ρ C := fun G F0 H0 σ F H D o e => by
  subst hr hT
  obtain ⟨a, vs, k1, k2, k3, k4, k5⟩ := o.ow i ds ho
  refine ⟨_, k1, .inl ⟨rfl, _, .inl (.inl k2)⟩, h σ _ H o.frz.en o.frz.pre _ fun v d F1 H1 hd po dv => ?_⟩
  have po1 := o.look po
  have dv := Da.tup (o.look_le po) _ _ (hL d hd) dv
  have o1 := o.step po1
  obtain ⟨a', vs', q1, q2, q3, q4, q5⟩ := o1.ow i ds ho
  rw [k1] at q1
  cases q1
  exact ⟨a, vs', v, rfl, rfl, q2, by rw [q5.len]; exact hl, e.nx _ σ _ _ (hn d hd) (o1.chg (vs := vs') ho k1 q3 q4 (q5.snoc dv))⟩
theorem vas_app {F : Hp} : ∀ {ds : List PyData} {xs : List V} {bs : List Ab} {ys : List V}, Das F ds xs → Vas A F bs ys → Vas A F (ds.map Ab.dat ++ bs) (xs ++ ys)
  | [], xs, bs, ys, h, h2 => by
    rw [show xs = [] from h]
    exact h2
  | d :: ds, xs, bs, ys, ⟨y, zs, e, h1, h3⟩, h2 => by
    subst e
    exact ⟨y, zs ++ ys, rfl, h1, vas_app h3 h2⟩
/-- *e among items -/
theorem ea_starT {bs : List Ab} {ds : List PyData} (h : EvD A te ρ (.tuple ds)) (hr : EvA A tas ρ (fun w => w = bs)) : EvA A (tStar K te tas) ρ (fun w => w = ds.map Ab.dat ++ bs) := fun σ F H e p Q c =>
  h σ F H e p _ fun v x F1 H1 hx po1 dv => by
    subst hx
    obtain ⟨a, xs, rfl, ha, hx⟩ := da_tup.mp dv
    refine ⟨a, xs, rfl, .inl (SqT.of (po1.fh _ _ ha)), hr σ F1 H1 (e.mono po1.ff) (p.next po1) _ fun ws bs' F2 H2 hb po2 hw => ?_⟩
    subst hb
    exact c (xs ++ ws) _ F2 H2 rfl (po1.trans p.am po2) (vas_app (Das.mono po2.ff _ _ hx) hw)
theorem pa_starK {X : Cx} (K : PySem.W.Frag) {e : Expr} {es : List Expr} {te : TE} {t : TA} {p : Pos} (he : PE X e te) (hr : PA X es t) (hs : starEach (.Starred e p :: es) X.env = (true, eval e X.env) :: starEach es X.env := by rfl) (h : X.K = K := by rfl) : PA X (.Starred e p :: es) (tStar K te t) := by
  subst h
  exact pa_star he hr hs
/-- tests of what was picked -/
theorem evb_eqI {lo hi j : Int} (ha : EvP A ta ρ (IntIn lo hi)) (hb : EvD A tb ρ (.int j)) : EvB A (tTest (tOp (rEq2 K) ta tb)) ρ (fun _ => True) :=
  etp_test (evp_op ha (fun _ _ => hb) fun x y ⟨i, hx, h0, h1⟩ hy => by
    subst hx hy
    exact fun F H v w p dv dw Q c => (r2_l (r2_eqS (v := .int i) (w := .int j) (fun _ _ => da_int.mp) (fun _ _ => da_int.mp) rfl)) F H v w p dv dw Q fun u d F3 H3 hd => c u d F3 H3 ⟨_, hd, trivial⟩)
theorem evb_any {tt : TT} {B : Bool → Prop} (h : EvB A tt ρ B) : EvB A tt ρ (fun _ => True) := EvB.imp h fun _ _ => trivial
theorem run_par3 {m l : Nat} {tc : TE} {x y z : PyData} (h : EvAs A ρ (tCons ta (tCons tb (tCons tc tNil))) [x, y, z]) (hn : C.nx (((ρ.set n (.dat x)).set m (.dat y)).set l (.dat z))) : Run A (tPar3 n m l (tCons ta (tCons tb (tCons tc tNil)))) ρ C := fun G F0 H0 σ F H D o e =>
  h.ea σ F H o.en o.pre _ fun vs bs F1 H1 hb po hv => by
    subst hb
    obtain ⟨v, vs1, ev, hv1, hv2⟩ := hv
    obtain ⟨w, vs2, ev2, hw1, hw2⟩ := hv2
    obtain ⟨u, vs3, ev3, hu1, hu2⟩ := hw2
    have ev4 : vs3 = [] := hu2
    subst ev4 ev3 ev2 ev
    exact ⟨v, w, u, rfl, e.nx _ _ F1 H1 hn ((((o.step po).setD n hv1).setD m hw1).setD l hu1)⟩
/-- a cut between two statements -/
theorem run_cut {t u : TS} (I : List Ab → Prop) (h : Run A t ρ { C with nx := I }) (h2 : ∀ ρ', I ρ' → Run A u ρ' C) : Run A (tSeq t u) ρ C := run_seq (h.imp (fun ρ k => h2 ρ k) (fun _ h => h) (fun _ h => h) (fun _ h => h))
end
end Pu

/-! Data with empty dicts in them: their display, their text. -/
namespace Pu
open PySem PySem.Spec PyProof.Rows L2
mutual
inductive Dx (H : Hp) : V → PyData → Prop
  | non : Dx H .non .none
  | bl (b : Bool) : Dx H (.bl b) (.bool b)
  | int (i : Int) : Dx H (.int i) (.int i)
  | str (x : Str) : Dx H (.str x) (.str x)
  | lst {a : Addr} {xs : List V} {ds : List PyData} : H a = some (.lst xs) → DxAll H xs ds → Dx H (.ref a) (.list ds)
  | tup {a : Addr} {xs : List V} {ds : List PyData} : H a = some (.tup xs) → DxAll H xs ds → Dx H (.ref a) (.tuple ds)
  | dct {a : Addr} : H a = some (.dK []) → Dx H (.ref a) (.dict [])
inductive DxAll (H : Hp) : List V → List PyData → Prop
  | nil : DxAll H [] []
  | cons {v : V} {vs : List V} {d : PyData} {ds : List PyData} : Dx H v d → DxAll H vs ds → DxAll H (v :: vs) (d :: ds)
end
section
variable {X : Cx} {pins : List (Addr × Obj)} {σ : L2.St} {H : Hp} {s : Shared}
theorem sys_l {a : Addr} {xs : List V} (hS : SysOk H) (h : H a = some (.lst xs)) : sysModules ≠ a := fun z => by
  obtain ⟨ob, u, e⟩ := hS
  rw [z, h] at e
  exact HO.noConfusion (Option.some.inj e)
theorem sys_d {a : Addr} {kvs : List (Key × V)} (hS : SysOk H) (h : H a = some (.dK kvs)) : sysModules ≠ a := fun z => by
  obtain ⟨ob, u, e⟩ := hS
  rw [z, h] at e
  exact HO.noConfusion (Option.some.inj e)
mutual
theorem Dx.reads {y : Addr} (I : Inv X pins σ H s) (hl : ∀ a xs, H a = some (.lst xs) → y ≠ a) (hd : ∀ a, H a = some (.dK []) → y ≠ a) : ∀ (d : PyData) (v : V) (u : Value), Dx H v d → RelV v u → ∃ as, Reads s.heap u d as ∧ y ∉ as
  | .none, _, _, h, r => by
    cases h
    cases r
    exact ⟨_, Reads.none, by simp⟩
  | .bool b, _, _, h, r => by
    cases h
    cases r
    exact ⟨_, Reads.bool b, by simp⟩
  | .int i, _, _, h, r => by
    cases h
    obtain ⟨t, rfl⟩ := r
    exact ⟨_, Reads.int i t, by simp⟩
  | .str x, _, _, h, r => by
    cases h
    obtain ⟨t, rfl⟩ := r
    exact ⟨_, Reads.str x t, by simp⟩
  | .list ds, _, _, h, r => by
    cases h with
    | lst ha hx =>
      cases r
      obtain ⟨_, its, n, rv, e⟩ := I.hok _ _ ha
      obtain ⟨as, hr, hn⟩ := DxAll.reads I hl hd ds _ its hx rv
      refine ⟨_, Reads.list e rfl rfl (by simpa using hr), ?_⟩
      intro z
      rcases List.mem_cons.mp z with z | z
      · exact hl _ _ ha z
      · exact hn z
  | .tuple ds, _, _, h, r => by
    cases h with
    | tup ha hx =>
      cases r
      obtain ⟨_, its, rv, o, e, hc, n, hdt⟩ := I.hok _ _ ha
      obtain ⟨as, hr, hn⟩ := DxAll.reads I hl hd ds _ its hx rv
      exact ⟨_, Reads.tuple e hc hdt (by simpa using hr), hn⟩
  | .dict kvs, _, _, h, r => by
    cases h with
    | dct ha =>
      cases r
      obtain ⟨_, _, vs, rk, o, es, ep, e, ⟨hc, _⟩, hdd, _, hp, _⟩ := I.hok _ _ ha
      cases rk
      have hle : es.toList = [] := by
        have := hp.length
        exact List.length_eq_zero_iff.mp this
      refine ⟨_, Reads.dict e hc hdd (by rw [hle]; exact .nil) (by rw [hle]; exact .nil), ?_⟩
      intro z
      simp only [List.append_nil, List.mem_cons, List.not_mem_nil, or_false] at z
      exact hd _ ha z
theorem DxAll.reads {y : Addr} (I : Inv X pins σ H s) (hl : ∀ a xs, H a = some (.lst xs) → y ≠ a) (hd : ∀ a, H a = some (.dK []) → y ≠ a) : ∀ (ds : List PyData) (vs : List V) (us : List Value), DxAll H vs ds → Vals vs us → ∃ as, ReadsAll s.heap us ds as ∧ y ∉ as
  | [], _, _, h, r => by
    cases h
    cases r
    exact ⟨_, ReadsAll.nil, by simp⟩
  | d :: ds, _, _, h, r => by
    cases h with
    | cons h1 h2 =>
      cases r with
      | cons r1 r2 =>
        obtain ⟨as, q1, n1⟩ := Dx.reads I hl hd d _ _ h1 r1
        obtain ⟨bs, q2, n2⟩ := DxAll.reads I hl hd ds _ _ h2 r2
        exact ⟨_, ReadsAll.cons q1 q2, fun z => (List.mem_append.mp z).elim n1 n2⟩
end
end
mutual
/-- its dicts are empty -/
def eD : PyData → Bool
  | .dict kvs => kvs.isEmpty
  | .list ds => eDs ds
  | .tuple ds => eDs ds
  | _ => true
def eDs : List PyData → Bool
  | [] => true
  | d :: ds => eD d && eDs ds
end
mutual
theorem noD_e : ∀ d : PyData, noD d = true → eD d = true
  | .none, _ => rfl
  | .bool _, _ => rfl
  | .int _, _ => rfl
  | .str _, _ => rfl
  | .dict _, h => by simp [noD] at h
  | .list ds, h => by
    simp only [noD, eD] at h ⊢
    exact noDs_e ds h
  | .tuple ds, h => by
    simp only [noD, eD] at h ⊢
    exact noDs_e ds h
theorem noDs_e : ∀ ds : List PyData, noDs ds = true → eDs ds = true
  | [], _ => rfl
  | d :: ds, h => by
    simp only [noDs, eDs, Bool.and_eq_true] at h ⊢
    exact ⟨noD_e d h.1, noDs_e ds h.2⟩
end
mutual
theorem Da.dx {F H : Hp} (h : ∀ a o, F a = some o → H a = some o) : ∀ (d : PyData) (v : V), eD d = true → Da F d v → Dx H v d
  | .none, _, _, e => by rw [da_none.mp e]; exact .non
  | .bool b, _, _, e => by rw [da_bool.mp e]; exact .bl b
  | .int i, _, _, e => by rw [da_int.mp e]; exact .int i
  | .str x, _, _, e => by rw [da_str.mp e]; exact .str x
  | .list ds, v, n, e => by
    obtain ⟨a, xs, rfl, e2, e3⟩ := da_list.mp e
    exact .lst (h _ _ e2) (Das.dx h ds xs (by simpa only [eD] using n) e3)
  | .tuple ds, v, n, e => by
    obtain ⟨a, xs, rfl, e2, e3⟩ := da_tup.mp e
    exact .tup (h _ _ e2) (Das.dx h ds xs (by simpa only [eD] using n) e3)
  | .dict kvs, v, n, e => by
    simp only [Da] at e
    obtain ⟨a, rfl, e2⟩ := e
    rcases e2 with ⟨rfl, e2⟩ | ⟨e0, _⟩ | e2
    · exact .dct (h _ _ e2)
    · exact absurd (List.isEmpty_iff.mp (by simpa only [eD] using n)) e0
    · exact absurd (List.isEmpty_iff.mp (by simpa only [eD] using n)) e2.is.1
theorem Das.dx {F H : Hp} (h : ∀ a o, F a = some o → H a = some o) : ∀ (ds : List PyData) (vs : List V), eDs ds = true → Das F ds vs → DxAll H vs ds
  | [], _, _, e => by
    rw [show _ = [] from e]
    exact .nil
  | d :: ds, _, n, ⟨y, ys, e, e1, e2⟩ => by
    subst e
    simp only [eDs, Bool.and_eq_true] at n
    exact .cons (Da.dx h d y n.1 e1) (Das.dx h ds ys n.2 e2)
end
/-- repr, of data that may have empty dicts in them -/
def rReprX : List V → Hp → VK → Prop := fun xs H Q => ∃ x d, xs = [x] ∧ Dx H x d ∧ SysOk H ∧ PyData.showable d = true ∧ d.depth ≤ 64 ∧ d.shown.length ≤ sizeLine ∧ Q (.str d.shown) H
theorem call_reprX {X : Cx} (hgu : X.A.guards = some []) (hu : X.A.units + 70 < cLine) : CallR X (.builtin "repr") rReprX := by
  intro pins s σ H xs us Q I r h
  obtain ⟨x, d, rfl, hd, hS, hs, hdep, hz, q⟩ := h
  cases r with
  | cons rx rt =>
    cases rt
    rename_i u
    obtain ⟨as, r1, hn⟩ := Dx.reads (y := sysModules) I (fun _ _ h => sys_l hS h) (fun _ h => sys_d hS h) d x u hd rx
    have fin : ∀ h' t' tk, (∀ b o, s.heap.get? b = some o → h'.get? b = some o) → EP X pins σ Q (.str d.shown t') { s with heap := h', toks := tk } := fun h' t' tk hk =>
      ⟨.str d.shown, H, I.kept hk, ⟨t', rfl⟩, q⟩
    have deep : ∀ a, u = .ref a → wpAny (model X.prog X.w) X.A (call (.builtin "repr") [u]) (EP X pins σ Q) X.xe s := fun a e => by
      subst e
      exact repr_of_reads' r1 hs (fun _ => hn) hgu (by omega) (fun _ _ e => e) (fun h' t' tk hk => fin h' t' tk hk) hz
    cases hd with
    | non =>
      cases rx
      exact PySem.P.repr_of_none ⟨.str _, H, I.tok _, ⟨_, rfl⟩, q⟩
    | bl b =>
      cases rx
      refine PySem.P.repr_of_bool ⟨.str _, H, I.tok _, ⟨_, rfl⟩, ?_⟩
      simp only [PyData.shown] at q
      exact q
    | int i =>
      obtain ⟨t, rfl⟩ := rx
      refine PySem.P.repr_of_int (by simpa [PyData.showable] using hs) ⟨.str _, H, I.tok _, ⟨_, rfl⟩, ?_⟩
      simp only [PyData.shown] at q
      exact q
    | str z =>
      obtain ⟨t, rfl⟩ := rx
      simp only [PyData.shown] at q hz
      exact PySem.P.repr_of_str ⟨.str _, H, I.tok _, ⟨_, rfl⟩, q⟩ hz
    | lst h1 h2 =>
      cases rx
      exact deep _ rfl
    | tup h1 h2 =>
      cases rx
      exact deep _ rfl
    | dct h1 =>
      cases rx
      exact deep _ rfl
/-- what may be shown -/
structure Ns (n m : Nat) (d : PyData) : Prop where
  shw : PyData.showable d = true
  dep : d.depth ≤ n
  len : d.shown.length ≤ m
  emp : eD d = true
theorem Nc.ns {n m : Nat} {d : PyData} (h : Nc n m d) : Ns n m d := ⟨h.shw, h.dep, h.len, noD_e d h.nod⟩
theorem Ns.mono {n m n' m' : Nat} {d : PyData} (h : Ns n m d) (h1 : n ≤ n') (h2 : m ≤ m') : Ns n' m' d := ⟨h.shw, Nat.le_trans h.dep h1, Nat.le_trans h.len h2, h.emp⟩
section
variable {A : Am} {ρ : List Ab} {te : TE} {d : PyData} {n m : Nat}
theorem ev_dict0 : EvD A tDNewK ρ (.dict []) := fun σ F H e p Q c => fun a ha =>
  c (.ref a) (.dict []) _ _ rfl (Post.new p ha) (by simp only [Da]; exact ⟨a, rfl, .inl ⟨trivial, upd_same⟩⟩)
theorem sysOk_src (hM : IsSrc A) {H : Hp} (h : A.ok H) : SysOk H := by
  obtain ⟨p, l, rfl⟩ := hM
  obtain ⟨_, _, _, _, _, _, _, _, _, _, _, _, hs⟩ := h
  exact hs
theorem ev_reprX (hM : IsSrc A) (h : EvD A te ρ d) (hn : Ns n m d) (h1 : n ≤ 64 := by decide) (h2 : m ≤ 16000000 := by decide) : EvD A (tCB rReprX (tCons te tNil)) ρ (.str d.shown) := ev_cb (ea_cons h ea_nil) (rv_val fun F H vs p hv => by
  obtain ⟨v, ev, hv1⟩ := vas1 hv
  subst ev
  exact ⟨_, da_str.mpr rfl, fun Q q => ⟨v, d, rfl, Da.dx p.fh _ _ hn.emp hv1, sysOk_src hM p.am, hn.shw, Nat.le_trans hn.dep h1, Nat.le_trans hn.len (Nat.le_trans h2 (by decide)), q⟩⟩)
end
end Pu

/-! Chains of three comparisons. -/
namespace Pu
open PySem PySem.Spec PyProof.Rows L2
def tChain3 (r r' r'' : R2) (ta tb tc td : TE) : TE := fun σ H Q => ta σ H fun x H1 => tb σ H1 fun y H2 => r x y H2 fun z H3 => ∃ k, z = .bl k ∧
  (if k = true then tc σ H3 fun w H4 => r' y w H4 fun z2 H5 => ∃ k2, z2 = .bl k2 ∧ (if k2 = true then td σ H5 fun v H6 => r'' w v H6 Q else Q (.bl false) H5) else Q (.bl false) H3)
theorem pt_chain3 {X : Cx} {a b c d : Expr} {pos : Pos} {ta tb tc td : TE} {op op' op'' : CmpOp} {r r' r'' : R2} (ho : OpR X (compareOp op) r) (ho' : OpR X (compareOp op') r') (ho'' : OpR X (compareOp op'') r'') (ha : PE X a ta) (hb : PE X b tb) (hc : PE X c tc) (hd : PE X d td)
    (hm : lastMarks [op, op', op''] [b, c, d] = false := by with_unfolding_all rfl) : PT X (.Compare a [op, op', op''] [b, c, d] pos) (tTest (tChain3 r r' r'' ta tb tc td)) := by
  refine ⟨fun pins s σ H Q I h => ?_⟩
  refine isTrue_chain (thn (ha.run pins s σ H _ I h) fun v s1 ⟨x, H1, I1, r1, q1⟩ => test_link (thn (hb.run pins s1 σ H1 _ I1 q1) fun u s2 ⟨y, H2, I2, r2, q2⟩ =>
    thn (ho pins s2 σ H2 x y v u _ I2 r1 r2 q2) fun d s3 ⟨z, H3, I3, r3, k, e, q3⟩ => ?_)) hm
  subst e
  cases r3
  refine wpAny_truthy_bool ?_
  cases k with
  | false =>
    obtain ⟨k', e', q'⟩ := q3
    cases e'
    exact ite_ff ⟨H3, I3, q'⟩
  | true =>
    refine ite_tt (test_link (thn (hc.run pins s3 σ H3 _ I3 q3) fun w' s4 ⟨z', H4, I4, r4, q4⟩ => thn (ho' pins s4 σ H4 y z' u w' _ I4 r2 r4 q4) fun d' s5 ⟨z2, H5, I5, r5, k2, e2, q5⟩ => ?_))
    subst e2
    cases r5
    refine wpAny_truthy_bool ?_
    cases k2 with
    | false =>
      obtain ⟨k', e', q'⟩ := q5
      cases e'
      exact ite_ff ⟨H5, I5, q'⟩
    | true =>
      refine ite_tt (test_last (thn (hd.run pins s5 σ H5 _ I5 q5) fun w2 s6 ⟨z6, H6, I6, r6, q6⟩ => thn (ho'' pins s6 σ H6 z' z6 w' w2 _ I6 r4 r6 q6) fun d7 s7 ⟨z7, H7, I7, r7, k7, e7, q7⟩ => ?_))
      subst e7
      cases r7
      exact wpAny_truthy_bool ⟨H7, I7, q7⟩
section
variable {A : Am} {ρ : List Ab} {ta tb tc td : TE} {x y z u : PyData} {b1 b2 b3 : Bool} {r r' r'' : R2}
theorem ev_chain3 (ha : EvD A ta ρ x) (hb : EvD A tb ρ y) (hr : R2P A r x y (fun w => w = .bool b1)) (hc : b1 = true → EvD A tc ρ z) (hr' : b1 = true → R2P A r' y z (fun w => w = .bool b2)) (hd : b1 = true → b2 = true → EvD A td ρ u) (hr'' : b1 = true → b2 = true → R2P A r'' z u (fun w => w = .bool b3)) : EvD A (tChain3 r r' r'' ta tb tc td) ρ (.bool (b1 && (b2 && b3))) := fun σ F H e p Q c =>
  ha σ F H e p _ fun v x' F1 H1 hx po1 dv => hb σ F1 H1 (e.mono po1.ff) (p.next po1) _ fun w y' F2 H2 hy po2 dw => by
    subst hx hy
    have p2 := (p.next po1).next po2
    have po := po1.trans p.am po2
    refine hr F2 H2 v w p2 (Da.mono po2.ff _ _ dv) dw _ fun t d3 F3 H3 hd3 po3 du => ?_
    subst hd3
    have p3 := p2.next po3
    have poa := po.trans p.am po3
    refine ⟨b1, da_bool.mp du, ?_⟩
    cases b1 with
    | false => exact c _ _ F3 H3 rfl poa (da_bool.mpr rfl)
    | true =>
      refine hc rfl σ F3 H3 (e.mono poa.ff) p3 _ fun w4 z' F4 H4 hz po4 d4 => ?_
      subst hz
      have p4 := p3.next po4
      have pob := poa.trans p.am po4
      refine hr' rfl F4 H4 w w4 p4 (Da.mono (fun a o h => po4.ff _ _ (po3.ff _ _ h)) _ _ dw) d4 _ fun t5 d5 F5 H5 hd5 po5 du5 => ?_
      subst hd5
      have p5 := p4.next po5
      have poc := pob.trans p.am po5
      refine ⟨b2, da_bool.mp du5, ?_⟩
      cases b2 with
      | false => exact c _ _ F5 H5 rfl poc (da_bool.mpr rfl)
      | true =>
        refine hd rfl rfl σ F5 H5 (e.mono poc.ff) p5 _ fun w6 u' F6 H6 hu po6 d6 => ?_
        subst hu
        have p6 := p5.next po6
        have pod := poc.trans p.am po6
        refine hr'' rfl rfl F6 H6 w4 w6 p6 (Da.mono (fun a o h => po6.ff _ _ (po5.ff _ _ h)) _ _ d4) d6 Q fun t7 d7 F7 H7 hd7 po7 du7 => ?_
        exact c t7 d7 F7 H7 hd7 (pod.trans p.am po7) du7
end
end Pu

/-! == and != with an empty list, an empty tuple: nothing is asked of the items. -/
namespace Pu
open PySem PySem.Spec PyProof.Rows L2 PySem.SeqAt
def rEmp (f : Bool → Bool) : R2 := fun x y H Q => ∃ a b xs, x = .ref a ∧ y = .ref b ∧ ((H a = some (.lst xs) ∧ H b = some (.lst [])) ∨ (H a = some (.tup xs) ∧ H b = some (.tup []))) ∧ Q (.bl (f xs.isEmpty)) H
theorem size_vals {xs : List V} {its : List Value} (r : Vals xs its) : (its.toArray.size == 0) = xs.isEmpty := by
  have := r.length
  cases xs with
  | nil => cases its with
    | nil => rfl
    | cons _ _ => cases this
  | cons _ _ => cases its with
    | nil => cases this
    | cons _ _ => rfl
section
variable {X : Cx}
theorem op_eqE (hu : X.A.units + 64 < cLine) : OpR X (compareOp .Eq) (rEmp id) := by
  intro pins s σ H x y v u Q I rx ry h
  obtain ⟨a, b, xs, rfl, rfl, h, q⟩ := h
  obtain rfl : v = .ref a := rx
  obtain rfl : u = .ref b := ry
  have hu : X.A.units < cLine := by omega
  rcases h with ⟨ha, hb⟩ | ⟨ha, hb⟩
  · obtain ⟨_, its, n, rv, e⟩ := I.hok _ _ ha
    obtain ⟨_, it2, n2, rv2, e2⟩ := I.hok _ _ hb
    cases rv2
    have hl : s.heap.IsList a its.toArray := ⟨_, e, rfl, _, rfl⟩
    have hl2 : s.heap.IsList b #[] := ⟨_, e2, rfl, _, rfl⟩
    have hs := size_vals rv
    by_cases hz : its.toArray.size = 0
    · refine eq_listAt (e := fun _ => true) hl hl2 (by simpa using hz) hu (fun j h1 h2 => absurd h2 (by simp)) ⟨.bl _, H, I, ?_, q⟩
      show Value.bool _ = Value.bool (id xs.isEmpty)
      rw [← hs, hz]
      rfl
    · refine eq_list_lengthsAt hl hl2 (by simpa using hz) hu ⟨.bl _, H, I, ?_, q⟩
      show Value.bool _ = Value.bool (id xs.isEmpty)
      rw [← hs]
      have hz2 : (its.toArray.size == 0) = false := by simpa using hz
      rw [hz2]
      rfl
  · obtain ⟨_, its, rv, o, e, hc, n, hd⟩ := I.hok _ _ ha
    obtain ⟨_, it2, rv2, o2, e2, hc2, n2, hd2⟩ := I.hok _ _ hb
    cases rv2
    have hs := size_vals rv
    refine eq_tupleAt (e := fun _ => true) ⟨o, e, hc, n, hd⟩ ⟨o2, e2, hc2, n2, hd2⟩ hu (fun j h1 h2 => absurd h2 (by simp)) ⟨.bl _, H, I, ?_, q⟩
    show Value.bool _ = Value.bool (id xs.isEmpty)
    rw [← hs]
    simp
theorem op_neE (hu : X.A.units + 64 < cLine) : OpR X (compareOp .NotEq) (rEmp not) := by
  intro pins s σ H x y v u Q I rx ry h
  obtain ⟨a, b, xs, rfl, rfl, h, q⟩ := h
  obtain rfl : v = .ref a := rx
  obtain rfl : u = .ref b := ry
  have hu : X.A.units < cLine := by omega
  rcases h with ⟨ha, hb⟩ | ⟨ha, hb⟩
  · obtain ⟨_, its, n, rv, e⟩ := I.hok _ _ ha
    obtain ⟨_, it2, n2, rv2, e2⟩ := I.hok _ _ hb
    cases rv2
    have hl : s.heap.IsList a its.toArray := ⟨_, e, rfl, _, rfl⟩
    have hl2 : s.heap.IsList b #[] := ⟨_, e2, rfl, _, rfl⟩
    have hs := size_vals rv
    by_cases hz : its.toArray.size = 0
    · refine RcNeAt.lists (e := fun _ => true) hl hl2 (by simpa using hz) hu (fun j h1 h2 => absurd h2 (by simp)) _ _ _ _ ⟨.bl _, H, I, ?_, q⟩
      show Value.bool _ = Value.bool (!xs.isEmpty)
      rw [← hs, hz]
      rfl
    · refine RcNeAt.lists_lengths hl hl2 (by simpa using hz) hu _ _ _ _ ⟨.bl _, H, I, ?_, q⟩
      show Value.bool _ = Value.bool (!xs.isEmpty)
      rw [← hs]
      have hz2 : (its.toArray.size == 0) = false := by simpa using hz
      rw [hz2]
      rfl
  · obtain ⟨_, its, rv, o, e, hc, n, hd⟩ := I.hok _ _ ha
    obtain ⟨_, it2, rv2, o2, e2, hc2, n2, hd2⟩ := I.hok _ _ hb
    cases rv2
    have hs := size_vals rv
    refine RcNeAt.tuples (e := fun _ => true) ⟨o, e, hc, n, hd⟩ ⟨o2, e2, hc2, n2, hd2⟩ hu (fun j h1 h2 => absurd h2 (by simp)) _ _ _ _ ⟨.bl _, H, I, ?_, q⟩
    show Value.bool _ = Value.bool (!xs.isEmpty)
    rw [← hs]
    simp
end
section
variable {A : Am} {ρ : List Ab} {ta tb : TE} {xs : List PyData} {f : Bool → Bool}
theorem das_emp {F : Hp} {ds : List PyData} {vs : List V} (h : Das F ds vs) : vs.isEmpty = ds.isEmpty := by
  have := h.len
  cases ds <;> cases vs <;> first | rfl | cases this
theorem ev_empL (ha : EvD A ta ρ (.list xs)) (hb : EvD A tb ρ (.list [])) : EvD A (tOp (rEmp f) ta tb) ρ (.bool (f xs.isEmpty)) := ev_op ha hb (r2_val fun F H v w p hv hw => by
  obtain ⟨a, us, rfl, ha, hx⟩ := da_list.mp hv
  obtain ⟨b, ws, rfl, hb, hy⟩ := da_list.mp hw
  have hy : ws = [] := hy
  subst hy
  exact ⟨_, da_bool.mpr rfl, fun Q q => ⟨a, b, us, rfl, rfl, .inl ⟨p.fh _ _ ha, p.fh _ _ hb⟩, by rw [das_emp hx]; exact q⟩⟩)
theorem ev_empT (ha : EvD A ta ρ (.tuple xs)) (hb : EvD A tb ρ (.tuple [])) : EvD A (tOp (rEmp f) ta tb) ρ (.bool (f xs.isEmpty)) := ev_op ha hb (r2_val fun F H v w p hv hw => by
  obtain ⟨a, us, rfl, ha, hx⟩ := da_tup.mp hv
  obtain ⟨b, ws, rfl, hb, hy⟩ := da_tup.mp hw
  have hy : ws = [] := hy
  subst hy
  exact ⟨_, da_bool.mpr rfl, fun Q q => ⟨a, b, us, rfl, rfl, .inr ⟨p.fh _ _ ha, p.fh _ _ hb⟩, by rw [das_emp hx]; exact q⟩⟩)
end
end Pu

/-! Tests with draws; own lists cut while they stay one's own. -/
namespace Pu
open PySem L2
section
variable {A : Am} {ρ : List Ab} {C : Ct} {t : TS} {te ta tb : TE} {tl th : TO} {tt tu : TT} {tas : TA} {b b1 : Bool} {x d : PyData} {xs ds : List PyData} {P P1 : PyData → Prop} {B : Bool → Prop} {lo hi : Option Int} {i j : Int} {n s : Nat} {K : PySem.W.Frag} {E : XK}
theorem evb_or (h1 : EvT A tt ρ b1) (h2 : b1 = false → EvB A tu ρ B) : EvB A (tOr tt tu) ρ (fun b => (b1 = true ∧ b = true) ∨ (b1 = false ∧ B b)) := fun σ F H e p Q c => h1 σ F H e p _ fun v F' H' hb po => by
  subst hb
  cases v with
  | true => exact c _ F' H' (.inl ⟨rfl, rfl⟩) po
  | false => exact h2 rfl σ F' H' (e.mono po.ff) (p.next po) Q fun v F2 H2 hb po2 => c v F2 H2 (.inr ⟨rfl, hb⟩) (po.trans p.am po2)
theorem evb_and (h1 : EvT A tt ρ b1) (h2 : b1 = true → EvB A tu ρ B) : EvB A (tAnd tt tu) ρ (fun b => (b1 = false ∧ b = false) ∨ (b1 = true ∧ B b)) := fun σ F H e p Q c => h1 σ F H e p _ fun v F' H' hb po => by
  subst hb
  cases v with
  | true => exact h2 rfl σ F' H' (e.mono po.ff) (p.next po) Q fun v F2 H2 hb po2 => c v F2 H2 (.inr ⟨rfl, hb⟩) (po.trans p.am po2)
  | false => exact c _ F' H' (.inl ⟨rfl, rfl⟩) po
theorem evb_gt {lo hi : Int} (ha : EvP A ta ρ (IntIn lo hi)) (hb : EvD A tb ρ (.int j)) : EvB A (tTest (tOp (rI0 fun i j => .bl (decide (j < i))) ta tb)) ρ (fun _ => True) :=
  etp_test (evp_op ha (fun _ _ => hb) fun x y ⟨i, hx, h0, h1⟩ hy => by
    subst hx hy
    exact fun F H v w p dv dw Q c => r2_B0 F H v w p dv dw Q fun u d F3 H3 hd => c u d F3 H3 ⟨_, hd, trivial⟩)
theorem evb_neI {lo hi j : Int} (ha : EvP A ta ρ (IntIn lo hi)) (hb : EvD A tb ρ (.int j)) : EvB A (tTest (tOp (rNe2 K) ta tb)) ρ (fun _ => True) :=
  etp_test (evp_op ha (fun _ _ => hb) fun x y ⟨i, hx, h0, h1⟩ hy => by
    subst hx hy
    exact fun F H v w p dv dw Q c => (r2_l (r2_neS (v := .int i) (w := .int j) (fun F u h => da_int.mp h) (fun F u h => da_int.mp h) rfl)) F H v w p dv dw Q fun u d F3 H3 hd => c u d F3 H3 ⟨_, hd, trivial⟩)
theorem evp_addTP {N M : List PyData → Prop} (ha : EvP A ta ρ (fun d => ∃ xs, d = .tuple xs ∧ N xs)) (hb : EvP A tb ρ (fun d => ∃ ys, d = .tuple ys ∧ M ys)) (hl : ∀ xs ys, N xs → M ys → xs.length + ys.length ≤ 1000000) : EvP A (tOp (rAdd3 K) ta tb) ρ (fun d => ∃ zs, d = .tuple zs ∧ ∃ xs ys, zs = xs ++ ys ∧ N xs ∧ M ys) :=
  evp_op ha (fun _ _ => hb) fun x y ⟨xs, hx, hn⟩ ⟨ys, hy, hm⟩ => by
    subst hx hy
    exact fun F H v w p dv dw Q c => r2_addT (le_line (hl xs ys hn hm)) F H v w p dv dw Q fun u d F3 H3 hd => c u d F3 H3 ⟨_, hd, xs, ys, rfl, hn, hm⟩
theorem evp_tupD (h : EvD A te ρ (.tuple xs)) : EvP A te ρ (fun d => ∃ ys, d = .tuple ys ∧ ys = xs) := EvP.imp h fun d e => ⟨xs, e, rfl⟩
theorem evp_tup1 (h : EvP A te ρ P) : EvP A (tTup (tCons te tNil)) ρ (fun d => ∃ ys, d = .tuple ys ∧ ∃ x, ys = [x] ∧ P x) :=
  EvP.imp (evp_tupQ (evq_cons h evq_nil) (fun ds ⟨x, xs, e, _, e2⟩ => by rw [e, e2]; show 1 ≤ 1000000; decide)) fun d ⟨ds, e, x, xs, e1, hx, e2⟩ => ⟨[x], by rw [e, e1, e2], x, rfl, hx⟩
theorem evp_lstQ {N : List PyData → Prop} (h : EvQ A ρ tas N) (hl : ∀ ds, N ds → ds.length ≤ 1000000) : EvP A (tLst tas) ρ (fun d => ∃ ds, d = .list ds ∧ N ds) := EvN.frz (evn_lst h fun ds hd => le_line (hl ds hd))
theorem evp_ofP {N : List PyData → Prop} (hM : IsSrc A) (hs : ρ[n]? = some .src) (h : EvP A te ρ (fun d => ∃ ds, d = .list ds ∧ N ds)) (h1 : ∀ ds, N ds → 1 ≤ ds.length ∧ ds.length ≤ 1000000) : EvP A (tCall (spOf 2 R_of) [] E (tCons (tVar n) (tCons te tNil))) ρ (fun w => ∃ ds, N ds ∧ w ∈ ds) := fun σ F H e p Q c => by
  obtain ⟨y, k1, k2⟩ := e.at_ n _ hs
  have k2 : y = some (.ref A.root) := k2
  subst k2
  refine ⟨_, k1, h σ F H e p _ fun v d F1 H1 ⟨ds, hd, hN⟩ po dv => ?_⟩
  subst hd
  show spOf 2 R_of [.ref A.root, v] H1 Q E
  exact ⟨rfl, A, F1, [.src, .dat (.list ds)], fun w => w ∈ ds, ⟨_, _, rfl, rfl, _, _, rfl, dv, rfl⟩, p.next po, ⟨hM, ds, rfl, (h1 ds hN).1, (h1 ds hN).2, rfl⟩, fun u w F2 H2 hw po2 dw => c u w F2 H2 ⟨ds, hN, hw⟩ (po.trans p.am po2) dw⟩
theorem cut_to {k : Nat} (h : k ≤ xs.length) : cutD xs none (some (k : Int)) = xs.take k := by
  unfold cutD
  rw [HT.sIx_none, HT.sIx_nat, List.drop_zero, Nat.sub_zero, Nat.min_eq_left h]
theorem cut_from {k : Nat} (h : k ≤ xs.length) : cutD xs (some (k : Int)) none = xs.drop k := by
  unfold cutD
  rw [HT.sIx_none, HT.sIx_nat, Nat.min_eq_left h]
  exact List.take_of_length_le (by rw [List.length_drop]; exact Nat.le_refl _)
/-- what is asked where own lists stand -/
def EvX (A : Am) (te : TE) (ρ : List Ab) (P : PyData → Prop) : Prop := ∀ G F0 H0 σ F H, Ok A G F0 H0 ρ σ F H → ∀ Q : VK, (∀ v d F' H', P d → Post A F H F' H' → Da F' d v → Q v H') → te σ H Q
theorem evx_p (h : EvP A te ρ P) : EvX A te ρ P := fun G F0 H0 σ F H o Q c => h σ F H o.en o.pre Q c
theorem EvX.imp (h : EvX A te ρ P1) (q : ∀ d, P1 d → P d) : EvX A te ρ P := fun G F0 H0 σ F H o Q c => h G F0 H0 σ F H o Q fun v d F' H' hd => c v d F' H' (q d hd)
theorem evx_sl (ho : ρ[n]? = some (.own ds)) (h1 : EvO A tl ρ lo) (h2 : EvO A th ρ hi) : EvX A (tSl (rSl2 K) (tVar n) tl th) ρ (fun w => w = .list (cutD ds lo hi)) := fun G F0 H0 σ F H o Q c => by
  obtain ⟨a, vs, k1, k2, k3, k4, k5⟩ := o.ow n ds ho
  refine ⟨_, k1, h1 σ F H o.en o.pre _ fun F2 H2 po2 => h2 σ F2 H2 (o.en.mono po2.ff) (o.pre.next po2) _ fun F3 H3 po3 => ?_⟩
  have o3 := (o.step po2).step po3
  obtain ⟨a', vs', q1, q2, q3, q4, q5⟩ := o3.ow n ds ho
  rw [k1] at q1
  cases q1
  exact .inl ⟨a, vs', rfl, SqL.of q2, fun q hq => c _ _ _ _ rfl ((po2.trans o.pre.am po3).trans o.pre.am (Post.new o3.pre hq)) (da_list.mpr ⟨q, _, rfl, upd_same, (das_cut q5).mono (le_upd (pre_none o3.pre hq))⟩)⟩
theorem evx_ix (ho : ρ[n]? = some (.own ds)) (hb : EvD A tb ρ (.int j)) (h : atI ds j = some d) : EvX A (tOp (rIx2 K) (tVar n) tb) ρ (fun w => w = d) := fun G F0 H0 σ F H o Q c => by
  obtain ⟨a, vs, k1, k2, k3, k4, k5⟩ := o.ow n ds ho
  refine ⟨_, k1, hb σ F H o.en o.pre _ fun w y F2 H2 hy po2 dw => ?_⟩
  subst hy
  have o2 := o.step po2
  obtain ⟨a', vs', q1, q2, q3, q4, q5⟩ := o2.ow n ds ho
  rw [k1] at q1
  cases q1
  obtain ⟨u, hu, hd⟩ := atI_das q5 h
  exact .inl ⟨a, vs', j, u, rfl, da_int.mp dw, SqL.of q2, hu, c _ _ F2 H2 rfl po2 hd⟩
theorem evx_call2 {R : Am → List Ab → (PyData → Prop) → Prop} (hs : ρ[s]? = some .src) (h : EvX A te ρ P1) (hR : ∀ x, P1 x → R A [.src, .dat x] P) : EvX A (tCall (spOf 2 R) [] E (tCons (tVar s) (tCons te tNil))) ρ P := fun G F0 H0 σ F H o Q c => by
  obtain ⟨y, h1, h2⟩ := o.en.at_ s _ hs
  have h2 : y = some (.ref A.root) := h2
  subst h2
  refine ⟨_, h1, h G F0 H0 σ F H o _ fun v d F1 H1 hd po dv => ?_⟩
  show spOf 2 R [.ref A.root, v] H1 Q E
  exact ⟨rfl, A, F1, [.src, .dat d], P, ⟨_, _, rfl, rfl, _, _, rfl, dv, rfl⟩, o.pre.next po, hR d hd, fun u w F2 H2 hw po2 dw => c u w F2 H2 hw (po.trans o.pre.am po2) dw⟩
/-- xs.append(e), xs one's own, e reads own lists piece by piece -/
theorem run_appX {r : V → List V → Hp → VK → Prop} (hr : r = fun x xs H Q => ∃ l ys y, x = V.ref l ∧ xs = [y] ∧ H l = some (HO.lst ys) ∧ ys.length < sizeLine ∧ Q V.non (upd H l (HO.lst (ys ++ [y])))) {T : String} (hT : T = "list")
    (ho : ρ[n]? = some (.own ds)) (hl : ds.length < sizeLine) (h : EvX A te ρ P) (hn : ∀ d, P d → C.nx (ρ.set n (.own (ds ++ [d])))) : Run A (tDrop (tBM K T r (tVar n) (tCons te tNil))) ρ C := fun G F0 H0 σ F H D o e => by
  subst hr hT
  obtain ⟨a, vs, k1, k2, k3, k4, k5⟩ := o.ow n ds ho
  refine ⟨_, k1, .inl ⟨rfl, _, .inl (.inl k2)⟩, h G F0 H0 σ F H o _ fun v d F1 H1 hd po dv => ?_⟩
  have o1 := o.step po
  obtain ⟨a', vs', q1, q2, q3, q4, q5⟩ := o1.ow n ds ho
  rw [k1] at q1
  cases q1
  exact ⟨a, vs', v, rfl, rfl, q2, by rw [q5.len]; exact hl, e.nx _ σ F1 _ (hn d hd) (o1.chg (vs := vs') ho k1 q3 q4 (q5.snoc dv))⟩
theorem run_setX (h : EvX A te ρ P) (hn : ∀ d, P d → C.nx (ρ.set n (.dat d))) : Run A (tAsg te (gName n)) ρ C := fun G F0 H0 σ F H D o e =>
  h G F0 H0 σ F H o _ fun v d F1 H1 hd po dv => e.nx _ _ F1 H1 (hn d hd) ((o.step po).setD n dv)
/-- repr over what may have dicts -/
theorem et_repX {n m : Nat} (hM : IsSrc A) (x : PyData) (ha : EvD A ta ρ x) (hb : EvD A tb ρ x) (hx : Ns n m x) (h1 : n ≤ 64 := by decide) (h2 : m ≤ 16000000 := by decide) : EvT A (tTest (tOp (rNe2 K) (tCB rReprX (tCons ta tNil)) (tCB rReprX (tCons tb tNil)))) ρ false :=
  (et_test (ev_neS2 (ev_reprX hM ha hx h1 h2) (ev_reprX hM hb hx h1 h2))).to (by simp)
theorem et_shnX {n m : Nat} (hM : IsSrc A) (ha : EvD A ta ρ x) (hb : EvD A tb ρ (.str x.shown)) (hx : Ns n m x) (h1 : n ≤ 64 := by decide) (h2 : m ≤ 16000000 := by decide) : EvT A (tTest (tOp (rNe2 K) (tCB rReprX (tCons ta tNil)) tb)) ρ false :=
  (et_test (ev_neS2 (ev_reprX hM ha hx h1 h2) hb)).to (by simp)
end
end Pu

/-! Things in a drawn order: own lists taken apart within a comprehension; list(range(..)); max, min of a list. -/
namespace Pu
open PySem L2 PySem.W
section
variable {A : Am} {G F0 H0 F H F' H' : Hp} {ρ : List Ab} {σ : L2.St}
theorem get_snoc {α : Type} {l : List α} {a b : α} {j : Nat} (h : (l ++ [a])[j]? = some b) : (j < l.length ∧ l[j]? = some b) ∨ (j = l.length ∧ a = b) := by
  by_cases hj : j < l.length
  · rw [List.getElem?_append_left hj] at h
    exact .inl ⟨hj, h⟩
  · rw [List.getElem?_append_right (by omega)] at h
    by_cases e : j = l.length
    · rw [e, Nat.sub_self] at h
      exact .inr ⟨e, Option.some.inj h⟩
    · rw [List.getElem?_eq_none (by simp; omega)] at h
      cases h
theorem Ok.more (o : Ok A G F0 H0 ρ σ F H) : Ok A G F0 H0 (ρ ++ [.no]) (σ ++ [none]) F H where
  gf := o.gf
  en := ⟨by rw [List.length_append, List.length_append, o.en.len]; rfl, fun i b hb => by
    rcases get_snoc hb with ⟨hl, h⟩ | ⟨rfl, rfl⟩
    · obtain ⟨x, h1, h2⟩ := o.en.at_ i b h
      exact ⟨x, by rw [List.getElem?_append_left (by rw [o.en.len]; exact hl)]; exact h1, h2⟩
    · exact ⟨none, by rw [← o.en.len, List.getElem?_append_right (Nat.le_refl _), Nat.sub_self]; rfl, trivial⟩⟩
  pre0 := o.pre0
  post := o.post
  ow := fun i ds hb => by
    rcases get_snoc hb with ⟨hl, h⟩ | ⟨_, h⟩
    · rw [List.getElem?_append_left (by rw [o.en.len]; exact hl)]
      exact o.ow i ds h
    · cases h
  oj := fun i j ds es a hi hj h1 h2 => by
    rcases get_snoc hi with ⟨li, hi⟩ | ⟨_, h⟩
    · rcases get_snoc hj with ⟨lj, hj⟩ | ⟨_, h⟩
      · rw [List.getElem?_append_left (by rw [o.en.len]; exact li)] at h1
        rw [List.getElem?_append_left (by rw [o.en.len]; exact lj)] at h2
        exact o.oj i j ds es a hi hj h1 h2
      · cases h
    · cases h
  tw := fun i d hb => by
    rcases get_snoc hb with ⟨hl, h⟩ | ⟨_, h⟩
    · rw [List.getElem?_append_left (by rw [o.en.len]; exact hl)]
      exact o.tw i d h
    · cases h
  tj := fun i j d e a hi hj h1 h2 => by
    rcases get_snoc hi with ⟨li, hi⟩ | ⟨_, h⟩
    · rcases get_snoc hj with ⟨lj, hj⟩ | ⟨_, h⟩
      · rw [List.getElem?_append_left (by rw [o.en.len]; exact li)] at h1
        rw [List.getElem?_append_left (by rw [o.en.len]; exact lj)] at h2
        exact o.tj i j d e a hi hj h1 h2
      · cases h
    · cases h
theorem Ok.less {b : Ab} {x : Option V} (o : Ok A G F0 H0 (ρ ++ [b]) (σ ++ [x]) F H) : Ok A G F0 H0 ρ σ F H := by
  have hl : σ.length = ρ.length := by
    have := o.en.len
    rw [List.length_append, List.length_append] at this
    exact Nat.add_right_cancel this
  have up : ∀ {i : Nat} {c : Ab}, ρ[i]? = some c → (ρ ++ [b])[i]? = some c ∧ (σ ++ [x])[i]? = σ[i]? := fun {i c} h => by
    have := (List.getElem?_eq_some_iff.mp h).1
    exact ⟨by rw [List.getElem?_append_left this]; exact h, List.getElem?_append_left (by omega)⟩
  refine ⟨o.gf, ⟨hl, fun i c hc => ?_⟩, o.pre0, o.post, fun i ds hc => ?_, fun i j ds es a hi hj h1 h2 => ?_, fun i d hc => ?_, fun i j d e a hi hj h1 h2 => ?_⟩
  · have := o.en.at_ i c (up hc).1
    rw [(up hc).2] at this
    exact this
  · have := o.ow i ds (up hc).1
    rw [(up hc).2] at this
    exact this
  · exact o.oj i j ds es a (up hi).1 (up hj).1 (by rw [(up hi).2]; exact h1) (by rw [(up hj).2]; exact h2)
  · have := o.tw i d (up hc).1
    rw [(up hc).2] at this
    exact this
  · exact o.tj i j d e a (up hi).1 (up hj).1 (by rw [(up hi).2]; exact h1) (by rw [(up hj).2]; exact h2)
/-- a new list that no name has -/
theorem Ok.ghost {D : Addr} (o : Ok A G F0 H0 ρ σ F H) (hD : H D = none) : Ok A G F0 H0 (ρ ++ [.own []]) (σ ++ [some (.ref D)]) F (upd H D (.lst [])) := by
  have o1 := (o.more).step (Post.new0 o.pre (o := .lst []) hD)
  have h0 : H0 D = none := none_back o.pre0.am o.post.le o.post.am hD
  have fD : F D = none := pre_none o.pre hD
  have o2 := o1.setN (ds := []) (vs := []) ρ.length (by rw [List.length_append]; exact Nat.lt_succ_self _) upd_same fD h0 .nil (fun j es hj hr hs => by
    rcases get_snoc hr with ⟨hl, hr⟩ | ⟨e, _⟩
    · obtain ⟨a, vs, k1, k2, _⟩ := o.ow j es hr
      rw [List.getElem?_append_left (by rw [o.en.len]; exact hl), k1] at hs
      cases hs
      rw [hD] at k2
      cases k2
    · exact hj e)
  have e1 : (ρ ++ [Ab.no]).set ρ.length (.own []) = ρ ++ [.own []] := by rw [List.set_append_right _ _ (Nat.le_refl _), Nat.sub_self]; rfl
  have e2 : (σ ++ [none]).set ρ.length (some (.ref D)) = σ ++ [some (.ref D)] := by rw [← o.en.len, List.set_append_right _ _ (Nat.le_refl _), Nat.sub_self]; rfl
  rw [e1, e2] at o2
  exact o2
end
section
variable {A : Am} {ρ : List Ab} {C : Ct} {te ta tb : TE} {x d : PyData} {xs ds : List PyData} {P P1 : PyData → Prop} {i j : Int} {n s : Nat} {K : PySem.W.Frag} {E : XK}
theorem evx_len (ho : ρ[n]? = some (.own ds)) : EvX A (tCB (rLen K) (tCons (tVar n) tNil)) ρ (fun w => w = .int ds.length) := fun G F0 H0 σ F H o Q c => by
  obtain ⟨a, vs, k1, k2, k3, k4, k5⟩ := o.ow n ds ho
  exact ⟨_, k1, a, vs, rfl, .inl (SqL.of k2), by rw [k5.len]; exact c _ _ F H rfl o.pre.refl (da_int.mpr rfl)⟩
def R_mixed : Am → List Ab → (PyData → Prop) → Prop := fun M bs P => IsSrc M ∧ ∃ (x : PyData) (ds : List PyData), bs = [.src, .dat x] ∧ (x = .list ds ∨ x = .tuple ds) ∧ ds.length ≤ 1000000 ∧ P = fun w => ∃ es : List PyData, w = .list es ∧ es.Perm ds
theorem erase_perm {α : Type} : ∀ {l : List α} {k : Nat} (h : k < l.length), ([l[k]] ++ l.eraseIdx k).Perm l
  | a :: l, 0, _ => List.Perm.refl _
  | a :: l, k + 1, h => by
    have h' : k < l.length := Nat.lt_of_succ_lt_succ h
    exact (List.Perm.swap a l[k] _).trans (List.Perm.cons a (erase_perm h'))
theorem das_erase {F : Hp} : ∀ {ds : List PyData} {vs : List V} (k : Nat), Das F ds vs → Das F (ds.eraseIdx k) (vs.eraseIdx k)
  | [], vs, k, h => by
    rw [h.inv_nil]
    exact .nil
  | d :: ds, vs, 0, h => by
    obtain ⟨y, ys, rfl, h1, h2⟩ := h.inv_cons
    exact h2
  | d :: ds, vs, k + 1, h => by
    obtain ⟨y, ys, rfl, h1, h2⟩ := h.inv_cons
    exact Das.cons h1 (das_erase k h2)
/-- what is left of a list is taken one by one -/
theorem run_mixedL (hM : IsSrc A) (hd : ds.length ≤ 1000000) (hC : ∀ es : List PyData, es.Perm ds → C.rt (.list es)) :
    Run A (tRet (tLc (iRng1 (tCons (tCB (rLen K) (tCons (tVar 2) tNil)) tNil)) (gName 3) tYes (tBM K "list" rPopAt (tVar 2) (tCons (tCall (spOf 2 R_pick) [] E (tCons (tVar 0) (tCons (tCB (rLen K) (tCons (tVar 2) tNil)) tNil))) tNil)) [3])) [.src, .dat x, .own ds, .no] C := fun G F0 H0 σ F H Dd o e => by
  have hsl : σ.length = 4 := o.en.len
  show tLc _ _ _ _ _ σ H Dd.rt
  refine evx_len (n := 2) rfl G F0 H0 σ F H o _ fun v d F1 H1 hv po dv => ?_
  subst hv
  have o1 := o.step po
  refine ⟨(ds.length : Int), by rw [da_int.mp dv], by omega, by omega, ?_⟩
  intro D hD
  have o2 : Ok A G F0 H0 [.src, .dat x, .own ds, .no] (σ.set 3 none) F1 H1 := o1.setB 3 (b := .no) (x := none) (fun _ h => nomatch h) trivial
  have o3 : Ok A G F0 H0 ([.src, .dat x, .own ds, .no] ++ [.own []]) (σ.set 3 none ++ [some (.ref D)]) F1 (upd H1 D (.lst [])) := o2.ghost hD
  refine ⟨fun i m H2 => m = ds.length - i ∧ i ≤ ds.length ∧ ∃ (F2 : Hp) (es rest : List PyData), Ok A G F0 H0 ([.src, .dat x, .own rest, .no] ++ [.own es]) (σ.set 3 none ++ [some (.ref D)]) F2 H2 ∧ (es ++ rest).Perm ds ∧ es.length = i, ⟨ds.length, rfl, Nat.zero_le _, F1, [], ds, o3, List.Perm.refl _, rfl⟩, ?_⟩
  rintro i m H2 ⟨rfl, hi, F2, es, rest, og, hp, hes⟩
  have hlen := hp.length_eq
  rw [List.length_append] at hlen
  by_cases hlt : i < ds.length
  · refine .inr ⟨(itd_rng (F := F2) (lo := 0) (n := ds.length)).go i F2 H2 (fun _ _ h => h) og.pre.fh (by unfold rngD; rw [List.length_map, List.length_range]; exact hlt), fun H' => i + 1 ≤ ds.length ∧ ∃ (F2 : Hp) (es rest : List PyData), Ok A G F0 H0 ([.src, .dat x, .own rest, .no] ++ [.own es]) (σ.set 3 none ++ [some (.ref D)]) F2 H' ∧ (es ++ rest).Perm ds ∧ es.length = i + 1, fun H' h => ⟨ds.length - (i + 1), by omega, rfl, h⟩, fun y H' hy => ?_⟩
    obtain ⟨e1, e2⟩ := hy
    subst e1 e2
    refine ⟨by show ((σ.set 3 none).set 3 _).set 3 none = σ.set 3 none; rw [List.set_set, List.set_set], ?_⟩
    show tYes _ _ _
    unfold tYes
    simp only [↓reduceIte]
    show tBM K "list" rPopAt (tVar 2) (tCons (tCall (spOf 2 R_pick) [] E (tCons (tVar 0) (tCons (tCB (rLen K) (tCons (tVar 2) tNil)) tNil))) tNil) ((σ.set 3 none).set 3 (some (.int (0 + (i : Int))))) H' _
    have or : Ok A G F0 H0 [.src, .dat x, .own rest, .no] (σ.set 3 none) F2 H' := og.less
    have ot : Ok A G F0 H0 [.src, .dat x, .own rest, .dat (.int (0 + (i : Int)))] ((σ.set 3 none).set 3 (some (.int (0 + (i : Int))))) F2 H' := or.setD 3 (da_int.mpr rfl)
    obtain ⟨a, vs, k1, k2, k3, k4, k5⟩ := ot.ow 2 rest rfl
    refine ⟨_, k1, .inl ⟨rfl, _, .inl (.inl k2)⟩, ?_⟩
    refine evx_call2 (P1 := fun w => w = .int rest.length) (P := IntIn 0 rest.length) rfl (evx_len rfl) (fun z hz => ?_) G F0 H0 _ F2 H' ot _ fun v d F3 H3 hk po dv => ?_
    · subst hz
      exact ⟨hM, (rest.length : Int), rfl, by omega, by
        have : max 1 (rest.length : Int) = rest.length := by omega
        rw [this]; rfl⟩
    · obtain ⟨k, rfl, hk0, hk1⟩ := hk
      have og2 := og.step po
      obtain ⟨a', vs', q1, q2, q3, q4, q5⟩ := og2.ow 2 rest rfl
      have ea : a' = a := by
        rw [List.getElem?_append_left (by rw [List.length_set, hsl]; decide)] at q1
        rw [List.getElem?_set_ne (by decide)] at k1
        rw [q1] at k1
        cases k1
        rfl
      subst ea
      obtain ⟨k, rfl⟩ : ∃ n : Nat, k = n := ⟨k.toNat, by omega⟩
      have hk : k < rest.length := by omega
      have hkv : k < vs'.length := by rw [q5.len]; exact hk
      have hrl : rest.length ≤ 1000000 := by omega
      rw [da_int.mp dv]
      refine ⟨a', vs', (k : Int), k, vs'[k], rfl, rfl, q2, by omega, by omega, ?_, List.getElem?_eq_getElem hkv, ?_⟩
      · unfold seqIndex?
        simp only [if_neg (show ¬ ((k : Int) < 0) by omega)]
        rw [if_pos (by simp; omega)]
        rfl
      · have hE : Das F3 (rest.eraseIdx k) (vs'.eraseIdx k) := das_erase k q5
        have hy : Da F3 rest[k] vs'[k] := by
          obtain ⟨u, h1, h2⟩ := q5.get (List.getElem?_eq_getElem hk)
          rw [List.getElem?_eq_getElem hkv] at h1
          cases h1
          exact h2
        have og3 : Ok A G F0 H0 ([.src, .dat x, .own (rest.eraseIdx k), .no] ++ [.own es]) (σ.set 3 none ++ [some (.ref D)]) F3 (upd H3 a' (.lst (vs'.eraseIdx k))) := og2.chg (vs := vs') (i := 2) (es := rest.eraseIdx k) (ws := vs'.eraseIdx k) rfl q1 q3 q4 hE
        obtain ⟨D', acc, r1, r2, r3, r4, r5⟩ := og3.ow 4 es rfl
        have eD : D' = D := by
          rw [List.getElem?_append_right (by rw [List.length_set, hsl]; decide), List.length_set, hsl] at r1
          cases r1
          rfl
        subst eD
        have og4 : Ok A G F0 H0 ([.src, .dat x, .own (rest.eraseIdx k), .no] ++ [.own (es ++ [rest[k]])]) (σ.set 3 none ++ [some (.ref D')]) F3 (upd (upd H3 a' (.lst (vs'.eraseIdx k))) D' (.lst (acc ++ [vs'[k]]))) := og3.chg (vs := acc) (i := 4) (es := es ++ [rest[k]]) (ws := acc ++ [vs'[k]]) rfl r1 r3 r4 (r5.snoc hy)
        refine ⟨acc, r2, ?_, hlt, F3, _, _, og4, ?_, by rw [List.length_append, hes]; rfl⟩
        · rw [r5.len]
          exact lt_line (by omega)
        · rw [List.append_assoc]
          refine List.Perm.trans (List.Perm.append_left es ?_) hp
          exact erase_perm hk
  · have ei : i = ds.length := by omega
    subst ei
    have hst := (itd_rng (F := F2) (lo := 0) (n := ds.length)).stop F2 H2 (fun _ _ h => h) og.pre.fh
    rw [show (rngD 0 ds.length).length = ds.length by unfold rngD; rw [List.length_map, List.length_range]] at hst
    refine .inl ⟨hst, ?_⟩
    obtain ⟨D', acc, r1, r2, r3, r4, r5⟩ := og.ow 4 es rfl
    have eD : D' = D := by
      rw [List.getElem?_append_right (by rw [List.length_set, hsl]; decide), List.length_set, hsl] at r1
      cases r1
      rfl
    subst eD
    have hr : rest = [] := List.eq_nil_of_length_eq_zero (by omega)
    subst hr
    rw [List.append_nil] at hp
    exact e.rt _ _ _ _ (hC es hp) (og.post.frz r2 r4) (da_list.mpr ⟨D', acc, rfl, upd_same, r5.mono (le_upd r3)⟩)

/-! ### list(range(..)), max and min of a list, sorted of ints -/
theorem kc_max1 {X : Cx} (K : PySem.W.Frag) (hc : X.calm = true) (h : X.K = K := by rfl) : CallR X (.builtin "max") (rMax K) := by subst h; exact cr_max hc
theorem kc_min1 {X : Cx} (K : PySem.W.Frag) (hc : X.calm = true) (h : X.K = K := by rfl) : CallR X (.builtin "min") (rMin K) := by subst h; exact cr_min hc
theorem sql_ints {F H : Hp} {v : V} {is : List Int} (p : Pre A F H) (h : Da F (.list (is.map .int)) v) : ∃ a, v = .ref a ∧ SqL K H a (is.map V.int) := by
  obtain ⟨a, vs, rfl, ha, hx⟩ := da_list.mp h
  have e : vs = is.map V.int := by
    clear ha h
    induction is generalizing vs with
    | nil => exact hx.inv_nil
    | cons i is ih =>
      obtain ⟨y, ys, rfl, h1, h2⟩ := hx.inv_cons
      rw [List.map_cons, ih ys h2, da_int.mp h1]
  exact ⟨a, rfl, SqL.of (by rw [← e]; exact p.fh _ _ ha)⟩
theorem ev_max1 {is : List Int} {m : Int} (h : EvD A te ρ (.list (is.map .int))) (hm : m ∈ is) (hl : ∀ y ∈ is, y ≤ m) : EvD A (tCB (rMax K) (tCons te tNil)) ρ (.int m) := ev_cb (ea_cons h ea_nil) (rv_val fun F H vs p hv => by
  obtain ⟨v, ev, hv1⟩ := vas1 hv
  subst ev
  obtain ⟨a, rfl, hS⟩ := sql_ints (K := K) p hv1
  refine ⟨_, da_int.mpr rfl, fun Q q => ⟨a, is, rfl, hS, List.length_pos_of_mem hm, fun m' h1 h2 => ?_⟩⟩
  have : m' = m := by
    have := hl m' h1
    have := h2 m hm
    omega
  rw [this]
  exact q)
theorem ev_min1 {is : List Int} {m : Int} (h : EvD A te ρ (.list (is.map .int))) (hm : m ∈ is) (hl : ∀ y ∈ is, m ≤ y) : EvD A (tCB (rMin K) (tCons te tNil)) ρ (.int m) := ev_cb (ea_cons h ea_nil) (rv_val fun F H vs p hv => by
  obtain ⟨v, ev, hv1⟩ := vas1 hv
  subst ev
  obtain ⟨a, rfl, hS⟩ := sql_ints (K := K) p hv1
  refine ⟨_, da_int.mpr rfl, fun Q q => ⟨a, is, rfl, hS, List.length_pos_of_mem hm, fun m' h1 h2 => ?_⟩⟩
  have : m' = m := by
    have := hl m' h1
    have := h2 m hm
    omega
  rw [this]
  exact q)
theorem rgV_das {F : Hp} {n : Int} : Das F (rngD 0 n.toNat) (rgV 0 n) := by
  unfold rngD rgV
  rw [Int.sub_zero]
  generalize List.range n.toNat = l
  induction l with
  | nil => exact .nil
  | cons i l ih => exact Das.cons (da_int.mpr rfl) ih
theorem el_listRg {n : Int} (h : EvD A te ρ (.int n)) (h0 : 0 ≤ n) (h1 : n ≤ 1000000) : EvL A (tLstRg (tRg1 te)) ρ ((List.range n.toNat).map fun i : Nat => PyData.int (i : Int)) := fun σ F H e p Q c => by
  refine h σ F H e p _ fun v d F1 H1 hd po dv => ?_
  subst hd
  refine ⟨n, da_int.mp dv, ⟨by omega, by omega, by omega, by omega, by omega⟩, fun q hq => ?_⟩
  have e : rngD 0 n.toNat = (List.range n.toNat).map fun i : Nat => PyData.int (i : Int) := by
    unfold rngD
    simp only [Int.zero_add]
  have p1 := p.next po
  have hD : Das F1 ((List.range n.toNat).map fun i : Nat => PyData.int (i : Int)) (rgV 0 n) := by rw [← e]; exact rgV_das
  exact c q (rgV 0 n) _ F1 (upd H1 q (.lst (rgV 0 n))) rfl (po.trans p.am (Post.new0 p1 hq)) (pre_none p1 hq) (none_back p.am po.le po.am hq) upd_same hD
theorem noDs_ints : ∀ is : List Int, noDs (is.map .int) = true
  | [] => by rfl
  | i :: is => by simp only [List.map_cons, noDs, noD, noDs_ints is, Bool.and_self]
theorem el_sortI {is : List Int} (h : EvD A te ρ (.list (is.map .int))) : EvL A (tCB (rSortD K) (tCons te tNil)) ρ ((is.mergeSort (dataLe false PyData.int)).map .int) := by
  rw [← sortL_map]
  refine el_sorted h (noDs_ints is) (AllAlike.of fun _ _ => rfl) (PySem.W.Sortable.others fun _ => ⟨nofun, nofun⟩) (fun d hd => ?_)
  obtain ⟨i, _, rfl⟩ := List.mem_map.mp hd
  simp only [PyData.depth]
  decide
end
end Pu

/-! Bounds by tens; lists of ints that are drawn orders; parts of lists. -/
namespace Pu
open PySem L2 PySem.W
/-- below ten to the k -/
def Nb (k : Nat) (i : Int) : Prop := i.natAbs < 10 ^ k
theorem ten_le {k l : Nat} (h : k ≤ l) : 10 ^ k ≤ 10 ^ l := Nat.pow_le_pow_right (by decide) h
theorem Nb.mono {k l : Nat} {i : Int} (h : Nb k i) (hk : k ≤ l) : Nb l i := Nat.lt_of_lt_of_le h (ten_le hk)
theorem Nb.up {k : Nat} {i : Int} (h : Nb k i) (hk : k ≤ 50) : Nb 50 i := h.mono hk
theorem nb_two {k l a b : Nat} (ha : a < 10 ^ k) (hb : b < 10 ^ l) : a + b < 10 ^ (max k l + 1) := by
  have h1 := ten_le (Nat.le_max_left k l)
  have h2 := ten_le (Nat.le_max_right k l)
  rw [Nat.pow_succ]
  omega
theorem Nb.add {k l : Nat} {i j : Int} (h : Nb k i) (h' : Nb l j) : Nb (max k l + 1) (i + j) := Nat.lt_of_le_of_lt (by omega) (nb_two h h')
theorem Nb.sub {k l : Nat} {i j : Int} (h : Nb k i) (h' : Nb l j) : Nb (max k l + 1) (i - j) := Nat.lt_of_le_of_lt (by omega) (nb_two h h')
theorem Nb.neg {k : Nat} {i : Int} (h : Nb k i) : Nb k (-i) := by
  unfold Nb
  rw [Int.natAbs_neg]
  exact h
theorem Nb.mul {k l : Nat} {i j : Int} (h : Nb k i) (h' : Nb l j) : Nb (k + l) (i * j) := by
  unfold Nb at *
  rw [Int.natAbs_mul, Nat.pow_add]
  exact Nat.mul_lt_mul'' h h'
theorem Nb.two : Nb 1 2 := by unfold Nb; decide
theorem Nb.one : Nb 1 1 := by unfold Nb; decide
theorem Nb.zero : Nb 1 0 := by unfold Nb; decide
theorem Nb.big {i : Int} (h : Nb 50 i) : i.natAbs < 2 ^ 200 := Nat.lt_trans h (by decide)
theorem Nb.cm {i j : Int} (h : Nb 50 i) (h' : Nb 50 j) : CM i j := cm_big h.big h'.big
theorem Nb.nc {i : Int} {k : Nat} (h : Nb k i) (hk : k ≤ 40 := by decide) : Nc 0 45 (.int i) := Nc.int (Nat.lt_of_lt_of_le h (ten_le hk))
section
variable {A : Am} {ρ : List Ab} {te ta tb : TE} {i j : Int} {K : PySem.W.Frag} {xs : List PyData}
theorem ev_mulW (ha : EvD A ta ρ (.int i)) (hb : EvD A tb ρ (.int j)) (h : Nb 50 i) (h' : Nb 50 j) : EvD A (tOp rMul2 ta tb) ρ (.int (i * j)) := ev_mulI ha hb (h.cm h')
theorem ev_sqW (ha : EvD A ta ρ (.int i)) (hb : EvD A tb ρ (.int 2)) (h : Nb 50 i) : EvD A (tOp (rI CPow2 fun i j => .int (i ^ j.toNat)) ta tb) ρ (.int (i ^ 2)) := ev_powI ha hb (cp_big h.big)
theorem cut_mid {l k : Nat} (h : l ≤ xs.length) (h2 : l + k ≤ xs.length) : cutD xs (some (l : Int)) (some ((l + k : Nat) : Int)) = (xs.drop l).take k := by
  unfold cutD
  rw [HT.sIx_nat, HT.sIx_nat, Nat.min_eq_left h, Nat.min_eq_left h2, Nat.add_sub_cancel_left]
end
theorem any_ints {is : List Int} {j : Int} : ((is.map PyData.int).any fun z => PyData.eqv z (.int j)) = decide (j ∈ is) := by
  rw [Bool.eq_iff_iff, List.any_eq_true, decide_eq_true_eq]
  constructor
  · rintro ⟨z, hz, h⟩
    obtain ⟨i, hi, rfl⟩ := List.mem_map.mp hz
    rw [eqv_int] at h
    rw [← of_decide_eq_true h]
    exact hi
  · intro h
    exact ⟨.int j, List.mem_map.mpr ⟨j, h, rfl⟩, by rw [eqv_int]; exact decide_eq_true rfl⟩
def intV : PyData → Int
  | .int i => i
  | _ => 0
theorem perm_ints {es : List PyData} {is : List Int} (h : es.Perm (is.map .int)) : ∃ js : List Int, es = js.map .int ∧ js.Perm is := by
  refine ⟨es.map intV, ?_, ?_⟩
  · rw [List.map_map]
    refine (List.map_id _).symm.trans (List.map_congr_left fun d hd => ?_)
    obtain ⟨i, _, rfl⟩ := List.mem_map.mp (h.mem_iff.mp hd)
    rfl
  · have := h.map intV
    rw [List.map_map] at this
    have e : is.map (intV ∘ PyData.int) = is := (List.map_congr_left fun i _ => rfl).trans (List.map_id _)
    rw [e] at this
    exact this
theorem kpe_bm (K : PySem.W.Frag) {X : Cx} {o e : Expr} {es : List Expr} {to : TE} {t : TA} {name : Str} {apos cpos : Pos} {T id : String} {r : V → List V → Hp → VK → Prop} (pa : PlainAttrs T) (slot : Slot T name id) (hty : typeOf (.builtin id) = pure (.type "method_descriptor")) (hm : MtR X id r) (ho : PE X o to) (ha : PA X (e :: es) t)
    (hbase : attributeBase o name X.env (eval o X.env) = eval o X.env := by rfl)
    (hfew : ((backTo cpos (starEach (e :: es) X.env)).all (fun x => !x.1) && (backToKw cpos (keywordEach [] X.env)).all (fun x => x.1.isSome)
      && decide ((e :: es).length + ([] : List Keyword).length + (if ([] : List Keyword).isEmpty then 0 else 1) < 30)) = true := by rfl)
    (hline : (apos.endLine == cpos.line) = true := by rfl) (hs : starEach (e :: es) X.env = (false, eval e X.env) :: starEach es X.env := by rfl) (hplain : (backTo cpos (starEach es X.env)).any (·.1) = false := by rfl) (h : X.K = K := by rfl) :
    PE X (.Call (.Attribute o name apos) (e :: es) [] cpos) (tBM K T r to t) := by
  subst h
  exact pe_bm pa slot hty hm ho ha hbase hfew hline hs hplain
end Pu

/-! Ranks of rows of integers, by what they take to nought. Plain: no program in sight. -/
namespace Pu
abbrev Vec := Nat → Int
def dot : Nat → Vec → Vec → Int
  | 0, _, _ => 0
  | w + 1, u, x => dot w u x + u w * x w
theorem dot_lin (w : Nat) (a b : Int) (u v x : Vec) : dot w (fun i => a * u i + b * v i) x = a * dot w u x + b * dot w v x := by
  induction w with
  | zero => simp [dot]
  | succ w ih =>
    simp only [dot, ih]
    grind
theorem dot_scale (w : Nat) (a : Int) (u x : Vec) : dot w u (fun i => a * x i) = a * dot w u x := by
  induction w with
  | zero => simp [dot]
  | succ w ih =>
    simp only [dot, ih]
    grind
theorem dot_congr {w : Nat} {u x y : Vec} (h : ∀ i, i < w → x i = y i) : dot w u x = dot w u y := by
  induction w with
  | zero => rfl
  | succ w ih =>
    simp only [dot]
    rw [ih fun i hi => h i (by omega), h w (by omega)]
theorem dot_congrL {w : Nat} {u v x : Vec} (h : ∀ i, i < w → u i = v i) : dot w u x = dot w v x := by
  induction w with
  | zero => rfl
  | succ w ih =>
    simp only [dot]
    rw [ih fun i hi => h i (by omega), h w (by omega)]
theorem dot_zero {w : Nat} {u x : Vec} (h : ∀ i, i < w → u i = 0 ∨ x i = 0) : dot w u x = 0 := by
  induction w with
  | zero => rfl
  | succ w ih =>
    simp only [dot]
    rw [ih fun i hi => h i (by omega)]
    rcases h w (by omega) with z | z <;> rw [z] <;> simp
/-- only one place counts -/
theorem dot_one {w c : Nat} {u x : Vec} (hc : c < w) (h : ∀ i, i < w → i ≠ c → u i = 0 ∨ x i = 0) : dot w u x = u c * x c := by
  induction w with
  | zero => omega
  | succ w ih =>
    simp only [dot]
    by_cases e : c = w
    · subst e
      rw [dot_zero fun i hi => h i (by omega) (by omega)]
      omega
    · rw [ih (by omega) fun i hi hn => h i (by omega) hn]
      rcases h w (by omega) (by omega) with z | z <;> rw [z] <;> simp
def unitV (c : Nat) : Vec := fun i => if i = c then 1 else 0
theorem dot_unit {w c : Nat} {x : Vec} (hc : c < w) : dot w (unitV c) x = x c := by
  rw [dot_one hc fun i _ hn => .inl (by unfold unitV; rw [if_neg hn])]
  unfold unitV
  rw [if_pos rfl, Int.one_mul]
/-- fewer equations than unknowns -/
theorem few_eqs : ∀ (w : Nat) (E : List Vec), E.length < w → ∃ x : Vec, (∃ i, i < w ∧ x i ≠ 0) ∧ ∀ e ∈ E, dot w e x = 0
  | 0, _, h => by omega
  | w + 1, E, h => by
    by_cases hz : ∀ e ∈ E, e w = 0
    · refine ⟨unitV w, ⟨w, by omega, by unfold unitV; rw [if_pos rfl]; decide⟩, fun e he => ?_⟩
      rw [dot_one (c := w) (by omega) fun i _ hn => .inr (by unfold unitV; rw [if_neg hn]), hz e he, Int.zero_mul]
    · obtain ⟨e0, he0⟩ : ∃ e, e ∈ E ∧ e w ≠ 0 := Classical.byContradiction fun z => hz fun e he => Classical.byContradiction fun y => z ⟨e, he, y⟩
      obtain ⟨hm, hne⟩ := he0
      obtain ⟨l1, l2, rfl⟩ := List.append_of_mem hm
      obtain ⟨x, ⟨i, hi, hx⟩, hs⟩ := few_eqs w ((l1 ++ l2).map fun e => fun i => e0 w * e i + (- e w) * e0 i) (by
        rw [List.length_map, List.length_append]
        rw [List.length_append, List.length_cons] at h
        omega)
      have hq : ∀ e : Vec, dot w (fun i => e0 w * e i + (- e w) * e0 i) x = 0 → dot (w + 1) e (fun i => if i < w then e0 w * x i else - dot w e0 x) = 0 := fun e he => by
        rw [dot_lin] at he
        simp only [dot]
        rw [if_neg (Nat.lt_irrefl w), dot_congr (y := fun i => e0 w * x i) (fun i hi => if_pos hi), dot_scale]
        grind
      refine ⟨fun i => if i < w then e0 w * x i else - dot w e0 x, ⟨i, by omega, ?_⟩, fun e he => ?_⟩
      · show (if i < w then e0 w * x i else - dot w e0 x) ≠ 0
        rw [if_pos hi]
        exact fun z => (Int.mul_eq_zero.mp z).elim hne hx
      · rcases List.mem_append.mp he with he | he
        · exact hq e (hs _ (List.mem_map.mpr ⟨e, List.mem_append.mpr (.inl he), rfl⟩))
        · rcases List.mem_cons.mp he with rfl | he
          · simp only [dot]
            rw [if_neg (Nat.lt_irrefl w), dot_congr (y := fun i => e w * x i) (fun i hi => if_pos hi), dot_scale]
            grind
          · exact hq e (hs _ (List.mem_map.mpr ⟨e, List.mem_append.mpr (.inr he), rfl⟩))
/-- what all rows take to nought -/
def Ker (w : Nat) (rows : List Vec) (x : Vec) : Prop := ∀ r ∈ rows, dot w r x = 0
def RkLe (w : Nat) (rows : List Vec) (r : Nat) : Prop := ∃ E : List Vec, E.length ≤ r ∧ ∀ x, Ker w E x → Ker w rows x
def RkGe (w : Nat) (rows : List Vec) (r : Nat) : Prop := ∃ J : List Nat, J.length + r ≤ w ∧ ∀ x, Ker w rows x → (∀ j ∈ J, x j = 0) → ∀ i, i < w → x i = 0
theorem rk_le {w : Nat} {rows : List Vec} {r s : Nat} (h : RkGe w rows r) (h' : RkLe w rows s) : r ≤ s := by
  obtain ⟨J, hJ, hj⟩ := h
  obtain ⟨E, hE, he⟩ := h'
  refine Nat.le_of_not_lt fun hlt => ?_
  obtain ⟨x, ⟨i, hi, hx⟩, hs⟩ := few_eqs w (E ++ (J.filter fun j => decide (j < w)).map unitV) (by
    rw [List.length_append, List.length_map]
    have := List.length_filter_le (fun j => decide (j < w)) J
    omega)
  refine hx (hj (fun i => if i < w then x i else 0) ?_ ?_ i hi ▸ by rw [if_pos hi])
  · intro r hr
    rw [dot_congr (y := x) fun i hi => if_pos hi]
    exact he x (fun e hm => hs e (List.mem_append.mpr (.inl hm))) r hr
  · intro j hm
    show (if j < w then x j else 0) = 0
    by_cases hw : j < w
    · rw [if_pos hw, ← dot_unit (x := x) hw]
      exact hs _ (List.mem_append.mpr (.inr (List.mem_map.mpr ⟨j, List.mem_filter.mpr ⟨hm, decide_eq_true hw⟩, rfl⟩)))
    · rw [if_neg hw]
/-- the rank -/
structure Rk (w : Nat) (rows : List Vec) (r : Nat) : Prop where
  le : RkLe w rows r
  ge : RkGe w rows r
theorem Rk.zero {w : Nat} {rows : List Vec} (h : ∀ r ∈ rows, ∀ i, i < w → r i = 0) : Rk w rows 0 :=
  ⟨⟨[], Nat.le_refl _, fun x _ r hr => dot_zero fun i hi => .inl (h r hr i hi)⟩, ⟨List.range w, by rw [List.length_range]; exact Nat.le_refl _, fun x _ hj i hi => hj i (List.mem_range.mpr hi)⟩⟩
/-- one row led out, the others cleared at a place -/
theorem Rk.step {w c r : Nat} {rows rest : List Vec} {head : Vec} (hc : c < w) (hh : head c ≠ 0) (hk : ∀ x, Ker w rows x ↔ (dot w head x = 0 ∧ Ker w rest x)) (hz : ∀ v ∈ rest, v c = 0) (h : Rk w rest r) : Rk w rows (r + 1) := by
  obtain ⟨⟨E, hE, he⟩, ⟨J, hJ, hj⟩⟩ := h
  refine ⟨⟨head :: E, by rw [List.length_cons]; omega, fun x hx => (hk x).mpr ⟨hx head List.mem_cons_self, he x fun e hm => hx e (List.mem_cons_of_mem _ hm)⟩⟩, ?_⟩
  have hcJ : c ∈ J := Classical.byContradiction fun hn => by
    have h1 : Ker w rest (unitV c) := fun v hv => by
      rw [dot_one hc fun i _ hi => .inr (by unfold unitV; rw [if_neg hi]), hz v hv, Int.zero_mul]
    have h2 := hj (unitV c) h1 (fun j hm => by
      have : j ≠ c := fun z => hn (by rw [← z]; exact hm)
      unfold unitV
      rw [if_neg this]) c hc
    unfold unitV at h2
    rw [if_pos rfl] at h2
    cases h2
  refine ⟨J.erase c, ?_, fun x hx hJ0 => ?_⟩
  · have := List.length_erase_of_mem hcJ
    have := List.length_pos_of_mem hcJ
    omega
  · obtain ⟨hx1, hx2⟩ := (hk x).mp hx
    have h0 := hj (fun i => if i = c then 0 else x i) (fun v hv => by
      refine Eq.trans ?_ (hx2 v hv)
      have key : ∀ m, dot m v (fun i => if i = c then 0 else x i) = dot m v x := fun m => by
        induction m with
        | zero => rfl
        | succ m ih =>
          simp only [dot]
          rw [ih]
          by_cases e : m = c
          · rw [if_pos e, e, hz v hv]; simp
          · rw [if_neg e]
      exact key w) (fun j hm => by
      show (if j = c then 0 else x j) = 0
      by_cases e : j = c
      · rw [if_pos e]
      · rw [if_neg e]
        exact hJ0 j ((List.mem_erase_of_ne e).mpr hm))
    have h1 : ∀ i, i < w → i ≠ c → x i = 0 := fun i hi hn => by
      have := h0 i hi
      rw [if_neg hn] at this
      exact this
    have h2 : x c = 0 := by
      rw [dot_one hc fun i hi hn => .inr (h1 i hi hn)] at hx1
      exact (Int.mul_eq_zero.mp hx1).elim (fun z => absurd z hh) id
    intro i hi
    by_cases e : i = c
    · rw [e]; exact h2
    · exact h1 i hi e
theorem Rk.same {w r : Nat} {rows rows' : List Vec} (h : Rk w rows r) (hk : ∀ x, Ker w rows x ↔ Ker w rows' x) : Rk w rows' r := by
  obtain ⟨⟨E, hE, he⟩, ⟨J, hJ, hj⟩⟩ := h
  exact ⟨⟨E, hE, fun x hx => (hk x).mp (he x hx)⟩, ⟨J, hJ, fun x hx => hj x ((hk x).mpr hx)⟩⟩
theorem Rk.uniq {w r s : Nat} {rows : List Vec} (h : Rk w rows r) (h' : Rk w rows s) : r = s := Nat.le_antisymm (rk_le h.ge h'.le) (rk_le h'.ge h.le)
theorem Rk.le_w {w r : Nat} {rows : List Vec} (h : Rk w rows r) : r ≤ w := by
  obtain ⟨_, ⟨J, hJ, _⟩⟩ := h
  omega
/-- some rows bounded, the others counted -/
theorem RkLe.part {w r : Nat} {rows some others : List Vec} (h : RkLe w some r) (hs : ∀ v ∈ rows, v ∈ some ∨ v ∈ others) : RkLe w rows (r + others.length) := by
  obtain ⟨E, hE, he⟩ := h
  refine ⟨E ++ others, by rw [List.length_append]; omega, fun x hx v hv => ?_⟩
  rcases hs v hv with h | h
  · exact he x (fun e hm => hx e (List.mem_append.mpr (.inl hm))) v h
  · exact hx v (List.mem_append.mpr (.inr h))
theorem RkLe.sub {w r : Nat} {rows rows' : List Vec} (h : RkLe w rows r) (hs : ∀ v ∈ rows', v ∈ rows) : RkLe w rows' r := by
  obtain ⟨E, hE, he⟩ := h
  exact ⟨E, hE, fun x hx v hv => he x hx v (hs v hv)⟩
end Pu

/-! zip of two lists, strict=True. -/
namespace Pu
open PySem PySem.Spec PyProof.Rows L2
abbrev kwS : List (Str × Value) := [(Str.ofString "strict", .bool true)]
theorem tc_zipS (a b : Value) : checkTypeCall "zip" ⟨[a, b], kwS⟩ = pure () := by kernel_rfl
theorem nc_zipS (a b : Value) : checkBuiltinCall "zip.__new__" ⟨[.type "zip", a, b], kwS⟩ = pure () := by kernel_rfl
theorem ao_zipS (a b c : Value) : argsOk "object.__init__" ⟨[a, b, c], kwS⟩ := by unfold argsOk; kernel_rfl
abbrev zH1 (h : Heap) (l1 : Addr) : Heap := h.push { cls := .type "list_iterator", data := .fields #[.ref l1, .int 0 0] }
abbrev zH2 (h : Heap) (l1 l2 : Addr) : Heap := (zH1 h l1).push { cls := .type "list_iterator", data := .fields #[.ref l2, .int 0 0] }
abbrev zH3 (h : Heap) (l1 l2 : Addr) : Heap := (zH2 h l1 l2).push { cls := .type "tuple", data := .seq #[.ref h.objs.size, .ref (zH1 h l1).objs.size] }
abbrev zH4 (h : Heap) (l1 l2 : Addr) : Heap := (zH3 h l1 l2).push { cls := .type "tuple", data := .seq #[.none, .none] }
abbrev zH5 (h : Heap) (l1 l2 : Addr) : Heap := (zH4 h l1 l2).push { cls := .type "zip", data := .fields #[.none, .bool false, .bool true, .ref (zH2 h l1 l2).objs.size, .ref (zH3 h l1 l2).objs.size] }
set_option maxHeartbeats 4000000 in
theorem meets_zipS (l1 l2 : Addr) (xs ys : Array Value) : Meets (Builtin.«zip.__new__» ⟨[.type "zip", .ref l1, .ref l2], kwS⟩) (fun _ R s => (s.heap.IsList l1 xs ∧ s.heap.IsList l2 ys) ∧ R (.ok (.ret (.ref (zH4 s.heap l1 l2).objs.size))) { s with heap := zH5 s.heap l1 l2 }) :=
  .of_wp fun prog w A R ⟨hp, g, d, tk, os⟩ ⟨⟨k1, k2⟩, q⟩ => by
    have sz := sub_zip
    have m1 : Heap.IsList (Shared.heap ⟨hp, g, d, tk, os⟩) l1 xs := k1
    have m2 : Heap.IsList (Shared.heap ⟨zH1 hp l1, g, d, tk, os⟩) l2 ys := Heap.IsList.push k2 _
    have e1 : (Str.ofString "strict" == ("strict" : Str)) = true := by decide +kernel
    have e2 : (Str.ofString "strict" != ("strict" : Str)) = false := by decide +kernel
    wp_walk using wpAny_pyIter_list m1, wpAny_pyIter_list m2
    exact ⟨_, rfl, q⟩
/-- the cells of a strict zip -/
def ZS (h : Heap) (z ti tu : Addr) (f : Value) : Prop := h.get? z = some { cls := .type "zip", dict := none, data := .fields #[f, .bool false, .bool true, .ref ti, .ref tu], slots := #[] }
section
variable {prog : Program} {w : World} {A : Around} {E : Value → Shared → Prop} {s : Shared}
theorem call_zipS {l1 l2 : Addr} {xs ys : Array Value} {Q : Value → Shared → Prop} (k1 : s.heap.IsList l1 xs) (k2 : s.heap.IsList l2 ys)
    (q : ∀ g, ZS g (s.heap.objs.size + 4) (s.heap.objs.size + 2) (s.heap.objs.size + 3) .none → IsPair g (s.heap.objs.size + 2) (.ref s.heap.objs.size) (.ref (s.heap.objs.size + 1)) → IsPair g (s.heap.objs.size + 3) .none .none →
      g.IsListIter s.heap.objs.size l1 0 → g.IsListIter (s.heap.objs.size + 1) l2 0 → (∀ c o, s.heap.get? c = some o → g.get? c = some o) → Q (.ref (s.heap.objs.size + 4)) { s with heap := g }) :
    wpAny (model prog w) A (call (.type "zip") [.ref l1, .ref l2] kwS) Q E s := by
  have n1 : (zH1 s.heap l1).objs.size = s.heap.objs.size + 1 := by rw [Heap.size_push]
  have n2 : (zH2 s.heap l1 l2).objs.size = s.heap.objs.size + 2 := (Heap.size_push ..).trans (congrArg (· + 1) n1)
  have n3 : (zH3 s.heap l1 l2).objs.size = s.heap.objs.size + 3 := (Heap.size_push ..).trans (congrArg (· + 1) n2)
  have n4 : (zH4 s.heap l1 l2).objs.size = s.heap.objs.size + 4 := (Heap.size_push ..).trans (congrArg (· + 1) n3)
  have up1 : ∀ {c o}, (zH1 s.heap l1).get? c = some o → (zH5 s.heap l1 l2).get? c = some o := fun e => Heap.get?_push_of_some _ (Heap.get?_push_of_some _ (Heap.get?_push_of_some _ (Heap.get?_push_of_some _ e)))
  have g5 : (zH5 s.heap l1 l2).get? (zH4 s.heap l1 l2).objs.size = some _ := Heap.get?_push_size _ rfl
  have g4 : (zH5 s.heap l1 l2).get? (zH3 s.heap l1 l2).objs.size = some _ := Heap.get?_push_of_some _ (Heap.get?_push_size (zH3 s.heap l1 l2) rfl)
  have g3 : (zH5 s.heap l1 l2).get? (zH2 s.heap l1 l2).objs.size = some _ := Heap.get?_push_of_some _ (Heap.get?_push_of_some _ (Heap.get?_push_size (zH2 s.heap l1 l2) rfl))
  have g2 : (zH5 s.heap l1 l2).get? (zH1 s.heap l1).objs.size = some _ := Heap.get?_push_of_some _ (Heap.get?_push_of_some _ (Heap.get?_push_of_some _ (Heap.get?_push_size (zH1 s.heap l1) rfl)))
  have g1 : (zH5 s.heap l1 l2).get? s.heap.objs.size = some _ := up1 (Heap.get?_push_size s.heap rfl)
  rw [n2, n3, n4] at g5
  rw [n3] at g4
  rw [n1, n2] at g3
  rw [n1] at g2
  refine callType_newKw F.called_zip (by decide) (tc_zipS _ _) (nc_zipS _ _) (fun o => ao_zipS o _ _) F.entry_zip_new (meets_zipS l1 l2 xs ys) ⟨⟨k1, k2⟩, ?_⟩
  show _ ∧ _
  rw [n4]
  exact ⟨⟨_, g5, rfl⟩, q _ g5 g3 g4 ⟨_, g1, rfl, rfl⟩ ⟨_, g2, rfl, rfl⟩ fun c o e => up1 (Heap.get?_push_of_some _ e)⟩
/-- nextOrEnd of a list's iterator: an item -/
theorem noe_item {it l : Addr} {i : Nat} {xs : Array Value} {x : Value} {Q : Option Value → Shared → Prop} (hi : s.heap.IsListIter it l i) (hl : s.heap.IsList l xs) (hx : xs[i]? = some x)
    (q : ∀ g, g.IsListIter it l (i + 1) → Heap.SameBut it s.heap g → Q (some x) { s with heap := g }) : wpAny (model prog w) A (Builtin.SmallTypes.nextOrEnd (.ref it)) Q E s := by
  unfold Builtin.SmallTypes.nextOrEnd
  exact wpAny_bind (wpAny_attempt (wpAny_nextOf_list_item hi hl hx fun g a b => wpAny_pure (q g a b)))
theorem noe_end {it l : Addr} {i : Nat} {xs : Array Value} {Q : Option Value → Shared → Prop} (hh : A.handled = none) (hi : s.heap.IsListIter it l i) (hl : s.heap.IsList l xs) (hx : xs[i]? = none)
    (q : ∀ g, Heap.ExtBut it s.heap g → Q none { s with heap := g }) : wpAny (model prog w) A (Builtin.SmallTypes.nextOrEnd (.ref it)) Q E s := by
  unfold Builtin.SmallTypes.nextOrEnd
  refine wpAny_bind (wpAny_attempt (wpAny_nextOf_list_end hh hi hl hx fun g e k ⟨oe, h1, h2⟩ => ?_))
  exact wpAny_bind (wpAny_isInstance (T := "StopIteration") (b := true) ⟨oe, h1, h2⟩ isSubtype_stop (wpAny_pure (q g k)))
theorem ZS.but {g g' : Heap} {z ti tu c : Addr} {f : Value} (h : ZS g z ti tu f) (k : Heap.SameBut c g g') (n : z ≠ c) : ZS g' z ti tu f := k.extBut _ _ n h
theorem isFreeS {z ti tu : Addr} {Q : Bool → Shared → Prop} (hz : ZS s.heap z ti tu .none) (q : Q true s) : wpAny (model prog w) A (Builtin.SmallTypes.ownedTupleIsFree (.ref z)) Q E s := by
  unfold Builtin.SmallTypes.ownedTupleIsFree; exact wpAny_bind (wpAny_field hz rfl (x := .none) rfl (wpAny_pure q))
/-- a turn of a strict zip -/
theorem nextS_item {z ti tu i1 i2 l1 l2 : Addr} {m1 m2 : Nat} {xs ys : Array Value} {x y a b : Value} {Q : Value → Shared → Prop} (D : ZipApart z ti tu i1 i2 l1 l2) (hz : ZS s.heap z ti tu .none) (hI : IsPair s.heap ti (.ref i1) (.ref i2)) (hO : IsPair s.heap tu a b)
    (j1 : s.heap.IsListIter i1 l1 m1) (j2 : s.heap.IsListIter i2 l2 m2) (k1 : s.heap.IsList l1 xs) (k2 : s.heap.IsList l2 ys) (hx : xs[m1]? = some x) (hy : ys[m2]? = some y)
    (q : ∀ g, ZS g z ti tu (rawInt s.heap.objs.size) → IsPair g tu x y → g.IsListIter i1 l1 (m1 + 1) → g.IsListIter i2 l2 (m2 + 1) → IsPair g s.heap.objs.size x y →
      (∀ c o, c ≠ z → c ≠ tu → c ≠ i1 → c ≠ i2 → s.heap.get? c = some o → g.get? c = some o) → Q (.ref s.heap.objs.size) { s with heap := g }) :
    wpAny (model prog w) A (Builtin.«zip.__next__» ⟨[.ref z], []⟩) (fun fin t => ∃ v, fin = .done (.ret v) ∧ Q v t) E s := by
  refine wpAny_bind (m := field (.ref z) 2) (wpAny_field hz rfl (x := .bool true) rfl ?_)
  refine wpAny_bind (m := field (.ref z) 3) (wpAny_field hz rfl (x := .ref ti) rfl ?_)
  refine wpAny_bind (wpAny_seqItems hI rfl ?_)
  refine wpAny_bind (m := Builtin.SmallTypes.ownedTupleIsFree (.ref z)) (isFreeS hz ?_)
  simp only [↓reduceIte]
  refine wpAny_bind (wpAny_rule (wpAny_bind (wpAny_field hz rfl (x := .ref tu) rfl (wpAny_bind (wpAny_setField_rec hz (by simp) fun g1 z1 s1 => ?_)))))
  have z1 : ZS g1 z ti tu .ellipsis := z1
  simp only [List.zipIdx_nil, List.zipIdx_cons, List.forIn_nil, List.forIn_cons]
  refine wpAny_bind (wpAny_bind (wpAny_bind (wpAny_onRaise (noe_item (j1.extBut s1.extBut D.i1z) (k1.extBut s1.extBut D.l1z) hx fun g2 i1' s2 => ?_))))
  have o2 : IsPair g2 tu a b := s2.extBut _ _ D.TOi1 (s1.extBut _ _ D.TOz hO)
  refine wpAny_bind (wpAny_seqItems o2 rfl (wpAny_bind (wpAny_updateSeq_pair o2 fun g3 o3 s3 => ?_)))
  have o3 : IsPair g3 tu x b := o3
  refine wpAny_bind (wpAny_letGo (wpAny_pure (wpAny_bind (wpAny_bind (wpAny_onRaise (noe_item (((j2.extBut s1.extBut D.i2z).extBut s2.extBut D.i12.symm).extBut s3.extBut D.TOi2.symm) (((k2.extBut s1.extBut D.l2z).extBut s2.extBut D.l2i1).extBut s3.extBut D.l2TO) hy fun g4 i2' s4 => ?_))))))
  have o4 : IsPair g4 tu x b := s4.extBut _ _ D.TOi2 o3
  refine wpAny_bind (wpAny_seqItems o4 rfl (wpAny_bind (wpAny_updateSeq_pair o4 fun g5 o5 s5 => ?_)))
  have o5 : IsPair g5 tu x y := o5
  refine wpAny_bind (wpAny_letGo (wpAny_pure (wpAny_pure ?_)))
  refine wpAny_bind (wpAny_seqItems o5 rfl (wpAny_bind (wpAny_newTuple ?_)))
  have sz : g5.objs.size = s.heap.objs.size := by rw [s5.1, s4.1, s3.1, s2.1, s1.1]
  have z5 : ZS g5 z ti tu .ellipsis := (((z1.but s2 D.i1z.symm).but s3 D.TOz.symm).but s4 D.i2z.symm).but s5 D.TOz.symm
  have kp : ∀ c o, c ≠ z → c ≠ tu → c ≠ i1 → c ≠ i2 → s.heap.get? c = some o → g5.get? c = some o := fun c o n1 n2 n3 n4 e => s5.extBut _ _ n2 (s4.extBut _ _ n4 (s3.extBut _ _ n2 (s2.extBut _ _ n3 (s1.extBut _ _ n1 e))))
  have j1' : g5.IsListIter i1 l1 (m1 + 1) := ((i1'.extBut s3.extBut D.TOi1.symm).extBut s4.extBut D.i12).extBut s5.extBut D.TOi1.symm
  have j2' : g5.IsListIter i2 l2 (m2 + 1) := i2'.extBut s5.extBut D.TOi2.symm
  have zlt : z < g5.objs.size := Heap.lt_size z5
  refine wpAny_bind (m := Builtin.SmallTypes.ownedTupleHandOut (.ref z) (.ref g5.objs.size)) ?_
  have z6 : ZS (g5.push { cls := .type "tuple", data := .seq #[x, y] }) z ti tu .ellipsis := Heap.get?_push_of_some _ z5
  unfold Builtin.SmallTypes.ownedTupleHandOut; refine wpAny_bind (wpAny_setField_rec z6 (by simp) fun g7 z7 s7 => ?_)
  have z7 : ZS g7 z ti tu (rawInt g5.objs.size) := z7
  refine wpAny_setField_rec z7 (by simp) fun g8 z8 s8 => ?_
  have z8 : ZS g8 z ti tu (rawInt g5.objs.size) := z8
  have up : ∀ c o, c ≠ z → g5.get? c = some o → g8.get? c = some o := fun c o n e => s8.extBut _ _ n (s7.extBut _ _ n (Heap.get?_push_of_some _ e))
  have new : IsPair g8 g5.objs.size x y := s8.extBut _ _ (Nat.ne_of_gt zlt) (s7.extBut _ _ (Nat.ne_of_gt zlt) (Heap.get?_push_size g5 rfl))
  rw [sz] at z8 new
  refine wpAny_pure ⟨_, rfl, ?_⟩
  show Q (.ref g5.objs.size) { s with heap := g8 }
  rw [sz]
  exact q g8 z8 (up _ _ D.TOz o5) (j1'.at fun o e => up _ o D.i1z e) (j2'.at fun o e => up _ o D.i2z e) new fun c o n1 n2 n3 n4 e => up c o n1 (kp c o n1 n2 n3 n4 e)
theorem stopS {α : Type} {Q : α → Shared → Prop} (hh : A.handled = none) (q : ∀ g e, (∀ c o, s.heap.get? c = some o → g.get? c = some o) → (∃ o, g.get? e = some o ∧ o.cls = .type "StopIteration") → E (.ref e) { s with heap := g }) : wpAny (model prog w) A (Builtin.SmallTypes.stopIteration : Sem α) Q E s := by
  unfold Builtin.SmallTypes.stopIteration; refine wpAny_bind (m := newExc (.type "StopIteration") []) ?_
  simp only [newTuple, newExc]
  refine wpAny_bind (wpAny_newObj_type ?_ (by size_fits))
  refine wpAny_bind (m := firstArgMember _ _) (wpAny_of_eq (a := Value.none) (by first | (simp only [firstArgMember]; rfl) | rfl) (wpAny_newObj_type ?_ (by size_fits)))
  unfold raiseNew
  refine wpAny_bind (wpAny_handled (hh.symm ▸ ?_))
  refine wpAny_bind (wpAny_pure (wpAny_throw (?_ : _)))
  exact q _ _ (fun c o e => Heap.get?_push_of_some _ (Heap.get?_push_of_some _ e)) ⟨_, Heap.get?_push_size _ rfl, rfl⟩
/-- both are at their ends -/
theorem nextS_end {z ti tu i1 i2 l1 l2 : Addr} {m1 m2 : Nat} {xs ys : Array Value} {a b : Value} {Q : Fin → Shared → Prop} (hh : A.handled = none) (D : ZipApart z ti tu i1 i2 l1 l2) (hz : ZS s.heap z ti tu .none) (hI : IsPair s.heap ti (.ref i1) (.ref i2)) (hO : IsPair s.heap tu a b)
    (j1 : s.heap.IsListIter i1 l1 m1) (j2 : s.heap.IsListIter i2 l2 m2) (k1 : s.heap.IsList l1 xs) (k2 : s.heap.IsList l2 ys) (hx : xs[m1]? = none) (hy : ys[m2]? = none)
    (q : ∀ g e, (∀ c o, c ≠ z → c ≠ tu → c ≠ i1 → c ≠ i2 → s.heap.get? c = some o → g.get? c = some o) → (∃ o, g.get? e = some o ∧ o.cls = .type "StopIteration") → E (.ref e) { s with heap := g }) :
    wpAny (model prog w) A (Builtin.«zip.__next__» ⟨[.ref z], []⟩) Q E s := by
  refine wpAny_bind (m := field (.ref z) 2) (wpAny_field hz rfl (x := .bool true) rfl ?_)
  refine wpAny_bind (m := field (.ref z) 3) (wpAny_field hz rfl (x := .ref ti) rfl ?_)
  refine wpAny_bind (wpAny_seqItems hI rfl ?_)
  refine wpAny_bind (m := Builtin.SmallTypes.ownedTupleIsFree (.ref z)) (isFreeS hz ?_)
  simp only [↓reduceIte]
  refine wpAny_bind (wpAny_rule (wpAny_bind (wpAny_field hz rfl (x := .ref tu) rfl (wpAny_bind (wpAny_setField_rec hz (by simp) fun g1 z1 s1 => ?_)))))
  have z1 : ZS g1 z ti tu .ellipsis := z1
  simp only [List.zipIdx_nil, List.zipIdx_cons, List.forIn_nil, List.forIn_cons]
  refine wpAny_bind (wpAny_bind (wpAny_bind (wpAny_onRaise (noe_end hh (j1.extBut s1.extBut D.i1z) (k1.extBut s1.extBut D.l1z) hx fun g2 s2 => ?_))))
  have z2 : ZS g2 z ti tu .ellipsis := s2 _ _ D.i1z.symm z1
  refine wpAny_bind (wpAny_setField_rec z2 (by simp) fun g3 z3 s3 => ?_)
  refine wpAny_bind ?_
  show wpAny _ _ (((Builtin.SmallTypes.nextOrEnd (.ref i2) >>= _) >>= _) >>= _) _ _ _
  have z3 : ZS g3 z ti tu .none := z3
  refine wpAny_bind (wpAny_bind (wpAny_bind (noe_end hh (((j2.extBut s1.extBut D.i2z).extBut s2 D.i12.symm).extBut s3.extBut D.i2z) (((k2.extBut s1.extBut D.l2z).extBut s2 D.l2i1).extBut s3.extBut D.l2z) hy fun g4 s4 => ?_)))
  refine wpAny_pure ?_
  refine wpAny_pure ?_
  refine wpAny_bind (wpAny_rule (stopS hh fun g5 e s5 he => ?_))
  exact q g5 e (fun c o n1 n2 n3 n4 x => s5 _ _ (s4 _ _ n4 (s3.extBut _ _ n1 (s2 _ _ n3 (s1.extBut _ _ n1 x))))) he
theorem pyNextS_item {z ti tu i1 i2 l1 l2 : Addr} {m1 m2 : Nat} {xs ys : Array Value} {x y a b : Value} {Q : Option Value → Shared → Prop} (D : ZipApart z ti tu i1 i2 l1 l2) (hz : ZS s.heap z ti tu .none) (hI : IsPair s.heap ti (.ref i1) (.ref i2)) (hO : IsPair s.heap tu a b)
    (j1 : s.heap.IsListIter i1 l1 m1) (j2 : s.heap.IsListIter i2 l2 m2) (k1 : s.heap.IsList l1 xs) (k2 : s.heap.IsList l2 ys) (hx : xs[m1]? = some x) (hy : ys[m2]? = some y)
    (q : ∀ g, ZS g z ti tu (rawInt s.heap.objs.size) → IsPair g tu x y → g.IsListIter i1 l1 (m1 + 1) → g.IsListIter i2 l2 (m2 + 1) → IsPair g s.heap.objs.size x y →
      (∀ c o, c ≠ z → c ≠ tu → c ≠ i1 → c ≠ i2 → s.heap.get? c = some o → g.get? c = some o) → Q (some (.ref s.heap.objs.size)) { s with heap := g }) : wpAny (model prog w) A (pyNext (.ref z)) Q E s := by
  have ty : s.TypeIs (.ref z) "zip" := ⟨_, hz, rfl⟩
  unfold pyNext
  exact wpAny_bind (wpAny_attempt (wpAny_callSpecial?_slot (name := Str.ofString "__next__") ty F.slot_zip_next (wpAny_call_entry F.slot_zip_next ty F.entry_zip_next (nextS_item D hz hI hO j1 j2 k1 k2 hx hy fun g c1 c2 c3 c4 c5 c6 => wpAny_pure (q g c1 c2 c3 c4 c5 c6)) (F.args_zip_next_1 _))))
theorem pyNextS_end {z ti tu i1 i2 l1 l2 : Addr} {m1 m2 : Nat} {xs ys : Array Value} {a b : Value} {Q : Option Value → Shared → Prop} (hh : A.handled = none) (D : ZipApart z ti tu i1 i2 l1 l2) (hz : ZS s.heap z ti tu .none) (hI : IsPair s.heap ti (.ref i1) (.ref i2)) (hO : IsPair s.heap tu a b)
    (j1 : s.heap.IsListIter i1 l1 m1) (j2 : s.heap.IsListIter i2 l2 m2) (k1 : s.heap.IsList l1 xs) (k2 : s.heap.IsList l2 ys) (hx : xs[m1]? = none) (hy : ys[m2]? = none)
    (q : ∀ g, (∀ c o, c ≠ z → c ≠ tu → c ≠ i1 → c ≠ i2 → s.heap.get? c = some o → g.get? c = some o) → Q none { s with heap := g }) : wpAny (model prog w) A (pyNext (.ref z)) Q E s := by
  have ty : s.TypeIs (.ref z) "zip" := ⟨_, hz, rfl⟩
  unfold pyNext
  refine wpAny_bind (wpAny_attempt (wpAny_callSpecial?_slot (name := Str.ofString "__next__") ty F.slot_zip_next (wpAny_call_entry F.slot_zip_next ty F.entry_zip_next (nextS_end hh D hz hI hO j1 j2 k1 k2 hx hy fun g e k ⟨o, ho, hc⟩ => ?_) (F.args_zip_next_1 _))))
  exact wpAny_bind (wpAny_isInstance (T := "StopIteration") (b := true) ⟨o, ho, hc⟩ isSubtype_stop (wpAny_pure (q _ k)))
theorem letGoS {elts : List Expr} {n : Nat} {pos : Pos} {z ti tu t : Addr} {Q : Unit → Shared → Prop} (hz : ZS s.heap z ti tu (rawInt t)) (q : ∀ g, ZS g z ti tu .none → Heap.SameBut z s.heap g → Q () { s with heap := g }) :
    wpAny (model prog w) A (letOwnedTupleGo (.Tuple elts n pos) (.ref z) (.ref t)) Q E s := by
  unfold letOwnedTupleGo
  refine wpAny_bind (wpAny_load hz ?_)
  show wpAny _ _ (ite ((["enumerate", "zip", "dict_itemiterator", "dict_reverseitemiterator", "odict_iterator", "itertools.zip_longest", "itertools.pairwise"].contains "zip" && (#[rawInt t, .bool false, .bool true, .ref ti, .ref tu] : Array Value)[0]? == some (rawInt t)) = true) _ _) Q E s
  rw [if_pos (by simp)]
  exact wpAny_bind (wpAny_rule (wpAny_setField_rec hz (by simp) fun g z' k => q g z' k))
theorem pyIterS {z ti tu : Addr} {f : Value} {Q : Value → Shared → Prop} (hz : ZS s.heap z ti tu f) (q : Q (.ref z) s) : wpAny (model prog w) A (pyIter (.ref z)) Q E s := by
  have ty : s.TypeIs (.ref z) "zip" := ⟨_, hz, rfl⟩
  refine wpAny_pyIter_slot ty F.slot_zip_iter (wpAny_call_entry F.slot_zip_iter ty F.entry_zip_iter ?_ (F.args_zip_iter_1 _))
  exact wpAny_pure (a := Fin.done (Flow.ret (.ref z))) ⟨_, rfl, "zip", _, ty, F.slot_zip_next.lookup, q⟩
end
/-- two lists of one length -/
def ItS (K : PySem.W.Frag) (a b : Addr) : It :=
  ⟨(Itz K a b).go, (Itz K a b).yld, fun i H => ∃ xs ys : List V, SqL K H a xs ∧ SqL K H b ys ∧ xs.length ≤ i ∧ ys.length ≤ i⟩
theorem turn_zipS {P : Program} {w : World} {K : PySem.W.Frag} {elts : List Expr} {n : Nat} {tp : Pos} {a b z ti tu i1 i2 : Addr} (D : ZipApart z ti tu i1 i2 a b) :
    Turn P w K (.Tuple elts n tp) (ItS K a b) [z, ti, tu, i1, i2] z (fun i h => ZS h z ti tu .none ∧ IsPair h ti (.ref i1) (.ref i2) ∧ (∃ x y, IsPair h tu x y) ∧ h.IsListIter i1 a i ∧ h.IsListIter i2 b i) := by
  refine ⟨List.mem_cons_self, fun i h ⟨hz, hI, ⟨x, y, hO⟩, ⟨o1, e1, _, d1⟩, ⟨o2, e2, _, d2⟩⟩ c hc => ?_, fun i h h' ⟨hz, hI, ⟨x, y, hO⟩, j1, j2⟩ k => ⟨k _ (by simp) _ hz, k _ (by simp) _ hI, ⟨x, y, k _ (by simp) _ hO⟩, j1.at fun o e => k _ (by simp) o e, j2.at fun o e => k _ (by simp) o e⟩, ?_, ?_, fun A i s Q E st q => pyIterS st.1 q⟩
  · simp only [List.mem_cons, List.not_mem_nil, or_false] at hc
    rcases hc with e | e | e | e | e <;> subst e
    · exact ⟨_, hz, nofun⟩
    · exact ⟨_, hI, nofun⟩
    · exact ⟨_, hO, nofun⟩
    · exact ⟨o1, e1, fun v e => by rw [d1] at e; cases e⟩
    · exact ⟨o2, e2, fun v e => by rw [d2] at e; cases e⟩
  · intro X hP hw hK _ i pins s σ H E I fp ⟨hz, hI, ⟨x0, y0, hO⟩, j1, j2⟩ ⟨xs, ys, x, y, qx, qy, gx, gy⟩
    subst hP hw hK
    obtain ⟨its, rv, p1, _⟩ := I.list qx
    obtain ⟨jts, rw', p2, _⟩ := I.list qy
    obtain ⟨u, hu, ru⟩ := rv.get gx
    obtain ⟨u', hu', ru'⟩ := rw'.get gy
    have zl : z < s.heap.objs.size := Heap.lt_size hz
    have lts : ∀ c, c ∈ [z, ti, tu, i1, i2] → c < s.heap.objs.size := fun c hc => by
      simp only [List.mem_cons, List.not_mem_nil, or_false] at hc
      obtain ⟨_, e1, _⟩ := j1
      obtain ⟨_, e2, _⟩ := j2
      rcases hc with e | e | e | e | e <;> subst e
      · exact zl
      · exact Heap.lt_size hI
      · exact Heap.lt_size hO
      · exact Heap.lt_size e1
      · exact Heap.lt_size e2
    refine pyNextS_item D hz hI hO j1 j2 p1.isList p2.isList (x := u) (y := u') (by simpa using hu) (by simpa using hu') fun g c1 c2 c3 c4 c5 kp => ⟨_, rfl, letGoS (s := { s with heap := g }) c1 fun g2 z2 sb => ?_⟩
    have new : IsPair g2 s.heap.objs.size u u' := (sb.2 _ (Nat.ne_of_gt zl)).trans c5
    have ok : ObjOk X.prog X.w (upd H s.heap.objs.size (.tup [x, y])) g2 s.heap.objs.size (.tup [x, y]) := ⟨by show 2 ≤ sizeLine; decide, [u, u'], .cons ru (.cons ru' .nil), ⟨_, new, rfl, _, rfl⟩⟩
    have I2 : Inv X pins σ (upd H s.heap.objs.size (.tup [x, y])) { s with heap := g2 } := I.turnedNew (t' := s.toks) (ch := [z, ti, tu, i1, i2]) (fun c o hc e => by
      simp only [List.mem_cons, List.not_mem_nil, or_false, not_or] at hc
      exact (sb.2 c hc.1).trans (kp c o hc.1 hc.2.2.1 hc.2.2.2.1 hc.2.2.2.2 e)) fp (Nat.le_refl _) ok
    refine ⟨.ref s.heap.objs.size, _, I2, rfl, ⟨_, x, y, rfl, I.hok.fresh (Nat.le_refl _), rfl, fun l h => by rw [I.list_inj h qx]; exact gx, fun l h => by rw [I.list_inj h qy]; exact gy⟩, ⟨z2, (sb.2 _ D.TIz).trans (kp _ _ D.TIz D.TITO D.TIi1 D.TIi2 hI), ⟨u, u', (sb.2 _ D.TOz).trans c2⟩, c3.at fun o e => (sb.2 _ D.i1z).trans e, c4.at fun o e => (sb.2 _ D.i2z).trans e⟩, fun c hc => ?_⟩
    rw [upd_ne (Nat.ne_of_lt (lts c hc))]
    exact (fp c hc).1
  · intro X hP hw hK cal i pins s σ H E I fp ⟨hz, hI, ⟨x0, y0, hO⟩, j1, j2⟩ ⟨xs, ys, qx, qy, ex, ey⟩
    subst hP hw hK
    obtain ⟨its, rv, p1, _⟩ := I.list qx
    obtain ⟨jts, rw', p2, _⟩ := I.list qy
    have n1 := rv.length
    have n2 := rw'.length
    refine pyNextS_end (I.ok.hd cal) D hz hI hO j1 j2 p1.isList p2.isList (by simp; omega) (by simp; omega) fun g kp => ⟨rfl, I.turnedL (t' := s.toks) (ch := [z, ti, tu, i1, i2]) (fun c o hc e => ?_) fp⟩
    simp only [List.mem_cons, List.not_mem_nil, or_false, not_or] at hc
    exact kp c o hc.1 hc.2.2.1 hc.2.2.2.1 hc.2.2.2.2 e
def iZipS (K : PySem.W.Frag) (ta : TA) : TI := fun σ H R => ta σ H fun vs H1 => ∃ a b xs ys, vs = [.ref a, .ref b] ∧ SqL K H1 a xs ∧ SqL K H1 b ys ∧ R (ItS K a b) H1
theorem callWith_tyK {M : Model} {A : Around} {E : Value → Shared → Prop} {s : Shared} {pos : Pos} {T : String} {first : List Value} {args : List (Bool × Sem Value)} {kws : List (Option Str × Sem Value)} {Q : Value → Shared → Prop} (h1 : args.any (·.1) = false) (h2 : kws.any (·.1.isNone) = false)
    (h : wpAny M A (evalArgs (.type T) true args kws) (fun a t => wpAny M A (call (.type T) (first ++ a.pos) a.kw) Q E t) E s) : wpAny M A (callWith pos (.type T) first args kws) Q E s := by
  unfold callWith
  refine wpAny_bind (wpAny_holding (wpAny_mono h (fun a t q => wpAny_bind (wpAny_standAt (?_ : _))) fun _ _ z => z))
  simp only [h2, h1, Bool.or_false]
  exact wpAny_bind (wpAny_pure (wpAny_bind (wpAny_mono q (fun r t hr => wpAny_bind (wpAny_holding (wpAny_point (wpAny_pure hr)))) fun _ _ z => z)))
theorem pi_zipS {X : Cx} (K : PySem.W.Frag) {e e2 : Expr} {ta : TA} {p p1 kp pos tp : Pos} {elts : List Expr} {n k : Nat} (hg : Gl X "zip") (hm : X.mg "zip" = none) (ha : PA X [e, e2] ta)
    (h1 : backTo pos (starEach [e, e2] X.env) = (false, eval e X.env) :: backTo pos (starEach [e2] X.env) := by rfl) (h2 : (backTo pos (starEach [e, e2] X.env)).any (·.1) = false := by rfl) (h : X.K = K := by rfl) :
    PI X (.Tuple elts n tp) (.Call (.Name "zip" p) [e, e2] [⟨some (Str.ofString "strict"), .Constant (.bool true) k p1, kp⟩] pos) (iZipS K ta) := by
  subst h
  refine ⟨fun pins s σ H R I q => wpAny_Call_Name_kw (ld_blt I hg hm PyProof.Rows.boot_zip (callWith_tyK h2 (by rfl) ?_))⟩
  rw [h1]
  refine evalArgs_kwB (by rfl) ?_
  rw [← h1]
  refine thn (ha.run pos pins s σ H _ I q) fun us s1 ⟨vs, H1, I1, r1, q1⟩ => ?_
  refine kws_cons (thn ((pe_bl (b := true)).run pins s1 σ H1 (fun v H2 => v = .bl true ∧ H2 = H1) I1 ⟨rfl, rfl⟩) fun v s2 ⟨x, H2, I2, r2, ex, eH⟩ => kws_nil ?_)
  subst ex eH
  cases r2
  obtain ⟨a, b, xs, ys, ex, qx, qy, q1⟩ := q1
  subst ex
  obtain ⟨u, v, rfl, ra, rb⟩ := r1.two
  cases ra
  cases rb
  obtain ⟨its, _, k1, _⟩ := I2.list qx
  obtain ⟨jts, _, k2, _⟩ := I2.list qy
  refine call_zipS k1.isList k2.isList fun g hz hI hO j1 j2 kp => pyIterS hz ⟨_, [s2.heap.objs.size + 4, s2.heap.objs.size + 2, s2.heap.objs.size + 3, s2.heap.objs.size, s2.heap.objs.size + 1], _, _, H2, rfl, I2.kept (t' := s2.toks) kp, turn_zipS (PySem.W.ktu_apart s2.heap.objs.size a b k1.lt k2.lt), ⟨hz, hI, ⟨_, _, hO⟩, j1, j2⟩, fun c hc => ?_, q1⟩
  have le : s2.heap.objs.size ≤ c := by
    simp only [List.mem_cons, List.not_mem_nil, or_false] at hc
    rcases hc with e | e | e | e | e <;> rw [e]
    · exact Nat.le_add_right _ 4
    · exact Nat.le_add_right _ 2
    · exact Nat.le_add_right _ 3
    · exact Nat.le_refl _
    · exact Nat.le_add_right _ 1
  exact I2.fpOk le (I2.hok.fresh le)
/-- data in pairs -/
theorem itd_zipS {K : PySem.W.Frag} {F : Hp} {a b : Addr} {xs ys : List V} {ds es : List PyData} (ha : F a = some (.lst xs)) (hb : F b = some (.lst ys)) (hx : Das F ds xs) (hy : Das F es ys) (hl : ds.length = es.length) (h : ItD (Itz K a b) F (zipD ds es)) : ItD (ItS K a b) F (zipD ds es) where
  go := h.go
  yld := h.yld
  stop := fun F' H h1 h2 => by
    have n : (zipD ds es).length = ds.length := by unfold zipD; rw [List.length_map, List.length_zip]; omega
    exact ⟨xs, ys, SqL.of (h2 _ _ (h1 _ _ ha)), SqL.of (h2 _ _ (h1 _ _ hb)), by rw [hx.len, n]; exact Nat.le_refl _, by rw [hy.len, n]; omega⟩
section
variable {A : Am} {ρ : List Ab} {ta tb : TE} {ds es : List PyData} {K : PySem.W.Frag}
theorem ei_zipS (h : EvD A ta ρ (.list ds)) (h' : EvD A tb ρ (.list es)) (hl : ds.length = es.length) : EvI A (iZipS K (tCons ta (tCons tb tNil))) ρ (fun w => w = zipD ds es) := fun σ F H e p R c => (ea_cons h (ea_cons h' ea_nil)) σ F H e p _ fun vs bs F1 H1 hb po hv => by
  subst hb
  obtain ⟨v, u, ev, hv1, hu1⟩ := vas2 hv
  subst ev
  obtain ⟨a, xs, rfl, ha, hx⟩ := da_list.mp hv1
  obtain ⟨b, ys, rfl, hb, hy⟩ := da_list.mp hu1
  exact ⟨a, b, xs, ys, rfl, SqL.of (po.fh _ _ ha), SqL.of (po.fh _ _ hb), c _ _ F1 H1 rfl po (itd_zipS ha hb hx hy hl (itd_zipl ha hx hb hy))⟩
theorem ei_zipSm {α : Type} {as : List α} {f g : α → PyData} (h : EvD A ta ρ (.list (as.map f))) (h' : EvD A tb ρ (.list (as.map g))) : EvI A (iZipS K (tCons ta (tCons tb tNil))) ρ (fun w => w = as.map fun a => .tuple [f a, g a]) := by
  have := ei_zipS (K := K) h h' (by rw [List.length_map, List.length_map])
  rw [zipD_map] at this
  exact this
end
end Pu

/-! More statements: two items stored at once, own lists popped, pairs whose first is a new list. -/
namespace Pu
open PySem L2
section
variable {A : Am} {ρ : List Ab} {C : Ct} {te ta tb t1 t2 : TE} {x y d : PyData} {ds : List PyData} {n m i j k : Nat} {K : PySem.W.Frag}
theorem own_set {b : Ab} {es : List PyData} {i j : Nat} (hb : ∀ fs, b ≠ .own fs) (h : (ρ.set i b)[j]? = some (.own es)) : ρ[j]? = some (.own es) ∧ j ≠ i := by
  rcases set_some h with ⟨_, e⟩ | ⟨n, h⟩
  · exact absurd e.symm (hb es)
  · exact ⟨h, n⟩
/-- xs[i], xs[j] = x, y -/
theorem run_put2 {p q : Int} (ho : ρ[n]? = some (.own ds)) (h : EvD A te ρ (.tuple [x, y])) (h1 : EvD A t1 ρ (.int p)) (h2 : ∀ b, EvD A t2 (ρ.set n b) (.int q)) (hp : 0 ≤ p ∧ p < ds.length) (hq : 0 ≤ q ∧ q < ds.length) (hn : C.nx (ρ.set n (.own ((ds.set p.toNat x).set q.toNat y)))) :
    Run A (tAsg te (gTup K 2 (gCons (gSub (tVar n) t1 rSetL) (gCons (gSub (tVar n) t2 rSetL) gNil)))) ρ C := fun G F0 H0 σ F H D o e =>
  h σ F H o.en o.pre _ fun v z F1 H1 hz po dv => by
    subst hz
    obtain ⟨a, xs, rfl, ha, hx⟩ := da_tup.mp dv
    obtain ⟨vx, ys, rfl, dx, hy⟩ := hx.inv_cons
    obtain ⟨vy, zs, rfl, dy, hz⟩ := hy.inv_cons
    rw [hz.inv_nil] at ha
    have o1 := o.step po
    obtain ⟨b, us, k1, k2, k3, k4, k5⟩ := o1.ow n ds ho
    refine ⟨a, _, rfl, SqT.of (o1.pre.fh _ _ ha), rfl, vx, _, rfl, _, k1, h1 σ F1 H1 o1.en o1.pre _ fun w z F2 H2 hz po2 dw => ?_⟩
    subst hz
    have o2 := o1.step po2
    obtain ⟨b', us2, q1, q2, q3, q4, q5⟩ := o2.ow n ds ho
    rw [k1] at q1
    cases q1
    have hl := q5.len
    have hix : ∀ {r : Int}, 0 ≤ r ∧ r < ds.length → ixN us2.length r = some r.toNat := fun {r} hr => by
      unfold ixN
      rw [if_pos hr.1, if_pos (by omega)]
    refine ⟨b, us2, p, p.toNat, rfl, da_int.mp dw, q2, hix hp, ?_⟩
    have o3 := o2.chg (vs := us2) ho k1 q3 q4 (q5.set p.toNat (Da.mono po2.ff _ _ dx))
    have hn' : n < ρ.length := (List.getElem?_eq_some_iff.mp ho).1
    have ho3 : (ρ.set n (.own (ds.set p.toNat x)))[n]? = some (.own (ds.set p.toNat x)) := List.getElem?_set_self hn'
    refine ⟨vy, _, rfl, _, k1, h2 _ σ F2 _ o3.en o3.pre _ fun w z F4 H4 hz po4 dw4 => ?_⟩
    subst hz
    have o4 := o3.step po4
    obtain ⟨b', us4, r1, r2, r3, r4, r5⟩ := o4.ow n _ ho3
    rw [k1] at r1
    cases r1
    have hl4 := r5.len
    rw [List.length_set] at hl4
    have hix4 : ixN us4.length q = some q.toNat := by
      unfold ixN
      rw [if_pos hq.1, if_pos (by omega)]
    refine ⟨b, us4, q, q.toNat, rfl, da_int.mp dw4, r2, hix4, rfl, ?_⟩
    have o5 := o4.chg (vs := us4) ho3 k1 r3 r4 (r5.set q.toNat (Da.mono po4.ff _ _ (Da.mono po2.ff _ _ dy)))
    rw [List.set_set] at o5
    exact e.nx _ σ F4 _ hn o5
/-- head = xs.pop() -/
theorem run_popSet (ho : ρ[n]? = some (.own (ds ++ [d]))) (hn : C.nx ((ρ.set n (.own ds)).set m (.dat d))) : Run A (tAsg (tBM0 K "list" rPop (tVar n)) (gName m)) ρ C := fun G F0 H0 σ F H D o e => by
  obtain ⟨a, us, k1, k2, k3, k4, k5⟩ := o.ow n _ ho
  have hl := k5.len
  rw [List.length_append, List.length_singleton] at hl
  obtain ⟨v, hv, dv⟩ := k5.get (i := ds.length) (d := d) (by rw [List.getElem?_append_right (Nat.le_refl _), Nat.sub_self]; rfl)
  refine ⟨_, k1, .inl ⟨rfl, _, .inl (.inl k2)⟩, a, us, v, rfl, rfl, k2, by rw [hl]; exact hv, ?_⟩
  have dd : Das F ds us.dropLast := by
    have key : ∀ (ds : List PyData) (us : List V), Das F (ds ++ [d]) us → Das F ds us.dropLast := by
      intro ds
      induction ds with
      | nil =>
        intro us h
        obtain ⟨y, ys, rfl, _, h2⟩ := h.inv_cons
        rw [h2.inv_nil]
        exact .nil
      | cons d0 ds ih =>
        intro us h
        obtain ⟨y, ys, rfl, h1, h2⟩ := h.inv_cons
        have hne : ys ≠ [] := by
          intro z
          rw [z] at h2
          have := h2.len
          have h3 : (ds.append [d]).length = (ds ++ [d]).length := rfl
          rw [h3, List.length_append] at this
          simp at this
        rw [List.dropLast_cons_of_ne_nil hne]
        exact Das.cons h1 (ih ys h2)
    exact key ds us k5
  have o1 := o.chg (vs := us) ho k1 k3 k4 dd
  exact e.nx _ _ F _ hn (o1.setD m dv)
/-- the first a new list of one's own -/
theorem run_parLD (hm : n < ρ.length) (hnm : n ≠ m) (h : EvL A ta ρ ds) (h' : EvD A tb ρ y) (hn : C.nx ((ρ.set n (.own ds)).set m (.dat y))) : Run A (tPar n m (tCons ta (tCons tb tNil))) ρ C := fun G F0 H0 σ F H D o e =>
  h σ F H o.en o.pre _ fun a vs es F1 H1 hd po f1 h0 ha dv => by
    subst hd
    have o1 := o.step po
    have h00 : H0 a = none := none_back o.pre0.am o.post.le o.post.am h0
    have o2 := o1.setN n hm ha f1 h00 dv (fun j es nj hj z => by
      obtain ⟨b, us, k1, k2, _⟩ := o.ow j es hj
      rw [k1] at z
      cases z
      rw [h0] at k2
      cases k2)
    refine h' σ F1 H1 o1.en o1.pre _ fun w z F2 H2 hz po2 dw => ?_
    subst hz
    have o3 := o2.step po2
    exact ⟨.ref a, w, rfl, e.nx _ _ F2 H2 hn (o3.setD m dw)⟩
/-- i, j, k = x, y, [] by a tuple -/
theorem run_asg3L (hk : k < ρ.length) (ha : EvD A ta ρ x) (hb : EvD A tb ρ y) (hn : C.nx (((ρ.set i (.dat x)).set j (.dat y)).set k (.own []))) :
    Run A (tAsg (tTup (tCons ta (tCons tb (tCons (tLst tNil) tNil)))) (gTup K 3 (gCons (gName i) (gCons (gName j) (gCons (gName k) gNil))))) ρ C := fun G F0 H0 σ F H D o e =>
  ha σ F H o.en o.pre _ fun v z F1 H1 hz po1 dv => hb σ F1 H1 (o.step po1).en (o.step po1).pre _ fun w z' F2 H2 hz' po2 dw => by
    subst hz hz'
    have o2 := (o.step po1).step po2
    refine ⟨Nat.zero_le _, fun l hl => ⟨by show 3 ≤ sizeLine; decide, fun q hq => ?_⟩⟩
    have o3 := o2.step (Post.new0 (o := .lst []) o2.pre hl)
    have o4 := o3.step (Post.new0 (o := .tup [v, w, .ref l]) o3.pre hq)
    have hlq : l ≠ q := fun z => by
      rw [← z, upd_same] at hq
      cases hq
    refine ⟨q, _, rfl, SqT.of upd_same, rfl, v, _, rfl, w, _, rfl, .ref l, _, rfl, rfl, ?_⟩
    have o5 := (o4.setD i (Da.mono po2.ff _ _ dv)).setD j dw
    have h00 : H0 l = none := none_back o2.pre0.am o2.post.le o2.post.am hl
    refine e.nx _ _ F2 _ hn (o5.setN k (by rw [List.length_set, List.length_set]; exact hk) (by rw [upd_ne hlq]; exact upd_same) (pre_none o2.pre hl) h00 .nil fun r es nr hr z => ?_)
    obtain ⟨hr, n2⟩ := own_set (fun _ h => Ab.noConfusion h) hr
    obtain ⟨hr, n1⟩ := own_set (fun _ h => Ab.noConfusion h) hr
    rw [List.getElem?_set_ne (fun z => n2 z.symm), List.getElem?_set_ne (fun z => n1 z.symm)] at z
    obtain ⟨b, us, k1, k2, _⟩ := o2.ow r es hr
    rw [k1] at z
    cases z
    rw [hl] at k2
    cases k2
end
end Pu

/-! dict of a list of pairs whose keys are tuples; what it holds; slices stored. -/
namespace Pu
open PySem PySem.Spec PyProof.Rows L2
/-- dict(ps), ps a list of pairs, their firsts tuples of ints and texts, all unlike -/
def rDictT (K : PySem.W.Frag) : List V → Hp → VK → Prop := fun xs H Q => ∃ (a : Addr) (ts : List (Addr × Addr × (List Key × V))), xs = [.ref a] ∧ SqL K H a (ts.map fun t => V.ref t.1) ∧
  (∀ t ∈ ts, H t.1 = some (.tup [.ref t.2.1, t.2.2.2]) ∧ H t.2.1 = some (.tup (t.2.2.1.map kV))) ∧ (ts.map fun t => t.2.2.1).Nodup ∧ ts.length ≤ 1000 ∧ ∀ p, H p = none → Q (.ref p) (upd H p (.dT (ts.map fun t => t.2.2)))
theorem refs_of : ∀ {ps : List Addr} {us : List Value}, Vals (ps.map V.ref) us → us = ps.map Value.ref
  | [], us, r => by cases r; rfl
  | p :: ps, us, r => by
    rw [List.map_cons] at r
    cases r with
    | cons h t => rw [List.map_cons, ← refs_of t, show _ = Value.ref p from h]
theorem stored_all {κ : Type} [DecidableEq κ] : ∀ (ps xs : List (κ × Addr × Value)), ((xs ++ ps).map (·.1)).Nodup → storedAllH xs ps = xs ++ ps
  | [], xs, _ => by rw [List.append_nil]; rfl
  | p :: ps, xs, hn => by
    have hne : atKey xs p.1 = none := by
      unfold atKey
      rw [Option.map_eq_none_iff, List.find?_eq_none]
      intro x hx hc
      have e : x.1 = p.1 := of_decide_eq_true hc
      rw [List.map_append, List.nodup_append] at hn
      exact hn.2.2 x.1 (List.mem_map_of_mem hx) p.1 List.mem_cons_self e
    show storedAllH (storedH xs p.1 p.2.1 p.2.2) ps = _
    rw [storedH_new hne]
    have e : xs ++ p :: ps = (xs ++ [p]) ++ ps := by rw [List.append_assoc]; rfl
    rw [e] at hn ⊢
    exact stored_all ps _ hn
theorem pairs_tab {X : Cx} {pins : List (Addr × Obj)} {σ : L2.St} {H : Hp} {s : Shared} (I : Inv X pins σ H s) : ∀ (ts : List (Addr × Addr × (List Key × V))), (∀ t ∈ ts, H t.1 = some (.tup [.ref t.2.1, t.2.2.2]) ∧ H t.2.1 = some (.tup (t.2.2.1.map kV))) →
    ∃ ps : List (List Key × Addr × Value), KT H (ts.map fun t => t.2.2) ps ∧ ps.map (·.1) = ts.map (fun t => t.2.2.1) ∧ ∀ (j : Nat) (t : Addr × Addr × (List Key × V)) (q : List Key × Addr × Value), ts[j]? = some t → ps[j]? = some q → PairAt s.heap t.1 (.ref q.2.1) q.2.2
  | [], _ => ⟨[], .nil, rfl, fun j t q e _ => by simp at e⟩
  | t :: ts, h => by
    obtain ⟨ps, r, e, hp⟩ := pairs_tab I ts fun u hu => h u (List.mem_cons_of_mem _ hu)
    obtain ⟨h1, h2⟩ := h t List.mem_cons_self
    obtain ⟨_, its, rv, o, ho, hc, n, hd⟩ := I.hok _ _ h1
    obtain ⟨u, y, ei, ru, ry⟩ := vals2 rv
    have eu : u = Value.ref t.2.1 := ru
    subst eu
    subst ei
    refine ⟨(t.2.2.1, t.2.1, y) :: ps, .cons ⟨rfl, h2, ry⟩ r, by rw [List.map_cons, List.map_cons, e], fun j u q e1 e2 => ?_⟩
    cases j with
    | zero =>
      cases e1
      cases e2
      exact .inl ⟨o, ho, hc, n, hd⟩
    | succ j => exact hp j u q (by simpa using e1) (by simpa using e2)
theorem kc_dictT {X : Cx} (K : PySem.W.Frag) (hu : X.A.units + 64 < cLine) (hcalm : X.calm = true := by rfl) (hX : X.K = K := by rfl) : CallR X (.type "dict") (rDictT K) := by
  subst hX
  intro pins s σ H xs us Q I r h
  obtain ⟨a, ts, rfl, hq, hts, hnd, hl, q⟩ := h
  obtain ⟨u, rfl, rx⟩ := vals1 r
  have eu : u = Value.ref a := rx
  subst eu
  obtain ⟨its, rv, ⟨o, n, ho, hc, hd, hdat⟩, hz⟩ := I.list hq
  have ei : its = (ts.map fun t => t.1).map Value.ref := refs_of (by rw [List.map_map]; exact rv)
  subst ei
  obtain ⟨ps, rel, ek, hp⟩ := pairs_tab I ts hts
  have pl : ps.length = ts.length := by
    have := congrArg List.length ek
    rwa [List.length_map, List.length_map] at this
  have tgt : ∀ {j : Nat} {q : List Key × Addr × Value}, ps[j]? = some q → ∃ t, ts[j]? = some t := fun {j q} e => by
    have hj := (List.getElem?_eq_some_iff.mp e).1
    exact ⟨ts[j]'(by omega), List.getElem?_eq_getElem (by omega)⟩
  have key : ∀ x ∈ ps, H x.2.1 = some (.tup (x.1.map kV)) := by
    have all : ∀ {l : List (List Key × V)} {m : List (List Key × Addr × Value)}, KT H l m → ∀ x ∈ m, H x.2.1 = some (.tup (x.1.map kV)) := fun {l m} z => by
      induction z with
      | nil => exact fun x hx => nomatch hx
      | cons h _ ih =>
        intro x hx
        rcases List.mem_cons.mp hx with e | hx
        · rw [e, ← h.1]; exact h.2.1
        · exact ih x hx
    exact all rel
  refine call_dict_pairsH (knd := tupleKind (mixKind X.prog X.w)) (ps := ps) (PairArg.list a (ts.map (fun t => Value.ref t.1)).toArray (fun j => ((ts[j]?).map (·.1)).getD 0) (ps.map fun q => (Value.ref q.2.1, q.2.2))) (I.ok.hd hcalm) (show X.A.units + 1 + 1 < cLine by omega) ?_ ?_ ?_ ?_ ?_
  · refine ⟨⟨o, n, ho, hc, hd, by rw [hdat, List.map_map]; rfl⟩, by simp [pl], fun j k v e => ?_⟩
    rw [List.getElem?_map] at e
    cases e2 : ps[j]? with
    | none => rw [e2] at e; cases e
    | some z =>
      rw [e2] at e
      cases e
      obtain ⟨t, et⟩ := tgt e2
      refine ⟨by simp [et], ?_⟩
      show PairAt s.heap (((ts[j]?).map (·.1)).getD 0) (.ref z.2.1) z.2.2
      rw [et]
      exact hp j t z et e2
  · refine ⟨by rw [List.length_map], fun i k v e => ?_⟩
    have e : (ps.map fun q => (Value.ref q.2.1, q.2.2))[i]? = some (k, v) := e
    rw [List.getElem?_map] at e
    cases e2 : ps[i]? with
    | none => rw [e2] at e; cases e
    | some z =>
      rw [e2] at e
      cases e
      exact ⟨z.1, z.2.1, rfl, rfl⟩
  · intro h' hk x hx
    obtain ⟨ob, items, m, h1, h2, h3, h4⟩ := key_of I.hok (key x hx)
    exact ⟨ob, items, m, hk _ _ (Nat.ne_of_lt (Heap.lt_size h1)) (fun z => nomatch z) h1, h2, h3, h4⟩
  · rw [List.length_map, pl]
    exact Nat.le_trans hl (by decide)
  · intro h' tk hd' hk
    rw [stored_all ps [] (by rw [List.nil_append, ek]; exact hnd), List.nil_append] at hd'
    obtain ⟨od, es, ep, d1, d2, d3, d4, d5, d6⟩ := hd'
    have hm : (s.heap.objs.size == sysModules) = false := beq_eq_false_iff_ne.mpr (Nat.ne_of_gt I.big)
    have hk' : ∀ b u, s.heap.get? b = some u → h'.get? b = some u := fun b u e => hk b u (fun z => nomatch z) e
    have fr := I.hok.fresh (Nat.le_refl s.heap.objs.size)
    have rel' : KT (upd H s.heap.objs.size (.dT (ts.map fun t => t.2.2))) (ts.map fun t => t.2.2) ps := by
      have all : ∀ {l : List (List Key × V)} {m : List (List Key × Addr × Value)}, KT H l m → KT (upd H s.heap.objs.size (.dT (ts.map fun t => t.2.2))) l m := fun {l m} z => by
        induction z with
        | nil => exact .nil
        | cons h _ ih => exact .cons ⟨h.1, by rw [upd_ne (ne_of_none h.2.1 fr)]; exact h.2.1, h.2.2⟩ ih
      exact all rel
    refine ⟨.ref s.heap.objs.size, upd H s.heap.objs.size (.dT (ts.map fun t => t.2.2)), I.laid (t' := tk) hk' (Nat.le_refl _) ?_, rfl, q _ fr⟩
    exact ⟨by rw [List.length_map]; exact Nat.le_trans hl (by decide), hm, ps, rel', od, es, ep, d1, d2, d3, d4, d6⟩
/-! ### the same by data -/
def kD : Key → PyData
  | .inl i => .int i
  | .inr x => .str x
theorem keyD_eq (ks : List Key) : keyD ks = .tuple (ks.map kD) := by
  unfold keyD
  congr 2
theorem kD_inj {j k : Key} (h : kD j = kD k) : j = k := by
  cases j <;> cases k <;> simp only [kD] at h <;> cases h <;> rfl
theorem keyD_inj {js ks : List Key} (h : keyD js = keyD ks) : js = ks := by
  rw [keyD_eq, keyD_eq] at h
  replace h := PyData.tuple.inj h
  induction js generalizing ks with
  | nil => cases ks with
    | nil => rfl
    | cons a b => cases h
  | cons j js ih => cases ks with
    | nil => cases h
    | cons k ks =>
      rw [List.map_cons, List.map_cons] at h
      have h1 := kD_inj (List.cons.inj h).1
      rw [h1, ih (List.cons.inj h).2]
theorem da_kD {F : Hp} {k : Key} {v : V} (h : Da F (kD k) v) : v = kV k := by
  cases k with
  | inl i => exact da_int.mp h
  | inr x => exact da_str.mp h
theorem das_kD {F : Hp} : ∀ {ks : List Key} {vs : List V}, Das F (ks.map kD) vs → vs = ks.map kV
  | [], vs, h => h.inv_nil
  | k :: ks, vs, h => by
    obtain ⟨y, ys, rfl, h1, h2⟩ := h.inv_cons
    rw [da_kD h1, das_kD h2]
    rfl
theorem da_keyD {F : Hp} {ks : List Key} {v : V} (h : Da F (keyD ks) v) : ∃ b, v = .ref b ∧ F b = some (.tup (ks.map kV)) := by
  rw [keyD_eq] at h
  obtain ⟨b, xs, rfl, hb, hx⟩ := da_tup.mp h
  exact ⟨b, rfl, by rw [hb, das_kD hx]⟩
theorem fl_da {F : Hp} {d : PyData} {v w : V} (e : flV d = some w) (h : Da F d v) : v = w := by
  cases d with
  | none => rw [da_none.mp h]; exact Option.some.inj e
  | bool b => rw [da_bool.mp h]; exact Option.some.inj e
  | int i => rw [da_int.mp h]; exact Option.some.inj e
  | str x => rw [da_str.mp h]; exact Option.some.inj e
  | list _ => cases e
  | tuple _ => cases e
  | dict _ => cases e
theorem da_fl {F : Hp} {d : PyData} {w : V} (e : flV d = some w) : Da F d w := by
  cases d with
  | none => exact da_none.mpr (Option.some.inj e).symm
  | bool b => exact da_bool.mpr (Option.some.inj e).symm
  | int i => exact da_int.mpr (Option.some.inj e).symm
  | str x => exact da_str.mpr (Option.some.inj e).symm
  | list _ => cases e
  | tuple _ => cases e
  | dict _ => cases e
theorem tab_of {F : Hp} : ∀ {ps : List (List Key × PyData)} {xs : List V}, Das F (ps.map fun p => .tuple [keyD p.1, p.2]) xs → (∀ p ∈ ps, (flV p.2).isSome = true) →
    ∃ ts : List (Addr × Addr × (List Key × V)), xs = ts.map (fun t => V.ref t.1) ∧ (∀ t ∈ ts, F t.1 = some (.tup [.ref t.2.1, t.2.2.2]) ∧ F t.2.1 = some (.tup (t.2.2.1.map kV))) ∧ ps.map (fun p => (p.1, flV p.2)) = ts.map (fun t => (t.2.2.1, some t.2.2.2))
  | [], xs, h, _ => ⟨[], h.inv_nil, (fun t ht => nomatch ht), rfl⟩
  | p :: ps, xs, h, hf => by
    obtain ⟨y, ys, rfl, h1, h2⟩ := h.inv_cons
    obtain ⟨a, zs, rfl, ha, hz⟩ := da_tup.mp h1
    obtain ⟨u, us, rfl, hu, hz⟩ := hz.inv_cons
    obtain ⟨w, ws, rfl, hw, hz⟩ := hz.inv_cons
    have hz := hz.inv_nil
    subst hz
    obtain ⟨b, rfl, hb⟩ := da_keyD hu
    obtain ⟨ts, rfl, e2, e3⟩ := tab_of h2 fun q hq => hf q (List.mem_cons_of_mem _ hq)
    obtain ⟨w', ew⟩ := Option.isSome_iff_exists.mp (hf p List.mem_cons_self)
    have := fl_da ew hw
    subst this
    refine ⟨(a, b, p.1, w) :: ts, rfl, fun t ht => ?_, by rw [List.map_cons, List.map_cons, e3, ew]⟩
    rcases List.mem_cons.mp ht with rfl | ht
    · exact ⟨ha, hb⟩
    · exact e2 t ht
section
variable {A : Am} {ρ : List Ab} {te td ty : TE} {K : PySem.W.Frag}
/-- dict(ps) -/
theorem ev_dictT {ps : List (List Key × PyData)} (h : EvD A te ρ (.list (ps.map fun p => .tuple [keyD p.1, p.2]))) (hn : (ps.map (·.1)).Nodup) (hf : ∀ p ∈ ps, (flV p.2).isSome = true) (h0 : ps ≠ []) (hl : ps.length ≤ 1000) :
    EvD A (tCB (rDictT K) (tCons te tNil)) ρ (.dict (ps.map fun p => (keyD p.1, p.2))) := fun σ F H e p Q c => (ea_cons h ea_nil) σ F H e p _ fun vs bs F1 H1 hb po hv => by
  subst hb
  obtain ⟨v, ev, hv1⟩ := vas1 hv
  subst ev
  obtain ⟨a, xs, rfl, ha, hx⟩ := da_list.mp hv1
  have p1 := p.next po
  obtain ⟨ts, rfl, e2, e3⟩ := tab_of hx hf
  have ek : ts.map (fun t => t.2.2.1) = ps.map (·.1) := by
    have := congrArg (List.map Prod.fst) e3
    rw [List.map_map, List.map_map] at this
    exact this.symm
  have el : ts.length = ps.length := by
    have := congrArg List.length ek
    rwa [List.length_map, List.length_map] at this
  refine ⟨a, ts, rfl, SqL.of (p1.fh _ _ ha), fun t ht => ⟨p1.fh _ _ (e2 t ht).1, p1.fh _ _ (e2 t ht).2⟩, by rw [ek]; exact hn, by omega, fun q hq => c (.ref q) _ _ _ rfl (po.trans p.am (Post.new p1 hq)) ?_⟩
  simp only [Da]
  refine ⟨q, rfl, .inr (.inl ⟨fun z => h0 (List.map_eq_nil_iff.mp z), _, ?_, upd_same⟩)⟩
  unfold TabD
  rw [List.map_map, List.map_map]
  have := congrArg (List.map fun z : List Key × Option V => (keyD z.1, z.2)) e3
  rw [List.map_map, List.map_map] at this
  exact this
/-- the first entry with a key -/
def GetD (kvs : List (PyData × PyData)) (ks : List Key) (d : PyData) : Prop := ∃ pre post, kvs = pre ++ (keyD ks, d) :: post ∧ ∀ q ∈ pre, q.1 ≠ keyD ks
theorem tab_get {ks : List Key} {d : PyData} {post : List (PyData × PyData)} : ∀ {pre : List (PyData × PyData)} {xs : List (List Key × V)}, TabD (pre ++ (keyD ks, d) :: post) xs → (∀ q ∈ pre, q.1 ≠ keyD ks) → ∃ w, valV xs ks = some w ∧ flV d = some w
  | [], xs, h, _ => by
    cases xs with
    | nil => cases h
    | cons x xs =>
      unfold TabD at h
      rw [List.nil_append, List.map_cons, List.map_cons] at h
      have h1 := (List.cons.inj h).1
      have h2 := keyD_inj (Prod.mk.inj h1).1
      exact ⟨x.2, valV_pos h2.symm, (Prod.mk.inj h1).2⟩
  | q :: pre, xs, h, hn => by
    cases xs with
    | nil => cases h
    | cons x xs =>
      unfold TabD at h
      rw [List.cons_append, List.map_cons, List.map_cons] at h
      have h1 := (List.cons.inj h).1
      have hne : ¬ x.1 = ks := fun z => hn q List.mem_cons_self (by rw [(Prod.mk.inj h1).1, z])
      obtain ⟨w, e1, e2⟩ := tab_get (List.cons.inj h).2 fun r hr => hn r (List.mem_cons_of_mem _ hr)
      exact ⟨w, by rw [valV_neg hne]; exact e1, e2⟩
theorem daT_get {F : Hp} {ks : List Key} {d : PyData} {post : List (PyData × PyData)} : ∀ {pre : List (PyData × PyData)} {xs : List (List Key × V)}, DaT F (pre ++ (keyD ks, d) :: post) xs → (∀ q ∈ pre, q.1 ≠ keyD ks) → ∃ w, valV xs ks = some w ∧ Da F d w
  | [], xs, h, _ => by
    simp only [List.nil_append, DaT] at h
    obtain ⟨k, y, ys, rfl, e, hd, _⟩ := h
    exact ⟨y, valV_pos (keyD_inj e).symm, hd⟩
  | q :: pre, xs, h, hn => by
    obtain ⟨q1, q2⟩ := q
    simp only [List.cons_append, DaT] at h
    obtain ⟨k, y, ys, rfl, e, _, ht⟩ := h
    have hne : ¬ k = ks := fun z => hn _ List.mem_cons_self (by rw [← z]; exact e)
    obtain ⟨w, e1, e2⟩ := daT_get ht fun r hr => hn r (List.mem_cons_of_mem _ hr)
    exact ⟨w, by rw [valV_neg hne]; exact e1, e2⟩
theorem daK_no {F : Hp} {ks : List Key} {d : PyData} {post : List (PyData × PyData)} : ∀ {pre : List (PyData × PyData)} {xs : List (Key × V)}, ¬ DaK F (pre ++ (keyD ks, d) :: post) xs
  | [], xs, h => by
    simp only [List.nil_append, DaK] at h
    obtain ⟨k, y, ys, rfl, e, _⟩ := h
    unfold keyD at e
    cases k <;> cases e
  | q :: pre, xs, h => by
    obtain ⟨q1, q2⟩ := q
    simp only [List.cons_append, DaK] at h
    obtain ⟨k, y, ys, rfl, e, _, ht⟩ := h
    exact daK_no ht
theorem ev_dgetT {kvs : List (PyData × PyData)} {ks : List Key} {d : PyData} (h : EvD A td ρ (.dict kvs)) (hk : EvD A ty ρ (keyD ks)) (hg : GetD kvs ks d) : EvD A (tDGet td ty) ρ d := fun σ F H e p Q c => h σ F H e p _ fun v z F1 H1 hz po dv => by
  subst hz
  have p1 := p.next po
  refine hk σ F1 H1 (e.mono po.ff) p1 _ fun w y F2 H2 hy po2 dw => ?_
  subst hy
  have p2 := p1.next po2
  simp only [Da] at dv
  obtain ⟨a, rfl, dv⟩ := dv
  obtain ⟨pre, post, rfl, hpre⟩ := hg
  rcases dv with ⟨z, _⟩ | ⟨_, xs, ht, ha⟩ | hm
  · cases pre <;> cases z
  · obtain ⟨b, rfl, hb⟩ := da_keyD dw
    obtain ⟨u, e1, e2⟩ := tab_get ht hpre
    exact ⟨a, u, rfl, e1 ▸ DGet.t (p2.fh _ _ (po2.ff _ _ ha)) (p2.fh _ _ hb), c u d F2 H2 rfl (po.trans p.am po2) (da_fl e2)⟩
  · obtain ⟨b, rfl, hb⟩ := da_keyD dw
    cases pre with
    | nil =>
      simp only [List.nil_append, DaM] at hm
      obtain ⟨e, _⟩ := hm
      unfold keyD at e
      cases e
    | cons m pre =>
      obtain ⟨m1, m2⟩ := m
      simp only [List.cons_append, DaM] at hm
      obtain ⟨_, ⟨_, xs, ha, ht⟩ | ⟨_, xs, ha, ht⟩⟩ := hm
      · obtain ⟨u, e1, e2⟩ := daT_get ht fun r hr => hpre r (List.mem_cons_of_mem _ hr)
        exact ⟨a, u, rfl, e1 ▸ DGet.t (p2.fh _ _ (po2.ff _ _ ha)) (p2.fh _ _ hb), c u d F2 H2 rfl (po.trans p.am po2) (Da.mono po2.ff _ _ e2)⟩
      · exact absurd ht daK_no
end
end Pu

/-! xs[i:j] = ys, ys a list or a tuple; comprehensions of two clauses. -/
namespace Pu
open PySem PySem.Spec PyProof.Rows L2
section
variable {prog : Program} {w : World} {A : Around} {E : Value → Shared → Prop} {s : Shared}
theorem cut_store {x y z : Addr} {old new : Array Value} {k m : Nat} {ob : Obj} {T : String} {ul uh : Value} {i j : Nat} {Q : Unit → Shared → Prop} (gx : s.heap.get? x = some { cls := .type "list", data := .seq old k })
    (hT : T = "list" ∨ T = "tuple") (ty : s.TypeIs (.ref y) T) (gy : s.heap.get? y = some ob) (dy : ob.data = .seq new m) (dif : x ≠ y) (hz : s.heap.IsSliceOf z ul uh .none) (p1 : IsPart ul (some (i : Int))) (p2 : IsPart uh (some (j : Int)))
    (hij : i ≤ j) (hj : j ≤ old.size) (room : old.size + new.size ≤ sizeLine) (q : Q () { s with heap := s.heap.update x (Obj.mapSeq fun v => v.extract 0 i ++ new ++ v.extract j v.size) }) : wpAny (model prog w) A (setItem (.ref x) (.ref z) (.ref y)) Q E s := by
  have lx : s.heap.IsList x old := PySem.IsL.isList gx
  obtain ⟨oz, gz, cz, dz⟩ := id hz
  have tz : s.TypeIs (.ref z) "slice" := ⟨oz, gz, cz⟩
  have no0 : ¬ ((rawPart none == rawInt 0) = true) := Bool.false_ne_true
  have apart : Builtin.List.listSameRef (.ref x) (.ref y) = false := by unfold Builtin.List.listSameRef; exact beq_eq_false_iff_ne.mpr dif
  have top : (max (i : Int) (j : Int)).toNat = j := by omega
  have fits : ((fun v : Array Value => v.extract 0 i ++ new ++ v.extract j v.size) old).size ≤ sizeLine + 1 := by simp only [Array.size_append, Array.size_extract]; omega
  unfold setItem
  try (with_reducible refine wpAny_holding ?_)
  first | refine wpAny_bind (wpAny_pure ?_) | skip
  refine wpAny_bind (wpAny_sequenceKey lx.typeIs (by decide) ?_)
  refine wpAny_bind (wpAny_callSpecial?_slot (name := Str.ofString "__setitem__") lx.typeIs slot_list_setitem (wpAny_call_entry slot_list_setitem lx.typeIs entry_list_setitem ?_ (args_list_setitem _ _ _)))
  show wpAny _ _ (Builtin.List.listSubscript? (.ref z) >>= _) _ _ s
  refine wpAny_bind ?_; unfold Builtin.List.listSubscript?
  refine wpAny_bind (wpAny_specialOf tz slice_no_index ?_); simp only [Option.isNone_none, if_true]
  refine wpAny_pure ?_; show wpAny _ _ (typeOf (.ref z) >>= _) _ _ s
  refine wpAny_bind (wpAny_typeOf tz ?_)
  first | rw [if_neg (by decide)] | refine PySem.W.KFB.if_not (by decide) ?_
  rw [listSliceParts_eq]; refine wpAny_bind (wpAny_bind (wpAny_field gz dz (x := .none) rfl (wpAny_bind (wpAny_listPart .none ?_))))
  rw [if_neg no0]; refine wpAny_bind (wpAny_field gz dz (x := ul) rfl (wpAny_bind (wpAny_listPart p1 ?_)))
  refine wpAny_bind (wpAny_field gz dz (x := uh) rfl (wpAny_bind (wpAny_listPart p2 (wpAny_pure ?_))))
  first | simp only [apart, Bool.false_eq_true, if_false] | refine PySem.W.KFB.if_not apart ?_ | (dsimp only; rw [if_neg (by rw [apart]; exact Bool.false_ne_true)])
  refine wpAny_bind (m := Builtin.List.listAllItems (.ref y) "must assign iterable to extended slice") ?_
  unfold Builtin.List.listAllItems; refine wpAny_bind (wpAny_typeOf ty ?_)
  have isq : (Value.type T == Value.type "list" || Value.type T == Value.type "tuple") = true := by rcases hT with rfl | rfl <;> decide
  first | refine PySem.W.KFB.if_so isq ?_ | rw [if_pos isq]
  unfold Builtin.List.listItems
  refine wpAny_bind (wpAny_seqItems gy dy (wpAny_pure ?_)); refine wpAny_bind (wpAny_bind (wpAny_seqItems gx rfl (wpAny_pure ?_)))
  refine wpAny_bind (wpAny_of_eq ((sliceIndices_raw (some (i : Int)) (some (j : Int)) none old.size (by simp)).trans (congrArg (pure : Int × Int × Int → Sem (Int × Int × Int)) (bounds_run hij hj))) ?_)
  show wpAny _ _ (if ((1 : Int) == 1) = true then _ else _) _ _ s; rw [if_pos (by decide)]; refine wpAny_bind (wpAny_rule ?_)
  first | simp only [notLongL room, Bool.false_eq_true, if_false] | refine PySem.W.KFB.if_not (notLongL room) ?_
  first | refine wpAny_bind (wpAny_pure ?_) | skip
  show wpAny _ _ (updateSeq x (fun v => v.extract 0 ((i : Int)).toNat ++ new ++ v.extract (max (i : Int) (j : Int)).toNat v.size) >>= _) _ _ s
  rw [top, Int.toNat_natCast]; refine wpAny_bind (wpAny_updateSeq (hz := Nat.le_trans (Nat.le_add_right _ _) room) (_hz' := fits) gx rfl ?_)
  refine wpAny_bind (wpAny_letGo ?_)
  first | exact wpAny_bind (wpAny_pure (wpAny_pure ⟨.none, rfl, wpAny_pure q⟩)) | exact wpAny_pure ⟨.none, rfl, wpAny_pure q⟩
end
/-- xs[i:j] = ys -/
def rCutS (K : PySem.W.Frag) : V → Option Int → Option Int → V → Hp → (Hp → Prop) → Prop := fun o lo hi v H Q => ∃ (l b : Addr) (xs ys : List V) (i j : Int), o = .ref l ∧ H l = some (.lst xs) ∧ v = .ref b ∧ ((H b = some (.lst ys) ∧ l ≠ b) ∨ H b = some (.tup ys)) ∧ lo = some i ∧ hi = some j ∧
  0 ≤ i ∧ i ≤ j ∧ j ≤ xs.length ∧ xs.length + ys.length ≤ 1000000 ∧ Q (upd H l (.lst (xs.take i.toNat ++ ys ++ xs.drop j.toNat)))
def gCut (to : TE) (tl th : TO) (r : V → Option Int → Option Int → V → Hp → (Hp → Prop) → Prop) : TG := fun v σ H Q => to σ H fun o H1 => tl σ H1 fun lo H2 => th σ H2 fun hi H3 => r o lo hi v H3 fun H4 => Q σ H4
theorem pg_cut {X : Cx} {o : Expr} {lo hi : Option Expr} {to : TE} {tl th : TO} {p2 pos : Pos} (K : PySem.W.Frag) (ho : PE X o to) (hl : PO X lo tl) (hh : PO X hi th) (ha : ∀ v, assign (.Subscript o (.Slice lo hi none p2) pos) X.env v = (do
      let ov ← holding [v] (eval o X.env); let iv ← holding [v, ov] (eval (.Slice lo hi none p2) X.env); standAt pos; holding [v, ov, iv] (setItem ov iv v); release [iv, v, ov] []) := by intro _; rfl) (hX : X.K = K := by rfl) :
    PG X (.Subscript o (.Slice lo hi none p2) pos) (gCut to tl th (rCutS K)) := by
  subst hX
  refine ⟨fun pins s σ H v u Q I r h => ?_⟩
  rw [ha]
  refine wpAny_bind (wpAny_holding (thn (ho.run pins s σ H _ I h) fun ov s1 ⟨x, H1, I1, r1, q1⟩ => wpAny_bind (wpAny_holding (wpAny_Slice (thn (hl.run pins s1 σ H1 _ I1 q1) fun vl s2 ⟨l, H2, I2, pl, q2⟩ => thn (hh.run pins s2 σ H2 _ I2 q2) fun vu s3 ⟨g, H3, I3, pu, q3⟩ => ?_)))))
  rw [evalPart_none]
  refine wpAny_pure (wpAny_bind (wpAny_standAt (wpAny_bind (wpAny_holding ?_))))
  obtain ⟨a, b, xs, ys, i, j, rfl, hx, rfl, hy, rfl, rfl, i0, ij, jl, room, q4⟩ := q3
  obtain rfl : ov = Value.ref a := r1
  obtain rfl : u = Value.ref b := r
  obtain ⟨i', rfl⟩ := Int.eq_ofNat_of_zero_le i0
  obtain ⟨j', rfl⟩ := Int.eq_ofNat_of_zero_le (Int.le_trans i0 ij)
  simp only [Int.toNat_natCast] at q4
  have I4 : Inv X pins σ H3 { s3 with heap := s3.heap.push { cls := .type "slice", data := .fields #[vl, vu, .none] } } := I3.kept (t' := s3.toks) fun b ob q => Heap.get?_push_of_some _ q
  obtain ⟨_, its, n, rx, _, gx⟩ := I4.lstM hx
  obtain ⟨ob, its2, m, T, hT, ry, gy, dy, cy, dif⟩ : ∃ (ob : Obj) (its2 : List Value) (m : Nat) (T : String), (T = "list" ∨ T = "tuple") ∧ Vals ys its2 ∧ (s3.heap.push { cls := .type "slice", data := .fields #[vl, vu, .none] }).get? b = some ob ∧ ob.data = .seq its2.toArray m ∧ ob.cls = .type T ∧ a ≠ b := by
    rcases hy with ⟨hy, dif⟩ | hy
    · obtain ⟨_, its2, m, r2, _, g2⟩ := I4.lstM hy
      exact ⟨_, its2, m, "list", .inl rfl, r2, g2, rfl, rfl, dif⟩
    · obtain ⟨_, its2, r2, ob, g2, c2, m, d2⟩ := I4.hok _ _ hy
      exact ⟨ob, its2, m, "tuple", .inr rfl, r2, g2, d2, c2, fun z => by rw [z, hy] at hx; cases hx⟩
  have l1 := rx.length
  have l2 := ry.length
  refine cut_store (i := i') (j := j') gx hT ⟨ob, gy, cy⟩ gy dy dif (Heap.IsSliceOf.new ..) pl pu (by omega) (by rw [List.size_toArray]; omega) (by rw [List.size_toArray, List.size_toArray]; exact Nat.le_trans (by omega : _ ≤ 1000000) (by decide)) ?_
  refine wpAny_release ⟨σ, _, ?_, q4⟩
  refine I4.lset (its' := its.take i' ++ its2 ++ its.drop j') (t' := s3.toks) hx gx ?_ (Vals.append (Vals.append (rx.take _) ry) (rx.drop _)) ?_
  · exact splice_eq its its2 i' j'
  · rw [List.length_append, List.length_append, List.length_take, List.length_drop]
    exact Nat.le_trans (by omega : _ ≤ 1000000) (by decide)
section
variable {A : Am} {ρ : List Ab} {C : Ct} {te ti tj : TE} {ds es : List PyData} {d : PyData} {n : Nat} {K : PySem.W.Frag}
/-- xs[i:j] = e, xs one's own -/
theorem run_cutS {i j : Int} (ho : ρ[n]? = some (.own ds)) (h : EvD A te ρ d) (hd : d = .list es ∨ d = .tuple es) (hi : EvD A ti ρ (.int i)) (hj : EvD A tj ρ (.int j)) (h0 : 0 ≤ i) (hij : i ≤ j) (hl : j ≤ ds.length) (hz : ds.length + es.length ≤ 1000000)
    (hn : C.nx (ρ.set n (.own (ds.take i.toNat ++ es ++ ds.drop j.toNat)))) : Run A (tAsg te (gCut (tVar n) (tPart ti) (tPart tj) (rCutS K))) ρ C := fun G F0 H0 σ F H D o e => h σ F H o.en o.pre _ fun v z F1 H1 hz1 po dv => by
  subst hz1
  have o1 := o.step po
  obtain ⟨a, vs, k1, _, _, _, _⟩ := o1.ow n ds ho
  refine ⟨_, k1, hi σ F1 H1 o1.en o1.pre _ fun w y F2 H2 hy po2 dw => ?_⟩
  subst hy
  have o2 := o1.step po2
  refine ⟨i, da_int.mp dw, hj σ F2 H2 o2.en o2.pre _ fun w2 y2 F3 H3 hy2 po3 dw2 => ?_⟩
  subst hy2
  have o3 := o2.step po3
  refine ⟨j, da_int.mp dw2, ?_⟩
  obtain ⟨a', vs', q1, q2, q3, q4, q5⟩ := o3.ow n ds ho
  rw [k1] at q1
  cases q1
  have dz : Da F3 z v := Da.mono (fun a o h => po3.ff _ _ (po2.ff _ _ h)) _ _ dv
  have fin : ∀ (b : Addr) (ys : List V), v = .ref b → ((F3 b = some (.lst ys)) ∨ F3 b = some (.tup ys)) → Das F3 es ys → rCutS K (.ref a) (some i) (some j) v H3 fun H4 => D.nx σ H4 := fun b ys ev hb hy => by
    have l1 := q5.len
    have l2 := hy.len
    refine ⟨a, b, vs', ys, i, j, rfl, q2, ev, ?_, rfl, rfl, h0, hij, by omega, by omega, e.nx _ σ F3 _ hn (o3.chg (vs := vs') ho k1 q3 q4 ?_)⟩
    · rcases hb with hb | hb
      · exact .inl ⟨o3.pre.fh _ _ hb, fun z => by rw [← z, q3] at hb; cases hb⟩
      · exact .inr (o3.pre.fh _ _ hb)
    · exact ((q5.take _).append hy).append (q5.drop _)
  rcases hd with rfl | rfl
  · obtain ⟨b, ys, ev, hb, hy⟩ := da_list.mp dz
    exact fin b ys ev (.inl hb) hy
  · obtain ⟨b, ys, ev, hb, hy⟩ := da_tup.mp dz
    exact fin b ys ev (.inr hb) hy
/-- [e for a in xs for b in ys if t] -/
theorem el_lc2 {α β : Type} {wi wi1 : TI} {g g1 : TG} {tt1 : TT} {vs vs1 : List Nat} {as : List α} {bs : α → List β} {en : α → PyData} {em : α → β → PyData} {l : α → List (Nat × PyData)} {l1 : α → β → List (Nat × PyData)} {p : α → β → Bool} {f : α → β → PyData}
    (hi : EvI A wi ρ (fun w => w = as.map en)) (hg : ∀ a ∈ as, TgP g (en a) (l a)) (hl : ∀ a ∈ as, ((l a).all fun q => decide (q.1 ∈ vs)) = true)
    (hi1 : ∀ a ∈ as, EvI A wi1 (setA (wipeA ρ vs) (l a)) (fun w => w = (bs a).map (em a))) (hg1 : ∀ a ∈ as, ∀ b ∈ bs a, TgP g1 (em a b) (l1 a b)) (hl1 : ∀ a ∈ as, ∀ b ∈ bs a, ((l1 a b).all fun q => decide (q.1 ∈ vs1)) = true)
    (ht : ∀ a ∈ as, ∀ b ∈ bs a, EvT A tt1 (setA (wipeA (setA (wipeA ρ vs) (l a)) vs1) (l1 a b)) (p a b)) (hv : ∀ a ∈ as, ∀ b ∈ bs a, p a b = true → EvD A te (setA (wipeA (setA (wipeA ρ vs) (l a)) vs1) (l1 a b)) (f a b))
    (hz : as.length ≤ 1000) (hz1 : ∀ a ∈ as, (bs a).length ≤ 1000) : EvL A (tLc2 wi g tYes wi1 g1 tt1 te vs vs1) ρ (as.flatMap fun a => ((bs a).filter (p a)).map (f a)) := fun σ F H e pr Q c => hi σ F H e pr _ fun J dsA F1 H1 hN po1 it => by
  subst hN
  intro D hD
  have p1 := pr.next po1
  have outl : ∀ l : List α, (∀ a ∈ l, a ∈ as) → (l.flatMap fun a => ((bs a).filter (p a)).map (f a)).length ≤ l.length * 1000 := fun l => by
    induction l with
    | nil => intro _; exact Nat.zero_le _
    | cons a l ih =>
      intro h
      rw [List.flatMap_cons, List.length_append, List.length_map, List.length_cons]
      have h1 := ih fun b hb => h b (List.mem_cons_of_mem _ hb)
      have h2 := Nat.le_trans (List.length_filter_le (p a) (bs a)) (hz1 a (h a List.mem_cons_self))
      omega
  have fD : F1 D = none := by
    cases q : F1 D with
    | none => rfl
    | some o => rw [p1.fh _ _ q] at hD; cases hD
  have nD : ¬ A.dom D := fun z => A.tr _ _ p1.am z hD
  have stayD : ∀ {Fa Ha Fb Hb : Hp} {ac : List V}, Pre A Fa Ha → Post A Fa Ha Fb Hb → Ha D = some (.lst ac) → Fa D = none → Hb D = some (.lst ac) ∧ Fb D = none := fun {Fa Ha Fb Hb ac} pa po ha fa => by
    refine ⟨po.le _ _ ha nD, ?_⟩
    cases q : Fb D with
    | none => rfl
    | some o =>
      rcases po.fr _ _ q with z | z
      · rw [fa] at z; cases z
      · rw [ha] at z; cases z
  refine ⟨fun i m H2 => m = as.length - i ∧ i ≤ as.length ∧ ∃ F2 acc, Post A F1 H1 F2 H2 ∧ H2 D = some (.lst acc) ∧ F2 D = none ∧ Das F2 ((as.take i).flatMap fun a => ((bs a).filter (p a)).map (f a)) acc, ⟨as.length, by simp, Nat.zero_le _, F1, [], Post.new0 p1 hD, upd_same, fD, .nil⟩, ?_⟩
  rintro i m H2 ⟨rfl, hi', F2, acc, po2, hacc, f2, hes⟩
  have p2 := p1.next po2
  have hlen0 : (as.map en).length = as.length := List.length_map _
  by_cases hlt : i < as.length
  · refine .inr ⟨it.go i F2 H2 po2.ff po2.fh (by rw [hlen0]; exact hlt), fun H' => i + 1 ≤ as.length ∧ ∃ F2 acc, Post A F1 H1 F2 H' ∧ H' D = some (.lst acc) ∧ F2 D = none ∧ Das F2 ((as.take (i + 1)).flatMap fun a => ((bs a).filter (p a)).map (f a)) acc, fun H' h => ⟨as.length - (i + 1), by omega, rfl, h⟩, fun x H' hy => ?_⟩
    have ha : as[i] ∈ as := List.getElem_mem hlt
    have hdi : (as.map en)[i]? = some (en as[i]) := by rw [List.getElem?_map, List.getElem?_eq_getElem hlt]; rfl
    have tk : as.take (i + 1) = as.take i ++ [as[i]] := by rw [List.take_add_one, List.getElem?_eq_getElem hlt]; rfl
    generalize as[i] = a at ha hdi tk
    obtain ⟨F3, k1, k2, k3, k4, dx⟩ := it.yld i F2 H2 x H' _ po2.ff po2.fh hy hdi
    have po3 : Post A F2 H2 F3 H' := ⟨fun a o h _ => k1 a o h, k2, k3, k4, A.loc _ _ (fun a o _ h => k1 a o h) p2.am⟩
    have p3 := p2.next po3
    obtain ⟨ws, dws, kg⟩ := hg a ha F3 H' x dx po3.fh
    refine kg _ _ ⟨by rw [wipe_sets _ _ _ _ (fun j hj => by obtain ⟨q, hq, rfl⟩ := List.mem_map.mp hj; exact of_decide_eq_true (List.all_eq_true.mp (hl a ha) q hq)), wipe_wipe], ?_⟩
    have e3 : En A F3 (setA (wipeA ρ vs) (l a)) (setV (L2.wipe σ vs) ((l a).map (·.1)) ws) := En.sets ((e.mono (fun a o h => po3.ff _ _ (po2.ff _ _ (po1.ff _ _ h)))).wipe vs) dws
    obtain ⟨h3D, f3D⟩ := stayD p2 po3 hacc f2
    generalize setV (L2.wipe σ vs) ((l a).map (·.1)) ws = σ2 at e3
    refine hi1 a ha _ F3 H' e3 p3 _ fun J1 dsB F4 H4 hN1 po4 it1 => ?_
    subst hN1
    have p4 := p3.next po4
    obtain ⟨h4D, f4D⟩ := stayD p3 po4 h3D f3D
    have po14 : Post A F1 H1 F4 H4 := (po2.trans p1.am po3).trans p1.am po4
    have e4 := e3.mono po4.ff
    have hes4 : Das F4 ((as.take i).flatMap fun a => ((bs a).filter (p a)).map (f a)) acc := hes.mono (fun a o h => po4.ff _ _ (po3.ff _ _ h))
    refine ⟨fun j k H5 => k = (bs a).length - j ∧ j ≤ (bs a).length ∧ ∃ F5 acc, Post A F1 H1 F5 H5 ∧ (∀ b o, F4 b = some o → F5 b = some o) ∧ H5 D = some (.lst acc) ∧ F5 D = none ∧ Das F5 (((as.take i).flatMap fun a => ((bs a).filter (p a)).map (f a)) ++ (((bs a).take j).filter (p a)).map (f a)) acc, ⟨(bs a).length, by simp, Nat.zero_le _, F4, acc, po14, fun _ _ h => h, h4D, f4D, by rw [List.take_zero, List.filter_nil, List.map_nil, List.append_nil]; exact hes4⟩, ?_⟩
    rintro j k H5 ⟨rfl, hj', F5, acc5, po15, ff45, h5D, f5D, hes5⟩
    have p5 := p1.next po15
    by_cases hjl : j < (bs a).length
    · refine .inr ⟨it1.go j F5 H5 ff45 p5.fh (by rw [List.length_map]; exact hjl), fun H' => j + 1 ≤ (bs a).length ∧ ∃ F5 acc, Post A F1 H1 F5 H' ∧ (∀ b o, F4 b = some o → F5 b = some o) ∧ H' D = some (.lst acc) ∧ F5 D = none ∧ Das F5 (((as.take i).flatMap fun a => ((bs a).filter (p a)).map (f a)) ++ (((bs a).take (j + 1)).filter (p a)).map (f a)) acc, fun H' h => ⟨(bs a).length - (j + 1), by omega, rfl, h⟩, fun x1 H6 hy1 => ?_⟩
      have hb : (bs a)[j] ∈ bs a := List.getElem_mem hjl
      have hdj : ((bs a).map (em a))[j]? = some (em a (bs a)[j]) := by rw [List.getElem?_map, List.getElem?_eq_getElem hjl]; rfl
      have tkj : (bs a).take (j + 1) = (bs a).take j ++ [(bs a)[j]] := by rw [List.take_add_one, List.getElem?_eq_getElem hjl]; rfl
      generalize (bs a)[j] = b at hb hdj tkj
      obtain ⟨F6, j1, j2, j3, j4, dx1⟩ := it1.yld j F5 H5 x1 H6 _ ff45 p5.fh hy1 hdj
      have po6 : Post A F5 H5 F6 H6 := ⟨fun a o h _ => j1 a o h, j2, j3, j4, A.loc _ _ (fun a o _ h => j1 a o h) p5.am⟩
      have p6 := p5.next po6
      obtain ⟨ws1, dws1, kg1⟩ := hg1 a ha b hb F6 H6 x1 dx1 po6.fh
      refine kg1 _ _ ⟨by rw [wipe_sets _ _ _ _ (fun j hj => by obtain ⟨q, hq, rfl⟩ := List.mem_map.mp hj; exact of_decide_eq_true (List.all_eq_true.mp (hl1 a ha b hb) q hq)), wipe_wipe], ?_⟩
      have e6 : En A F6 (setA (wipeA (setA (wipeA ρ vs) (l a)) vs1) (l1 a b)) (setV (L2.wipe σ2 vs1) ((l1 a b).map (·.1)) ws1) := En.sets ((e4.mono (fun a o h => po6.ff _ _ (ff45 _ _ h))).wipe vs1) dws1
      obtain ⟨h6D, f6D⟩ := stayD p5 po6 h5D f5D
      refine ht a ha b hb _ F6 H6 e6 p6 _ fun bt F7 H7 hbt po7 => ?_
      subst hbt
      have p7 := p6.next po7
      obtain ⟨h7D, f7D⟩ := stayD p6 po7 h6D f6D
      have po17 : Post A F1 H1 F7 H7 := (po15.trans p1.am po6).trans p1.am po7
      have ff47 : ∀ b o, F4 b = some o → F7 b = some o := fun b o h => po7.ff _ _ (po6.ff _ _ (ff45 _ _ h))
      have hes7 : Das F7 (((as.take i).flatMap fun a => ((bs a).filter (p a)).map (f a)) ++ (((bs a).take j).filter (p a)).map (f a)) acc5 := hes5.mono (fun a o h => po7.ff _ _ (po6.ff _ _ h))
      cases hpb : p a b with
      | false =>
        refine ⟨hjl, F7, acc5, po17, ff47, h7D, f7D, ?_⟩
        rw [tkj, List.filter_append, List.filter_cons, hpb, List.filter_nil]
        simpa using hes7
      | true =>
        refine hv a ha b hb hpb _ F7 H7 (e6.mono po7.ff) p7 _ fun y dy F8 H8 hdy po8 day => ?_
        subst hdy
        obtain ⟨h8D, f8D⟩ := stayD p7 po8 h7D f7D
        have hlen : acc5.length < sizeLine := by
          rw [hes7.len, List.length_append, List.length_map]
          have q1 := outl (as.take i) fun b hb => List.mem_of_mem_take hb
          have q2 := List.length_filter_le (p a) ((bs a).take j)
          have q3 := hz1 a ha
          have q4 : ((bs a).take j).length ≤ (bs a).length := by rw [List.length_take]; omega
          have q5 : (as.take i).length ≤ as.length := by rw [List.length_take]; omega
          exact Nat.lt_of_le_of_lt (by omega : _ ≤ 1001000) (by decide)
        refine ⟨acc5, h8D, hlen, hjl, F8, acc5 ++ [y], ?_, fun b o h => po8.ff _ _ (ff47 b o h), upd_same, f8D, ?_⟩
        · have po18 := po17.trans p1.am po8
          exact ⟨fun a o h n => by rw [upd_ne (ne_of_none h hD)]; exact po18.le a o h n, po18.ff, fun a o h => by
              by_cases ha : a = D
              · subst ha; rw [f8D] at h; cases h
              · rw [upd_ne ha]; exact po18.fh a o h, po18.fr, A.loc H8 _ (fun a o hd ho => by
              by_cases ha : a = D
              · subst ha; exact absurd hd nD
              · rw [upd_ne ha]; exact ho) po18.am⟩
        · rw [tkj, List.filter_append, List.filter_cons, hpb, List.filter_nil, List.map_append, ← List.append_assoc]
          exact (hes7.mono po8.ff).snoc day
    · have ej : j = (bs a).length := by omega
      subst ej
      refine .inl ⟨by have := it1.stop F5 H5 ff45 p5.fh; rwa [List.length_map] at this, hlt, F5, acc5, po15, h5D, f5D, ?_⟩
      rw [List.take_length] at hes5
      rw [tk, List.flatMap_append, List.flatMap_cons, List.flatMap_nil, List.append_nil]
      exact hes5
  · have ei : i = as.length := by omega
    subst ei
    refine .inl ⟨by have := it.stop F2 H2 po2.ff po2.fh; rwa [hlen0] at this, ?_⟩
    rw [List.take_length] at hes
    exact c D acc _ F2 H2 rfl (po1.trans pr.am po2) f2 (none_back pr.am po1.le po1.am hD) hacc hes
end
end Pu

/-! zip of a list and a tuple, in either sequence. -/
namespace Pu
open PySem PySem.Spec PyProof.Rows L2
/-- a list (true), a tuple (false) -/
def SqB : Bool → PySem.W.Frag → Hp → Addr → List V → Prop
  | true => fun K H a xs => SqL K H a xs
  | false => fun K H a xs => SqT K H a xs
def ArB : Bool → Heap → Addr → Array Value → Prop
  | true => fun h a xs => h.IsList a xs
  | false => fun h a xs => h.IsTuple a xs
def IrB : Bool → Heap → Addr → Addr → Nat → Prop
  | true => fun h it a i => h.IsListIter it a i
  | false => fun h it a i => h.IsTupleIter it a i
def oiB : Bool → Addr → Obj
  | true => fun a => { cls := .type "list_iterator", data := .fields #[.ref a, .int 0 0] }
  | false => fun a => { cls := .type "tuple_iterator", data := .fields #[.ref a, .int 0 0] }
theorem IrB.at_ {k : Bool} {h h' : Heap} {it a : Addr} {i : Nat} (x : IrB k h it a i) (e : ∀ o, h.get? it = some o → h'.get? it = some o) : IrB k h' it a i := by
  cases k with
  | true => exact Heap.IsListIter.at x e
  | false => exact Heap.IsTupleIter.at x e
theorem IrB.ob {k : Bool} {h : Heap} {it a : Addr} {i : Nat} (x : IrB k h it a i) : ∃ o vs, h.get? it = some o ∧ o.data = .fields vs := by
  cases k with
  | true => obtain ⟨o, e, _, d⟩ := x; exact ⟨o, _, e, d⟩
  | false => obtain ⟨o, e, _, d⟩ := x; exact ⟨o, _, e, d⟩
theorem IrB.new {k : Bool} {h : Heap} {it a : Addr} (e : h.get? it = some (oiB k a)) : IrB k h it a 0 := by
  cases k with
  | true => exact ⟨_, e, rfl, rfl⟩
  | false => exact ⟨_, e, rfl, rfl⟩
theorem SqB.ar {X : Cx} {pins : List (Addr × Obj)} {σ : L2.St} {H : Hp} {s : Shared} {k : Bool} {a : Addr} {xs : List V} (I : Inv X pins σ H s) (h : SqB k X.K H a xs) : ∃ its : List Value, Vals xs its ∧ ArB k s.heap a its.toArray ∧ a < s.heap.objs.size := by
  cases k with
  | true =>
    obtain ⟨its, rv, p, _⟩ := I.list h
    exact ⟨its, rv, p.isList, p.lt⟩
  | false =>
    obtain ⟨its, rv, p, _⟩ := I.tuple h
    obtain ⟨o, ho, _⟩ := id p
    exact ⟨its, rv, show s.heap.IsTuple a its.toArray from p, Heap.lt_size ho⟩
theorem SqB.inj {X : Cx} {pins : List (Addr × Obj)} {σ : L2.St} {H : Hp} {s : Shared} {k : Bool} {a : Addr} {xs ys : List V} (I : Inv X pins σ H s) (h : SqB k X.K H a xs) (h' : SqB k X.K H a ys) : xs = ys := by
  cases k with
  | true => exact I.list_inj h h'
  | false => exact I.tuple_inj h h'
theorem drawsB {prog : Program} {w : World} {A : Around} (k : Bool) (hh : A.handled = none) (it a : Addr) (hne : a ≠ it) (items : Array Value) : Draws prog w A it [it, a] items.size (fun i v => items[i]? = some v) (fun i h => IrB k h it a i ∧ ArB k h a items) := by
  cases k with
  | true => exact Draws.list hh it a hne items
  | false => exact Draws.tuple hh it a hne items
theorem iterB {prog : Program} {w : World} {A : Around} {E : Value → Shared → Prop} {s : Shared} {k : Bool} {a : Addr} {xs : Array Value} {Q : Value → Shared → Prop} (h : ArB k s.heap a xs) (q : Q (.ref s.heap.objs.size) { s with heap := s.heap.push (oiB k a) }) : wpAny (model prog w) A (pyIter (.ref a)) Q E s := by
  cases k with
  | true => exact wpAny_pyIter_list h q
  | false => exact wpAny_pyIter_tuple h q
theorem ArB.push {k : Bool} {h : Heap} {a : Addr} {xs : Array Value} (x : ArB k h a xs) (o : Obj) : ArB k (h.push o) a xs := by
  cases k with
  | true => exact Heap.IsList.push x o
  | false => exact Heap.IsTuple.push x o
abbrev mH1 (k : Bool) (h : Heap) (a : Addr) : Heap := h.push (oiB k a)
abbrev mH2 (k l : Bool) (h : Heap) (a b : Addr) : Heap := (mH1 k h a).push (oiB l b)
abbrev mH3 (k l : Bool) (h : Heap) (a b : Addr) : Heap := (mH2 k l h a b).push { cls := .type "tuple", data := .seq #[.ref h.objs.size, .ref (mH1 k h a).objs.size] }
abbrev mH4 (k l : Bool) (h : Heap) (a b : Addr) : Heap := (mH3 k l h a b).push { cls := .type "tuple", data := .seq #[.none, .none] }
abbrev mH5 (k l : Bool) (h : Heap) (a b : Addr) : Heap := (mH4 k l h a b).push { cls := .type "zip", data := .fields #[.none, .bool false, .bool false, .ref (mH2 k l h a b).objs.size, .ref (mH3 k l h a b).objs.size] }
theorem meets_zipB (k l : Bool) (a b : Addr) (xs ys : Array Value) : Meets (Builtin.«zip.__new__» ⟨[.type "zip", .ref a, .ref b], []⟩) (fun _ R s => (ArB k s.heap a xs ∧ ArB l s.heap b ys) ∧ R (.ok (.ret (.ref (mH4 k l s.heap a b).objs.size))) { s with heap := mH5 k l s.heap a b }) :=
  .of_wp fun prog w A R ⟨hp, g, d, tk, os⟩ ⟨⟨k1, k2⟩, q⟩ => by
    have sz := sub_zip
    have m1 : ArB k (Shared.heap ⟨hp, g, d, tk, os⟩) a xs := k1
    have m2 : ArB l (Shared.heap ⟨mH1 k hp a, g, d, tk, os⟩) b ys := ArB.push k2 _
    wp_walk using iterB m1, iterB m2
    exact ⟨_, rfl, q⟩
section
variable {prog : Program} {w : World} {A : Around} {E : Value → Shared → Prop} {s : Shared}
theorem call_zipB {k l : Bool} {a b : Addr} {xs ys : Array Value} {Q : Value → Shared → Prop} (k1 : ArB k s.heap a xs) (k2 : ArB l s.heap b ys)
    (q : ∀ g, IsZip g (s.heap.objs.size + 4) (s.heap.objs.size + 2) (s.heap.objs.size + 3) .none → IsTupOf2 g (s.heap.objs.size + 2) (.ref s.heap.objs.size) (.ref (s.heap.objs.size + 1)) → IsTupOf2 g (s.heap.objs.size + 3) .none .none →
      IrB k g s.heap.objs.size a 0 → IrB l g (s.heap.objs.size + 1) b 0 → (∀ c o, s.heap.get? c = some o → g.get? c = some o) → Q (.ref (s.heap.objs.size + 4)) { s with heap := g }) : wpAny (model prog w) A (call (.type "zip") [.ref a, .ref b]) Q E s := by
  have n1 : (mH1 k s.heap a).objs.size = s.heap.objs.size + 1 := by rw [Heap.size_push]
  have n2 : (mH2 k l s.heap a b).objs.size = s.heap.objs.size + 2 := (Heap.size_push ..).trans (congrArg (· + 1) n1)
  have n3 : (mH3 k l s.heap a b).objs.size = s.heap.objs.size + 3 := (Heap.size_push ..).trans (congrArg (· + 1) n2)
  have n4 : (mH4 k l s.heap a b).objs.size = s.heap.objs.size + 4 := (Heap.size_push ..).trans (congrArg (· + 1) n3)
  have up1 : ∀ {c o}, (mH1 k s.heap a).get? c = some o → (mH5 k l s.heap a b).get? c = some o := fun e => Heap.get?_push_of_some _ (Heap.get?_push_of_some _ (Heap.get?_push_of_some _ (Heap.get?_push_of_some _ e)))
  have g5 : (mH5 k l s.heap a b).get? (mH4 k l s.heap a b).objs.size = some _ := Heap.get?_push_size _ rfl
  have g4 : (mH5 k l s.heap a b).get? (mH3 k l s.heap a b).objs.size = some _ := Heap.get?_push_of_some _ (Heap.get?_push_size (mH3 k l s.heap a b) rfl)
  have g3 : (mH5 k l s.heap a b).get? (mH2 k l s.heap a b).objs.size = some _ := Heap.get?_push_of_some _ (Heap.get?_push_of_some _ (Heap.get?_push_size (mH2 k l s.heap a b) rfl))
  have f2 : (oiB l b).isFreed = false := by cases l <;> rfl
  have f1 : (oiB k a).isFreed = false := by cases k <;> rfl
  have g2 : (mH5 k l s.heap a b).get? (mH1 k s.heap a).objs.size = some (oiB l b) := Heap.get?_push_of_some _ (Heap.get?_push_of_some _ (Heap.get?_push_of_some _ (Heap.get?_push_size (mH1 k s.heap a) f2)))
  have g1 : (mH5 k l s.heap a b).get? s.heap.objs.size = some (oiB k a) := up1 (Heap.get?_push_size s.heap f1)
  rw [n2, n3, n4] at g5
  rw [n3] at g4
  rw [n1, n2] at g3
  rw [n1] at g2
  refine callType_new F.called_zip (by decide) (F.typeCall_zip_2 _ _) (F.newCall_zip_2 _ _) (fun o => F.args_object_init_3 o _ _) F.entry_zip_new (meets_zipB k l a b xs ys) ⟨⟨k1, k2⟩, ?_⟩
  show _ ∧ _
  rw [n4]
  exact ⟨⟨_, g5, rfl⟩, q _ g5 g3 g4 (.new g1) (.new g2) fun c o e => up1 (Heap.get?_push_of_some _ e)⟩
end
/-- the sequences at a and b as they stand, the items in new pairs -/
def ItzB (k l : Bool) (K : PySem.W.Frag) (a b : Addr) : It :=
  ⟨fun i H => ∃ (xs ys : List V) (x y : V), SqB k K H a xs ∧ SqB l K H b ys ∧ xs[i]? = some x ∧ ys[i]? = some y,
    fun i H v H' => ∃ T x y, v = .ref T ∧ H T = none ∧ H' = upd H T (.tup [x, y]) ∧ (∀ xs, SqB k K H a xs → xs[i]? = some x) ∧ ∀ ys, SqB l K H b ys → ys[i]? = some y,
    fun i H => ∃ xs ys : List V, SqB k K H a xs ∧ SqB l K H b ys ∧ i ≤ xs.length ∧ i ≤ ys.length ∧ (i = xs.length ∨ i = ys.length)⟩
theorem sepB {z ti tu i1 i2 a b : Addr} (D : ZipApart z ti tu i1 i2 a b) : ZipSep2 z ti tu i1 i2 [i1, a] [i2, b] where
  TIz := D.TIz
  TOz := D.TOz
  TITO := D.TITO
  TIi1 := D.TIi1
  mem1 := by simp
  zf1 := by simp only [List.mem_cons, List.not_mem_nil, or_false, not_or]; exact ⟨Ne.symm D.i1z, Ne.symm D.l1z⟩
  Tf1 := by simp only [List.mem_cons, List.not_mem_nil, or_false, not_or]; exact ⟨D.TOi1, Ne.symm D.l1TO⟩
  TIi2 := D.TIi2
  mem2 := by simp
  zf2 := by simp only [List.mem_cons, List.not_mem_nil, or_false, not_or]; exact ⟨Ne.symm D.i2z, Ne.symm D.l2z⟩
  Tf2 := by simp only [List.mem_cons, List.not_mem_nil, or_false, not_or]; exact ⟨D.TOi2, Ne.symm D.l2TO⟩
  sep1_2 := by simp only [List.mem_cons, List.not_mem_nil, or_false, not_or]; exact ⟨D.i12, Ne.symm D.l2i1⟩
  sep2_1 := by simp only [List.mem_cons, List.not_mem_nil, or_false, not_or]; exact ⟨Ne.symm D.i12, Ne.symm D.l1i2⟩
theorem turn_zipB {P : Program} {w : World} {K : PySem.W.Frag} {k l : Bool} {elts : List Expr} {n : Nat} {tp : Pos} {a b z ti tu i1 i2 : Addr} (D : ZipApart z ti tu i1 i2 a b) :
    Turn P w K (.Tuple elts n tp) (ItzB k l K a b) [z, ti, tu, i1, i2] z (fun i h => IsZip h z ti tu .none ∧ IsTupOf2 h ti (.ref i1) (.ref i2) ∧ (∃ x y, IsTupOf2 h tu x y) ∧ IrB k h i1 a i ∧ IrB l h i2 b i) := by
  refine ⟨List.mem_cons_self, fun i h ⟨hz, hI, ⟨x, y, hO⟩, j1, j2⟩ c hc => ?_, fun i h h' ⟨hz, hI, ⟨x, y, hO⟩, j1, j2⟩ q => ⟨q _ (by simp) _ hz, q _ (by simp) _ hI, ⟨x, y, q _ (by simp) _ hO⟩, j1.at_ fun o e => q _ (by simp) o e, j2.at_ fun o e => q _ (by simp) o e⟩, ?_, ?_, fun A i s Q E st q => wpAny_pyIter_zip st.1 q⟩
  · simp only [List.mem_cons, List.not_mem_nil, or_false] at hc
    obtain ⟨o1, v1, e1, d1⟩ := j1.ob
    obtain ⟨o2, v2, e2, d2⟩ := j2.ob
    rcases hc with e | e | e | e | e <;> subst e
    · exact ⟨_, hz, nofun⟩
    · exact ⟨_, hI, nofun⟩
    · exact ⟨_, hO, nofun⟩
    · exact ⟨o1, e1, fun v e => by rw [d1] at e; cases e⟩
    · exact ⟨o2, e2, fun v e => by rw [d2] at e; cases e⟩
  · intro X hP hw hK cal i pins s σ H E I fp ⟨hz, hI, ⟨x0, y0, hO⟩, j1, j2⟩ ⟨xs, ys, x, y, qx, qy, gx, gy⟩
    subst hP hw hK
    obtain ⟨its, rv, p1, _⟩ := qx.ar I
    obtain ⟨jts, rw', p2, _⟩ := qy.ar I
    obtain ⟨u, hu, ru⟩ := rv.get gx
    obtain ⟨u', hu', ru'⟩ := rw'.get gy
    have zl : z < s.heap.objs.size := Heap.lt_size hz
    have lts : ∀ c, c ∈ [z, ti, tu, i1, i2] → c < s.heap.objs.size := fun c hc => by
      simp only [List.mem_cons, List.not_mem_nil, or_false] at hc
      obtain ⟨_, _, e1, _⟩ := j1.ob
      obtain ⟨_, _, e2, _⟩ := j2.ob
      rcases hc with e | e | e | e | e <;> subst e
      · exact zl
      · exact Heap.lt_size hI
      · exact Heap.lt_size hO
      · exact Heap.lt_size e1
      · exact Heap.lt_size e2
    have hh : X.A.in1.handled = none := I.ok.hd cal
    refine wpAny_pyNext_zipD2_item (sepB D) (drawsB k hh i1 a D.l1i1 its.toArray) (drawsB l hh i2 b D.l2i2 jts.toArray) hz hI hO (i := i) ⟨j1, p1⟩ ⟨j2, p2⟩ (by have := (List.getElem?_eq_some_iff.mp hu).1; simpa using this) (by have := (List.getElem?_eq_some_iff.mp hu').1; simpa using this) fun x1 x2 g tk y1 y2 c1 c2 c3 c4 c5 _ kp => ⟨_, rfl, wpAny_letOwnedTupleGo_zip (s := { s with heap := g, toks := tk }) c1 fun g2 z2 sb => ?_⟩
    have y1 : x1 = u := by
      have y1 : its.toArray[i]? = some x1 := y1
      rw [List.getElem?_toArray, hu] at y1
      exact (Option.some.inj y1).symm
    have y2 : x2 = u' := by
      have y2 : jts.toArray[i]? = some x2 := y2
      rw [List.getElem?_toArray, hu'] at y2
      exact (Option.some.inj y2).symm
    subst y1 y2
    have new : IsTupOf2 g2 s.heap.objs.size x1 x2 := (sb.2 _ (Nat.ne_of_gt zl)).trans c5
    have ok : ObjOk X.prog X.w (upd H s.heap.objs.size (.tup [x, y])) g2 s.heap.objs.size (.tup [x, y]) := ⟨by show 2 ≤ sizeLine; decide, [x1, x2], .cons ru (.cons ru' .nil), ⟨_, new, rfl, _, rfl⟩⟩
    have I2 : Inv X pins σ (upd H s.heap.objs.size (.tup [x, y])) { s with heap := g2, toks := tk } := I.turnedNew (t' := tk) (ch := [z, ti, tu, i1, i2]) (fun c o hc e => by
      simp only [List.mem_cons, List.not_mem_nil, or_false, not_or] at hc
      exact (sb.2 c hc.1).trans (kp c o hc.1 hc.2.2.1 hc.2.2.2.1 hc.2.2.2.2 e)) fp (Nat.le_refl _) ok
    refine ⟨.ref s.heap.objs.size, _, I2, rfl, ⟨_, x, y, rfl, I.hok.fresh (Nat.le_refl _), rfl, fun l h => by rw [h.inj I qx]; exact gx, fun l h => by rw [h.inj I qy]; exact gy⟩, ⟨z2, (sb.2 _ D.TIz).trans (kp _ _ D.TIz D.TITO D.TIi1 D.TIi2 hI), ⟨x1, x2, (sb.2 _ D.TOz).trans c2⟩, c3.1.at_ fun o e => (sb.2 _ D.i1z).trans e, c4.1.at_ fun o e => (sb.2 _ D.i2z).trans e⟩, fun c hc => ?_⟩
    rw [upd_ne (Nat.ne_of_lt (lts c hc))]
    exact (fp c hc).1
  · intro X hP hw hK cal i pins s σ H E I fp ⟨hz, hI, ⟨x0, y0, hO⟩, j1, j2⟩ ⟨xs, ys, qx, qy, ex, ey, eo⟩
    subst hP hw hK
    obtain ⟨its, rv, p1, _⟩ := qx.ar I
    obtain ⟨jts, rw', p2, _⟩ := qy.ar I
    have n1 := rv.length
    have n2 := rw'.length
    have hh : X.A.in1.handled = none := I.ok.hd cal
    refine wpAny_pyNext_zipD2_end (sepB D) (drawsB k hh i1 a D.l1i1 its.toArray) (drawsB l hh i2 b D.l2i2 jts.toArray) hz hI hO (i := i) ⟨j1, p1⟩ ⟨j2, p2⟩ (by rw [List.size_toArray]; omega) (by rw [List.size_toArray]; omega) (by rw [List.size_toArray, List.size_toArray]; omega) fun g tk kp => ⟨rfl, I.turnedL (t' := tk) (ch := [z, ti, tu, i1, i2]) (fun c o hc e => ?_) fp⟩
    simp only [List.mem_cons, List.not_mem_nil, or_false, not_or] at hc
    exact kp c o hc.1 hc.2.2.1 hc.2.2.2.1 hc.2.2.2.2 e
def iZipB (k l : Bool) (K : PySem.W.Frag) (ta : TA) : TI := fun σ H R => ta σ H fun vs H1 => ∃ a b xs ys, vs = [.ref a, .ref b] ∧ SqB k K H1 a xs ∧ SqB l K H1 b ys ∧ R (ItzB k l K a b) H1
theorem pi_zipB {X : Cx} (k l : Bool) (K : PySem.W.Frag) {e e2 : Expr} {ta : TA} {p pos tp : Pos} {elts : List Expr} {n : Nat} (hg : Gl X "zip") (hm : X.mg "zip" = none) (ha : PA X [e, e2] ta) (h1 : starEach [e, e2] X.env = (false, eval e X.env) :: starEach [e2] X.env := by rfl)
    (h2 : (backTo pos (starEach [e2] X.env)).any (·.1) = false := by rfl) (h : X.K = K := by rfl) : PI X (.Tuple elts n tp) (.Call (.Name "zip" p) [e, e2] [] pos) (iZipB k l K ta) := by
  subst h
  refine ⟨fun pins s σ H R I q => Call_ (ld_blt I hg hm PyProof.Rows.boot_zip (PyProof.Rows.callWith_type1 (thn (ha.run pos pins s σ H _ I q) fun us s2 ⟨vs, H2, I2, r1, a, b, xs, ys, ex, qx, qy, q1⟩ => ?_) h1 h2))⟩
  subst ex
  obtain ⟨u, v, rfl, ra, rb⟩ := r1.two
  cases ra
  cases rb
  obtain ⟨its, _, k1, a1⟩ := qx.ar I2
  obtain ⟨jts, _, k2, b1⟩ := qy.ar I2
  refine call_zipB k1 k2 fun g hz hI hO j1 j2 kp => wpAny_pyIter_zip hz ⟨_, [s2.heap.objs.size + 4, s2.heap.objs.size + 2, s2.heap.objs.size + 3, s2.heap.objs.size, s2.heap.objs.size + 1], _, _, H2, rfl, I2.kept (t' := s2.toks) kp, turn_zipB (PySem.W.ktu_apart s2.heap.objs.size a b a1 b1), ⟨hz, hI, ⟨_, _, hO⟩, j1, j2⟩, fun c hc => ?_, q1⟩
  have le : s2.heap.objs.size ≤ c := by
    simp only [List.mem_cons, List.not_mem_nil, or_false] at hc
    rcases hc with e | e | e | e | e <;> rw [e]
    · exact Nat.le_add_right _ 4
    · exact Nat.le_add_right _ 2
    · exact Nat.le_add_right _ 3
    · exact Nat.le_refl _
    · exact Nat.le_add_right _ 1
  exact I2.fpOk le (I2.hok.fresh le)
/-! ### by data -/
def DaB : Bool → List PyData → PyData
  | true => .list
  | false => .tuple
theorem daB {k : Bool} {F : Hp} {ds : List PyData} {v : V} (K : PySem.W.Frag) (h : Da F (DaB k ds) v) : ∃ a xs, v = .ref a ∧ Das F ds xs ∧ ∀ H : Hp, (∀ a o, F a = some o → H a = some o) → SqB k K H a xs := by
  cases k with
  | true =>
    obtain ⟨a, xs, rfl, ha, hx⟩ := da_list.mp h
    exact ⟨a, xs, rfl, hx, fun H q => SqL.of (q _ _ ha)⟩
  | false =>
    obtain ⟨a, xs, rfl, ha, hx⟩ := da_tup.mp h
    exact ⟨a, xs, rfl, hx, fun H q => SqT.of (q _ _ ha)⟩
theorem itd_zipB {K : PySem.W.Frag} {k l : Bool} {F : Hp} {a b : Addr} {xs ys : List V} {ds es : List PyData} (hd : Das F ds xs) (kd : Das F es ys) (ha : ∀ H : Hp, (∀ a o, F a = some o → H a = some o) → SqB k K H a xs) (hb : ∀ H : Hp, (∀ a o, F a = some o → H a = some o) → SqB l K H b ys) :
    ItD (ItzB k l K a b) F (zipD ds es) where
  go := fun i F' H h1 h2 hi => by
    rw [zipD_len] at hi
    exact ⟨xs, ys, xs[i]'(by rw [hd.len]; omega), ys[i]'(by rw [kd.len]; omega), ha H fun a o h => h2 _ _ (h1 _ _ h), hb H fun a o h => h2 _ _ (h1 _ _ h), List.getElem?_eq_getElem _, List.getElem?_eq_getElem _⟩
  yld := fun i F' H x H' d h1 h2 hy hdi => by
    obtain ⟨T, y, z, rfl, nT, rfl, hy, hz⟩ := hy
    obtain ⟨d0, d1, e0, e1, rfl⟩ := zipD_get hdi
    obtain ⟨v, hv, dv⟩ := hd.get e0
    obtain ⟨u, hu, du⟩ := kd.get e1
    have e2 := hy xs (ha H fun a o h => h2 _ _ (h1 _ _ h))
    have e3 := hz ys (hb H fun a o h => h2 _ _ (h1 _ _ h))
    rw [hv] at e2
    rw [hu] at e3
    cases e2
    cases e3
    have fT : F' T = none := by
      cases e : F' T with
      | none => rfl
      | some o => rw [h2 _ _ e] at nT; cases nT
    refine ⟨upd F' T (.tup [y, z]), fun b o e => by rw [upd_ne (ne_of_none e nT)]; exact e, le_upd fT, fun b o e => ?_, fun b o e => ?_, da_tup.mpr ⟨T, _, rfl, upd_same, .cons (Da.mono (fun b o e => le_upd fT b o (h1 _ _ e)) _ _ dv) (.cons (Da.mono (fun b o e => le_upd fT b o (h1 _ _ e)) _ _ du) .nil)⟩⟩
    · by_cases hb : b = T
      · subst hb; rw [upd_same] at e ⊢; exact e
      · rw [upd_ne hb] at e ⊢; exact h2 _ _ e
    · by_cases hb : b = T
      · subst hb; exact .inr nT
      · rw [upd_ne hb] at e; exact .inl e
  stop := fun F' H h1 h2 => ⟨xs, ys, ha H fun a o h => h2 _ _ (h1 _ _ h), hb H fun a o h => h2 _ _ (h1 _ _ h), by rw [hd.len, zipD_len]; omega, by rw [kd.len, zipD_len]; omega, by rw [hd.len, kd.len, zipD_len]; omega⟩
theorem ei_zipB {A : Am} {ρ : List Ab} {ta tb : TE} {ds es : List PyData} {K : PySem.W.Frag} {k l : Bool} (h : EvD A ta ρ (DaB k ds)) (h' : EvD A tb ρ (DaB l es)) : EvI A (iZipB k l K (tCons ta (tCons tb tNil))) ρ (fun w => w = zipD ds es) := fun σ F H e p R c => (ea_cons h (ea_cons h' ea_nil)) σ F H e p _ fun vs bs F1 H1 hb po hv => by
  subst hb
  obtain ⟨v, u, ev, hv1, hu1⟩ := vas2 hv
  subst ev
  obtain ⟨a, xs, rfl, hx, ha⟩ := daB K hv1
  obtain ⟨b, ys, rfl, hy, hb⟩ := daB K hu1
  exact ⟨a, b, xs, ys, rfl, ha _ po.fh, hb _ po.fh, c _ _ F1 H1 rfl po (itd_zipB hx hy ha hb)⟩
end Pu

/-! A comprehension without a test, each value of one kind. -/
namespace Pu
open PySem L2
section
variable {A : Am} {ρ : List Ab} {te : TE}
theorem made_each {p : Nat → PyData → PyData → Prop} : ∀ {ds es : List PyData}, Made (fun k d o => ∃ x, o = some x ∧ p k d x) ds es → es.length = ds.length ∧ ∀ (i : Nat) d e, ds[i]? = some d → es[i]? = some e → p i d e := by
  intro ds es h
  induction h with
  | nil => exact ⟨rfl, fun i d e h => by simp at h⟩
  | skip _ h _ =>
    obtain ⟨x, e, _⟩ := h
    cases e
  | @more d x ds es _ h ih =>
    obtain ⟨y, e, hp⟩ := h
    cases e
    obtain ⟨l, ha⟩ := ih
    refine ⟨by rw [List.length_append, List.length_append, l]; rfl, fun i d' e' h1 h2 => ?_⟩
    by_cases hi : i < ds.length
    · rw [List.getElem?_append_left hi] at h1
      rw [List.getElem?_append_left (by omega)] at h2
      exact ha i d' e' h1 h2
    · have hb := (List.getElem?_eq_some_iff.mp h1).1
      rw [List.length_append, List.length_singleton] at hb
      have : i = ds.length := by omega
      subst this
      rw [List.getElem?_append_right (Nat.le_refl _), Nat.sub_self] at h1
      rw [List.getElem?_append_right (by omega), l, Nat.sub_self] at h2
      cases h1
      cases h2
      exact hp
/-- each value is of a kind told by its place and the member -/
theorem evn_each {wi : TI} {g : TG} {vs : List Nat} {N : List PyData → Prop} (p : Nat → PyData → PyData → Prop) (hi : EvI A wi ρ N)
    (he : ∀ (ds : List PyData) (k : Nat) (d : PyData), N ds → ds[k]? = some d → ∃ l : List (Nat × PyData), TgP g d l ∧ (l.all fun q => decide (q.1 ∈ vs)) = true ∧ EvP A te (setA (wipeA ρ vs) l) (p k d))
    (hz : ∀ ds, N ds → ds.length ≤ 1000000) : EvN A (tLc wi g tYes te vs) ρ (fun es => ∃ ds, N ds ∧ es.length = ds.length ∧ ∀ (i : Nat) d e, ds[i]? = some d → es[i]? = some e → p i d e) :=
  evn_lc (E := fun k d o => ∃ x, o = some x ∧ p k d x) hi (fun ds k d hN hd => by
    obtain ⟨l, h1, h2, h3⟩ := he ds k d hN hd
    exact ⟨l, h1, fun q hq => of_decide_eq_true (List.all_eq_true.mp h2 q hq), fun b => b = true, et_yes, (fun h => by cases h), fun _ => ⟨p k d, h3, fun x hx => ⟨x, rfl, hx⟩⟩⟩)
    (fun ds h => lt_line (hz ds h)) fun ds es hN h => ⟨ds, hN, made_each h⟩
/-- so many values of one kind -/
theorem evn_many {wi : TI} {g : TG} {vs : List Nat} {N : List PyData → Prop} (n : Nat) (p : PyData → Prop) (hi : EvI A wi ρ N)
    (he : ∀ (ds : List PyData) (k : Nat) (d : PyData), N ds → ds[k]? = some d → ∃ l : List (Nat × PyData), TgP g d l ∧ (l.all fun q => decide (q.1 ∈ vs)) = true ∧ EvP A te (setA (wipeA ρ vs) l) p)
    (hn : ∀ ds, N ds → ds.length = n) (hz : n ≤ 1000000) : EvN A (tLc wi g tYes te vs) ρ (fun es => es.length = n ∧ ∀ e ∈ es, p e) := fun σ F H e pr Q c =>
  evn_each (fun _ _ => p) hi he (fun ds h => by rw [hn ds h]; exact hz) σ F H e pr Q fun a vs' es F' H' ⟨ds, hN, hl, h⟩ => c a vs' es F' H' ⟨by rw [hl, hn ds hN], fun x hx => by
    obtain ⟨i, hi', rfl⟩ := List.getElem_of_mem hx
    exact h i ds[i] es[i] (List.getElem?_eq_getElem (by omega)) (List.getElem?_eq_getElem hi')⟩
/-- data of one kind are images -/
theorem unmapP {α : Type} {f : α → PyData} {q : α → Prop} : ∀ {es : List PyData}, (∀ e ∈ es, ∃ a, e = f a ∧ q a) → ∃ as : List α, es = as.map f ∧ ∀ a ∈ as, q a
  | [], _ => ⟨[], rfl, fun _ h => by cases h⟩
  | e :: es, h => by
    obtain ⟨a, rfl, ha⟩ := h e List.mem_cons_self
    obtain ⟨as, rfl, has⟩ := unmapP (es := es) fun x hx => h x (List.mem_cons_of_mem _ hx)
    exact ⟨a :: as, rfl, fun b hb => by
      rcases List.mem_cons.mp hb with rfl | hb
      · exact ha
      · exact has b hb⟩
/-- a tuple of so many images -/
theorem evp_tupMany {α : Type} {wi : TI} {g : TG} {vs : List Nat} {N : List PyData → Prop} {K : PySem.W.Frag} (n : Nat) (f : α → PyData) (q : α → Prop) (hi : EvI A wi ρ N)
    (he : ∀ (ds : List PyData) (k : Nat) (d : PyData), N ds → ds[k]? = some d → ∃ l : List (Nat × PyData), TgP g d l ∧ (l.all fun q => decide (q.1 ∈ vs)) = true ∧ EvP A te (setA (wipeA ρ vs) l) (fun e => ∃ a, e = f a ∧ q a))
    (hn : ∀ ds, N ds → ds.length = n) (hz : n ≤ 1000000) : EvP A (tCB (rTupOf K) (tCons (tLc wi g tYes te vs) tNil)) ρ (fun d => ∃ as : List α, d = .tuple (as.map f) ∧ as.length = n ∧ ∀ a ∈ as, q a) :=
  (evp_tuple (N := fun es => es.length = n ∧ ∀ e ∈ es, ∃ a, e = f a ∧ q a) ((evn_many n _ hi he hn hz).frz.of_imp fun d ⟨ds, e, h⟩ => ⟨ds, .inl e, h⟩)).of_imp fun d ⟨ds, e, hl, h⟩ => by
    obtain ⟨as, rfl, ha⟩ := unmapP h
    exact ⟨as, e, by rw [List.length_map] at hl; exact hl, ha⟩
theorem IntIn.nb {lo hi : Int} {d : PyData} (h : IntIn lo hi d) : ∃ i : Int, d = .int i ∧ lo ≤ i ∧ i < hi := h
theorem eip_r1P {lo hi : Int} (h : EvP A te ρ (IntIn lo hi)) (h1 : -1000000 ≤ lo ∧ hi ≤ 1000000) : EvI A (iRng1 (tCons te tNil)) ρ (fun w => ∃ j : Int, lo ≤ j ∧ j < hi ∧ w = (List.range j.toNat).map fun i : Nat => PyData.int (i : Int)) := fun σ F H e p R c =>
  eip_rng1 (N := fun j => lo ≤ j ∧ j < hi) (eap_cons (N1 := fun bs => bs = []) h (fun _ _ => ea_nil) fun x bs ⟨j, e, hj⟩ e2 => ⟨j, by rw [e, e2], hj⟩) (fun j ⟨h2, h3⟩ => ⟨by omega, by omega⟩) σ F H e p R fun J ds F1 H1 ⟨j, hj, e2⟩ => c J ds F1 H1 ⟨j, hj.1, hj.2, by
    rw [e2]
    unfold rngD
    exact List.map_congr_left fun i _ => by rw [Int.zero_add]⟩
/-- what holds at each turn of a list that is only partly known -/
theorem mem_of_dd {α : Type} {f : α → PyData} {as : List α} {k : Nat} {d : PyData} (h : (as.map f)[k]? = some d) : ∃ a, as[k]? = some a ∧ a ∈ as ∧ d = f a := by
  rw [List.getElem?_map] at h
  cases e : as[k]? with
  | none => rw [e] at h; cases h
  | some a =>
    rw [e] at h
    cases h
    exact ⟨a, rfl, List.mem_of_getElem? e, rfl⟩
theorem eip_r1N {N : Int → Prop} (h : EvP A te ρ (fun d => ∃ j, d = .int j ∧ N j)) (h1 : ∀ j, N j → -1000000 ≤ j ∧ j ≤ 1000000) : EvI A (iRng1 (tCons te tNil)) ρ (fun w => ∃ j : Int, N j ∧ w = (List.range j.toNat).map fun i : Nat => PyData.int (i : Int)) := fun σ F H e p R c =>
  eip_rng1 (N := N) (eap_cons (N1 := fun bs => bs = []) h (fun _ _ => ea_nil) fun x bs ⟨j, e, hj⟩ e2 => ⟨j, by rw [e, e2], hj⟩) (fun j hj => by have := h1 j hj; exact ⟨by omega, by omega⟩) σ F H e p R fun J ds F1 H1 ⟨j, hj, e2⟩ => c J ds F1 H1 ⟨j, hj, by
    rw [e2]
    unfold rngD
    exact List.map_congr_left fun i _ => by rw [Int.zero_add]⟩
theorem EvI.imp {wi : TI} {N M : List PyData → Prop} (h : EvI A wi ρ N) (q : ∀ ds, N ds → M ds) : EvI A wi ρ M := fun σ F H e p R c => h σ F H e p R fun J ds F1 H1 hn => c J ds F1 H1 (q ds hn)
end
end Pu

/-! Values of few levels, each of few members; a, b = x, []. -/
namespace Pu
open PySem L2
inductive Hc : Nat → PyData → Prop
  | int {n : Nat} {i : Int} : Nb 40 i → Hc n (.int i)
  | non {n : Nat} : Hc n .none
  | bool {n : Nat} {b : Bool} : Hc n (.bool b)
  | str {n : Nat} {s : Str} : Nc 0 45 (.str s) → Hc n (.str s)
  | tup {n : Nat} {ds : List PyData} : ds.length ≤ 24 → (∀ d ∈ ds, Hc n d) → Hc (n + 1) (.tuple ds)
  | lst {n : Nat} {ds : List PyData} : ds.length ≤ 24 → (∀ d ∈ ds, Hc n d) → Hc (n + 1) (.list ds)
theorem Hc.up1 {n : Nat} {d : PyData} (h : Hc n d) : Hc (n + 1) d := by
  induction h with
  | int h => exact .int h
  | non => exact .non
  | bool => exact .bool
  | str h => exact .str h
  | tup h _ ih => exact .tup h ih
  | lst h _ ih => exact .lst h ih
theorem Hc.mono {n m : Nat} {d : PyData} (h : Hc n d) (k : n ≤ m) : Hc m d := by
  induction k with
  | refl => exact h
  | step _ ih => exact ih.up1
def hcB : Nat → Nat
  | 0 => 45
  | n + 1 => 24 * (hcB n + 2) + 3
theorem hcB_le (n : Nat) : 45 ≤ hcB n := by
  induction n with
  | zero => exact Nat.le_refl _
  | succ n ih => unfold hcB; omega
theorem Hc.nc0 {n : Nat} {d : PyData} (h : Hc n d) : Nc n (hcB n) d := by
  induction h with
  | int h => exact (Nb.nc h).mono (Nat.zero_le _) (hcB_le _)
  | non => exact Nc.mono (n := 0) (m := 45) ⟨by rfl, by simp only [PyData.hasDict], by simp only [PyData.canLay0], by simp only [PyData.showable], by simp only [PyData.depth]; exact Nat.le_refl 0, by simp only [PyData.shown]; decide⟩ (Nat.zero_le _) (hcB_le _)
  | bool => exact (Nc.bool _).mono (Nat.zero_le _) (hcB_le _)
  | str h => exact h.mono (Nat.zero_le _) (hcB_le _)
  | tup h _ ih => exact Nc.tuple h ih
  | lst h _ ih => exact Nc.list h ih
theorem Hc.nc {n : Nat} {d : PyData} (h : Hc n d) (k : n ≤ 4 := by decide) : NC d := (h.mono k).nc0.up
theorem hall0 {p : PyData → Prop} : ∀ d ∈ ([] : List PyData), p d := fun _ h => by cases h
theorem hallC {p : PyData → Prop} {x : PyData} {xs : List PyData} (h : p x) (t : ∀ d ∈ xs, p d) : ∀ d ∈ x :: xs, p d := fun d hd => by
  rcases List.mem_cons.mp hd with rfl | hd
  · exact h
  · exact t d hd
theorem hallA {p : PyData → Prop} {xs ys : List PyData} (h : ∀ d ∈ xs, p d) (t : ∀ d ∈ ys, p d) : ∀ d ∈ xs ++ ys, p d := fun d hd => by
  rcases List.mem_append.mp hd with hd | hd
  · exact h d hd
  · exact t d hd
theorem hallM {α : Type} {p : PyData → Prop} {f : α → PyData} {as : List α} (h : ∀ a ∈ as, p (f a)) : ∀ d ∈ as.map f, p d := fun d hd => by
  obtain ⟨a, ha, rfl⟩ := List.mem_map.mp hd
  exact h a ha
section
variable {A : Am} {ρ : List Ab} {ta tb te : TE} {C : Ct} {K : PySem.W.Frag} {P1 : PyData → Prop} {i k : Nat}
/-- i, k = x, [] by a tuple -/
theorem run_asg2L (hk : k < ρ.length) (ha : EvP A ta ρ P1) (hn : ∀ x, P1 x → C.nx ((ρ.set i (.dat x)).set k (.own []))) :
    Run A (tAsg (tTup (tCons ta (tCons (tLst tNil) tNil))) (gTup K 2 (gCons (gName i) (gCons (gName k) gNil)))) ρ C := fun G F0 H0 σ F H D o e =>
  ha σ F H o.en o.pre _ fun v z F1 H1 hz po1 dv => by
    have o2 := o.step po1
    refine ⟨Nat.zero_le _, fun l hl => ⟨by show 2 ≤ sizeLine; decide, fun q hq => ?_⟩⟩
    have o3 := o2.step (Post.new0 (o := .lst []) o2.pre hl)
    have o4 := o3.step (Post.new0 (o := .tup [v, .ref l]) o3.pre hq)
    have hlq : l ≠ q := fun z => by
      rw [← z, upd_same] at hq
      cases hq
    refine ⟨q, _, rfl, SqT.of upd_same, rfl, v, _, rfl, .ref l, _, rfl, rfl, ?_⟩
    have o5 := o4.setD i dv
    have h00 : H0 l = none := none_back o2.pre0.am o2.post.le o2.post.am hl
    refine e.nx _ _ F1 _ (hn z hz) (o5.setN k (by rw [List.length_set]; exact hk) (by rw [upd_ne hlq]; exact upd_same) (pre_none o2.pre hl) h00 .nil fun r es nr hr z => ?_)
    obtain ⟨hr, n1⟩ := own_set (fun _ h => Ab.noConfusion h) hr
    rw [List.getElem?_set_ne (fun z => n1 z.symm)] at z
    obtain ⟨b, us, k1, k2, _⟩ := o2.ow r es hr
    rw [k1] at z
    cases z
    rw [hl] at k2
    cases k2
end
theorem numD_map {α : Type} (f : α → PyData) (l : List α) : numD (l.map f) = l.zipIdx.map fun p => .tuple [.int (p.2 : Nat), f p.1] := by
  unfold numD
  rw [List.zipIdx_map, List.map_map]
  rfl
end Pu

/-! A tuple times an int: once (the tuple itself), or more. -/
namespace Pu
open PySem PySem.Spec PyProof.Rows L2
theorem tuple_mulS (l : Addr) (items : Array Value) (n : Nat) (dd : Option Addr) (sl : Array (Option Value)) (x : Int) (u : Tok) (c0 : (decide (x < -(2 ^ 63)) || decide (x ≥ 2 ^ 63)) = false) (c1 : (items.isEmpty || x == 1) = true) :
    Meets (Builtin.«tuple.__mul__» ⟨[.ref l, .int x u], []⟩) (fun _ R s => s.heap.get? l = some { cls := .type "tuple", dict := dd, data := .seq items n, slots := sl } ∧ R (.ok (.ret (Value.ref l))) s) :=
  .of_wp fun prog w A R s h => by
    obtain ⟨hp, g, d, tk, os⟩ := s
    obtain ⟨hl, h⟩ := h
    have f1 := AutoSeq1.idx_int
    wp_walk using wpAny_loadPart' hl
    repeat (first
      | (refine wpAny_ite_false (decide_eq_false (by rw [c0]; exact Bool.false_ne_true)) ?_; wp_walk using wpAny_loadPart' hl)
      | (refine wpAny_ite_true (decide_eq_true (by rw [c1])) ?_; wp_walk using wpAny_loadPart' hl)
      | (refine wpAny_ite_true (by decide +kernel) ?_; wp_walk using wpAny_loadPart' hl))
    exact ⟨_, rfl, h⟩
def rRep1 (K : PySem.W.Frag) : R2 := fun x y H Q => ∃ l xs, x = .ref l ∧ y = .int 1 ∧ SqT K H l xs ∧ Q (.ref l) H
section
variable {X : Cx}
theorem op_rep1 : OpR X (binaryOp .Mult) (rRep1 X.K) := by
  intro pins s σ H x y v u Q I rx ry h
  obtain ⟨l, xs, rfl, rfl, hT, q⟩ := h
  cases rx
  obtain ⟨t, rfl⟩ := ry
  obtain ⟨its, r, ⟨⟨cls, dd, data, sl⟩, ho, hc, n, hd⟩, hs⟩ := I.tuple hT
  simp only at hc hd
  subst hc hd
  have c0 : (decide ((1 : Int) < -(2 ^ 63)) || decide ((1 : Int) ≥ 2 ^ 63)) = false := by decide
  have c1 : (its.toArray.isEmpty || (1 : Int) == 1) = true := by
    rw [show ((1 : Int) == 1) = true from rfl, Bool.or_true]
  exact wpAny_binaryOp_repeat_ref (T := "tuple") (U := "int") (by decide) ⟨_, ho, rfl⟩ (fun s' => typeIs_int s' 1 t) noFill_tuple_mul F.fills_int_mul F.slot_int_rmul repeat_tuple F.slot_int_index.lookup
    (call_meets F.slot_int_rmul (typeIs_int s 1 t) F.entry_int_rmul (F.args_int_rmul_2 _ _) (int_rmul_tuple 1 t l its.toArray n dd sl)
      ⟨ho, rfl, ⟨_, ho, rfl⟩, call_meets F.slot_tuple_mul ⟨_, ho, rfl⟩ F.entry_tuple_mul (F.args_tuple_mul_2 _ _) (tuple_mulS l its.toArray n dd sl 1 t c0 c1) ⟨ho, .ref l, H, I, rfl, q⟩⟩)
def rRepM (K : PySem.W.Frag) : R2 := fun x y H Q => rRepT K x y H Q ∨ rRep1 K x y H Q
theorem k_repM (K : PySem.W.Frag) (h : X.K = K := by rfl) : OpR X (binaryOp .Mult) (rRepM K) := by subst h; exact OpR.or op_repT op_rep1
end
section
variable {A : Am} {ρ : List Ab} {ta tb : TE} {xs : List PyData} {j : Int} {K : PySem.W.Frag}
theorem ev_mulT (ha : EvD A ta ρ (.tuple xs)) (hb : EvD A tb ρ (.int j)) (hne : xs ≠ []) (h1 : 1 ≤ j ∧ j ≤ 1000) (hz : xs.length ≤ 1000) : EvD A (tOp (rRepM K) ta tb) ρ (.tuple (List.replicate j.toNat xs).flatten) := fun σ F H e p Q c =>
  ha σ F H e p _ fun v x F1 H1 hx po1 dv => hb σ F1 H1 (e.mono po1.ff) (p.next po1) _ fun w y F2 H2 hy po2 dw => by
    subst hx hy
    have p2 := (p.next po1).next po2
    have hv := Da.mono po2.ff _ _ dv
    obtain ⟨a, us, rfl, ha, hx⟩ := da_tup.mp hv
    rw [da_int.mp dw]
    have po := po1.trans p.am po2
    by_cases h2 : 2 ≤ j
    · refine .inl ⟨a, j, us, rfl, rfl, SqT.of (p2.fh _ _ ha), fun z => hne ?_, h2, h1.2, by rw [hx.len]; exact hz, fun q hq => ?_⟩
      · have := hx.len
        rw [z] at this
        exact List.eq_nil_of_length_eq_zero this.symm
      · have fq := pre_none p2 hq
        exact c _ _ (upd F2 q (.tup (List.replicate j.toNat us).flatten)) _ rfl (po.trans p.am (Post.new p2 hq)) (da_tup.mpr ⟨q, _, rfl, upd_same, (das_rep hx _).mono (le_upd fq)⟩)
    · have : j = 1 := by omega
      subst this
      refine .inr ⟨a, us, rfl, rfl, SqT.of (p2.fh _ _ ha), c _ _ F2 H2 rfl po ?_⟩
      have e : (List.replicate (1 : Int).toNat xs).flatten = xs := by
        show (List.replicate 1 xs).flatten = xs
        simp
      rw [e]
      exact hv
end
end Pu

/-! The other source and its reader: a local list of cells, the mixed number kept. -/
namespace Pu
open PySem L2
def sourceTS2 (K : PySem.W.Frag) : TS :=
  tSeq (tAsg (tC (V.int 11)) (gName 1))
    (tSeq
      (tFor (iSeq K (tVar 0)) (gName 2)
        (tAsg (tOp (rI (fun _ j => 0 < j) fun i j => V.int (i % j)) (tCB rInt1 (tCons (tOp (rAdd3 K) (tOp (rAdd3 K) (tOp rMul2 (tVar 1) (tC (V.int 69069))) (tOp rMul2 (tVar 2) (tC (V.int 31)))) (tC (V.int 5))) tNil)) (tC (V.int 2147483629))) (gName 1)))
      (tSeq (tAsg (tLc (iSeq K (tVar 0)) (gName 2) tYes (tCB rAbs (tCons (tVar 2) tNil)) [2]) (gName 3))
        (tRet (tDisp [(tC (V.str "cells"), tRevS K (tVar 3)), (tC (V.str "left"), tC (V.int 1)), (tC (V.str "mixed"), tVar 1), (tC (V.str "turn"), tC (V.int 0))]))))
theorem src_read2 {K : PySem.W.Frag} {s : Addr} {ns : List Int} {H : Hp} {Q : VK} (hS : SqL K H s (ns.map V.int)) (hn : ns.length ≤ 63) (hSy : SysOk H) (q : ∀ p l H', (∀ a o, H a = some o → H' a = some o) → H p = none → H l = none → SrcOk p l H' → Q (.ref p) H') (D : Ends) (hD : D.rt = Q) : sourceTS2 K D [some (.ref s), none, none, none] H := by
  show tSeq _ _ D [some (.ref s), some (.int 11), none, none] H
  refine ⟨.ref s, rfl, s, rfl, .inl ⟨⟨_, hS⟩, for_list (K := K) (a := s) (xs := ns.map V.int) (fun i σ H' => H' = H ∧ ∃ (m : Int) (c : Option V), σ = [some (.ref s), some (.int m), c, none] ∧ 0 ≤ m ∧ m < 2147483647)
    ⟨rfl, 11, none, rfl, by decide, by decide⟩ (fun i σ H' _ h => by rw [h.1]; exact hS) ?_ ?_⟩⟩
  · rintro i x σ H' hx ⟨rfl, m, c, rfl, h0, h1⟩
    obtain ⟨z, rfl⟩ : ∃ z, x = V.int z := by
      rw [List.getElem?_map] at hx
      cases e : ns[i]? with
      | none => rw [e] at hx; cases hx
      | some z => rw [e] at hx; exact ⟨z, (Option.some.inj hx).symm⟩
    refine ⟨_, rfl, .inl ⟨m, 69069, rfl, rfl, .inl (.inr ⟨by decide, by decide⟩), _, rfl, .inl ⟨z, 31, rfl, rfl, .inl (.inr ⟨by decide, by decide⟩), .inl ⟨_, _, rfl, rfl, .inl ⟨_, 5, rfl, rfl, .inl ⟨_, rfl, _, _, rfl, rfl, (by decide : (0 : Int) < 2147483629), ?_⟩⟩⟩⟩⟩⟩
    exact ⟨rfl, _, _, rfl, Int.emod_nonneg _ (by decide), Int.lt_of_lt_of_le (Int.emod_lt_of_pos _ (by decide)) (by decide)⟩
  · rintro σ H' ⟨rfl, m, c, rfl, h0, h1⟩
    refine ⟨.ref s, rfl, s, rfl, .inl ⟨⟨_, hS⟩, fun L hL => ?_⟩⟩
    refine lc_list (K := K) (a := s) (xs := ns.map V.int) (fun i Hx => Hx L = some (.lst (((ns.take i).map fun z => if z < 0 then -z else z).map V.int)) ∧ ∀ a, a ≠ L → Hx a = H' a) ⟨by rw [upd_same] <;> rfl, fun a h => by rw [upd_ne h]⟩
      (fun i Hx _ h => seq_up (fun a o e => by rw [h.2 a (ne_of_none e hL)]; exact e) hS) ?_ ?_
    · rintro i x Hx hx ⟨hL1, hL2⟩
      obtain ⟨z, hz, rfl⟩ : ∃ z, ns[i]? = some z ∧ x = V.int z := by
        rw [List.getElem?_map] at hx
        cases e : ns[i]? with
        | none => rw [e] at hx; cases hx
        | some z => rw [e] at hx; exact ⟨z, rfl, (Option.some.inj hx).symm⟩
      have hi : i < ns.length := (List.getElem?_eq_some_iff.mp hz).1
      refine ⟨rfl, _, rfl, z, rfl, _, hL1, ?_, ?_, fun a h => by rw [upd_ne h]; exact hL2 a h⟩
      · rw [List.length_map, List.length_map, List.length_take]
        exact small1000 (by omega)
      · rw [upd_same, List.take_add_one, hz]
        simp
    · rintro Hx ⟨hL1, hL2⟩
      rw [List.length_map, List.take_length] at hL1
      have up1 : ∀ a o, H' a = some o → Hx a = some o := fun a o h => by rw [hL2 a (ne_of_none h hL)]; exact h
      intro p hp
      have hpL : L ≠ p := fun z => by
        rw [← z, hL1] at hp
        cases hp
      have n0 : ∀ a o, Hx a = some o → upd Hx p (.dK []) a = some o := fun a o h => by
        rw [upd_ne (ne_of_none h hp)]
        exact h
      refine ⟨.ref L, rfl, L, _, rfl, .inl ⟨SqL.of (n0 _ _ hL1), fun M hM => ?_⟩⟩
      have hMp : M ≠ p := fun z => by
        rw [z, upd_same] at hM
        cases hM
      refine ⟨_, rfl, ?_⟩
      have pk : (upd (upd Hx p (.dK [])) M (.lst ((ns.map fun z => if z < 0 then -z else z).map V.int).reverse)) p = some (.dK []) := by
        rw [upd_ne (Ne.symm hMp), upd_same]
      refine ⟨pk, srcD M 1 m 0, rfl, by show 4 ≤ 15; decide, ?_⟩
      rw [hD]
      have e : mergeK [] (srcD M 1 m 0) = srcD M 1 m 0 := rfl
      rw [e]
      have hHp : H' p = none := by
        cases e : H' p with
        | none => rfl
        | some o => rw [up1 _ _ e] at hp; cases hp
      have up : ∀ a o, H' a = some o → (upd (upd (upd Hx p (.dK [])) M (.lst ((ns.map fun z => if z < 0 then -z else z).map V.int).reverse)) p (.dK (srcD M 1 m 0))) a = some o := fun a o h => by
        have a1 : a ≠ p := ne_of_none h hHp
        have a2 := n0 _ _ (up1 _ _ h)
        rw [upd_ne a1, upd_ne (ne_of_none a2 hM)]
        exact a2
      refine q p M _ up hHp ?_ ?_
      · cases e : H' M with
        | none => rfl
        | some o =>
          rw [n0 _ _ (up1 _ _ e)] at hM
          cases hM
      · refine ⟨Ne.symm hMp, ((ns.map fun z => if z < 0 then -z else z)).reverse, 1, m, 0, upd_same, ?_, ?_, by decide, h0, h1, by decide, by obtain ⟨o, u, h⟩ := hSy; exact ⟨o, u, up _ _ h⟩⟩
        · rw [upd_ne hMp, upd_same, List.map_reverse]
        · intro c hc
          obtain ⟨z, hz, rfl⟩ := List.mem_map.mp (List.mem_reverse.mp hc)
          split <;> omega
def pickTS2 (K : PySem.W.Frag) : TS :=
  tSeq (tIfS (tTest (tOp (rI0 fun i j => V.bl (decide (i < j))) (tVar 1) (tC (V.int 2)))) (tRet (tC (V.int 0))) tNext)
  (tSeq (tAsg (tDGet (tVar 0) (tC (V.str "cells"))) (gName 2))
  (tSeq (tWhile (tAnd (tTest (tOp (rI0 fun i j => V.bl (decide (i < j))) (tDGet (tVar 0) (tC (V.str "left"))) (tC (V.int 2))))
          (tTest (tOp (rI0 fun i j => V.bl (decide (j < i))) (tCB (rLen K) (tCons (tVar 2) tNil)) (tC (V.int 0)))))
      (sDPut (tVar 0) (tC (V.str "left")) (tBM0 K "list" rPop (tVar 2))))
  (tSeq (tAsg (tDGet (tVar 0) (tC (V.str "left"))) (gName 3))
  (tSeq (tIfS (tTest (tOp (rI0 fun i j => V.bl (decide (j < i))) (tVar 3) (tC (V.int 1))))
      (tSeq (sDPut (tVar 0) (tC (V.str "left")) (tOp (rI CDivW fun i j => V.int (i / j)) (tVar 3) (tVar 1)))
        (tRet (tOp (rI (fun _ j => 0 < j) fun i j => V.int (i % j)) (tCB rInt1 (tCons (tVar 3) tNil)) (tVar 1)))) tNext)
  (tSeq (sDPut (tVar 0) (tC (V.str "turn")) (tOp (rAdd3 K) (tDGet (tVar 0) (tC (V.str "turn"))) (tC (V.int 1))))
  (tSeq (tAsg (tDGet (tVar 0) (tC (V.str "turn"))) (gName 4))
  (tSeq (tAsg (tOp (rI (fun _ j => 0 < j) fun i j => V.int (i % j)) (tCB rInt1 (tCons (tOp (rAdd3 K) (tDGet (tVar 0) (tC (V.str "mixed"))) (tOp rMul2 (tVar 4) (tC (V.int 104729)))) tNil)) (tC (V.int 998244353))) (gName 5))
  (tSeq (tAsg (tOp (rI (fun _ j => 0 < j) fun i j => V.int (i % j)) (tCB rInt1 (tCons (tOp (rAdd3 K) (tOp rMul2 (tVar 5) (tVar 5)) (tOp rMul2 (tVar 4) (tC (V.int 17)))) tNil)) (tC (V.int 2147483647))) (gName 5))
    (tRet (tOp (rI (fun _ j => 0 < j) fun i j => V.int (i % j)) (tCB rInt1 (tCons (tOp (rI CDivW fun i j => V.int (i / j)) (tVar 5) (tC (V.int 16))) tNil)) (tVar 1)))))))))))
theorem run_pick2 {K : PySem.W.Frag} {M : Am} {bs : List Ab} {Q : PyData → Prop} (hR : R_pick M bs Q) : Run M (pickTS2 K) (bs ++ [.no, .no, .no, .no]) { nx := fun _ => Q .none, rt := Q } := by
  obtain ⟨⟨p, l, rfl⟩, m, rfl, hm, rfl⟩ := hR
  intro G F0 H0 σ F H D o en
  obtain ⟨o0, e0, h0⟩ := o.en.at_ 0 .src rfl
  obtain ⟨o1, e1, v1, rfl, h1⟩ := o.en.at_ 1 (.dat (.int m)) rfl
  have h0 : o0 = some (.ref p) := h0
  subst h0
  rw [da_int.mp h1] at e1
  have hlen : σ.length = 6 := o.en.len
  obtain ⟨ne, cells, left, mixed, turn, d1, d2, d3, d4, d5, d6, d7, d8⟩ := o.pre.am
  have s0 : S0 p l H H cells left mixed turn := ⟨d1, d2, ne, d3, d4, d5, d6, d7, d8, fun _ _ _ => rfl⟩
  -- the end: any state of the source
  have fin : ∀ {H' : Hp} {cells left mixed turn} {i : Int}, S0 p l H H' cells left mixed turn → 0 ≤ i → i < max 1 m → D.rt (.int i) H' := by
    intro H' cells left mixed turn i s hi hi2
    refine en.rt (.int i) (.int i) F H' ⟨i, rfl, hi, hi2⟩ (o.post.trans o.pre0.am ⟨fun a x h n => ?_, fun _ _ h => h, fun a x h => ?_, fun _ _ h => .inl h, s.ok⟩) (da_int.mpr rfl)
    · rw [s.fr a (fun z => n (.inl z)) (fun z => n (.inr (.inl z)))]
      exact h
    · have n1 : a ≠ p := fun z => by
        rw [o.pre.fa a (.inl z)] at h
        cases h
      have n2 : a ≠ l := fun z => by
        rw [o.pre.fa a (.inr (.inl z))] at h
        cases h
      rw [s.fr a n1 n2]
      exact o.pre.fh a x h
  refine ⟨_, e1, _, _, rfl, rfl, _, rfl, ?_⟩
  by_cases hm2 : m < 2
  · rw [decide_eq_true hm2]
    exact fin s0 (by decide) (by omega)
  rw [decide_eq_false hm2]
  -- the cells by their name
  refine s0.g e0 (key_cells ..) rfl _ ?_
  show tSeq _ _ D (σ.set 2 (some (V.ref l))) H
  generalize hτ : σ.set 2 (some (V.ref l)) = τ
  have t0 : τ[0]? = some (some (.ref p)) := by rw [← hτ, List.getElem?_set_ne (by decide)]; exact e0
  have t1 : τ[1]? = some (some (.int m)) := by rw [← hτ, List.getElem?_set_ne (by decide)]; exact e1
  have t2 : τ[2]? = some (some (.ref l)) := by rw [← hτ, List.getElem?_set_self (by omega)]
  have tl : τ.length = 6 := by rw [← hτ, List.length_set, hlen]
  -- the while
  refine ⟨fun n σ' H' => σ' = τ ∧ ∃ cells left mixed turn, cells.length = n ∧ S0 p l H H' cells left mixed turn, ⟨cells.length, rfl, cells, left, mixed, turn, rfl, s0⟩, ?_⟩
  rintro n σ' H1 ⟨hσ', cells, left, mixed, turn, hn, s1⟩
  rw [hσ']
  -- behind the while
  have tail : ∀ {H1 : Hp} {cells left mixed turn}, S0 p l H H1 cells left mixed turn → (tSeq (tAsg (tDGet (tVar 0) (tC (V.str "left"))) (gName 3))
  (tSeq (tIfS (tTest (tOp (rI0 fun i j => V.bl (decide (j < i))) (tVar 3) (tC (V.int 1))))
      (tSeq (sDPut (tVar 0) (tC (V.str "left")) (tOp (rI CDivW fun i j => V.int (i / j)) (tVar 3) (tVar 1)))
        (tRet (tOp (rI (fun _ j => 0 < j) fun i j => V.int (i % j)) (tCB rInt1 (tCons (tVar 3) tNil)) (tVar 1)))) tNext)
  (tSeq (sDPut (tVar 0) (tC (V.str "turn")) (tOp (rAdd3 K) (tDGet (tVar 0) (tC (V.str "turn"))) (tC (V.int 1))))
  (tSeq (tAsg (tDGet (tVar 0) (tC (V.str "turn"))) (gName 4))
  (tSeq (tAsg (tOp (rI (fun _ j => 0 < j) fun i j => V.int (i % j)) (tCB rInt1 (tCons (tOp (rAdd3 K) (tDGet (tVar 0) (tC (V.str "mixed"))) (tOp rMul2 (tVar 4) (tC (V.int 104729)))) tNil)) (tC (V.int 998244353))) (gName 5))
  (tSeq (tAsg (tOp (rI (fun _ j => 0 < j) fun i j => V.int (i % j)) (tCB rInt1 (tCons (tOp (rAdd3 K) (tOp rMul2 (tVar 5) (tVar 5)) (tOp rMul2 (tVar 4) (tC (V.int 17)))) tNil)) (tC (V.int 2147483647))) (gName 5))
    (tRet (tOp (rI (fun _ j => 0 < j) fun i j => V.int (i % j)) (tCB rInt1 (tCons (tOp (rI CDivW fun i j => V.int (i / j)) (tVar 5) (tC (V.int 16))) tNil)) (tVar 1))))))))) D τ H1 := by
    intro H1 cells left mixed turn s
    refine s.g t0 (key_left ..) rfl _ ?_
    show tSeq _ _ D (τ.set 3 (some (V.int left))) H1
    generalize hσ2 : τ.set 3 (some (V.int left)) = σ2
    have k0 : σ2[0]? = some (some (.ref p)) := by rw [← hσ2, List.getElem?_set_ne (by decide)]; exact t0
    have k1 : σ2[1]? = some (some (.int m)) := by rw [← hσ2, List.getElem?_set_ne (by decide)]; exact t1
    have k3 : σ2[3]? = some (some (.int left)) := by rw [← hσ2, List.getElem?_set_self (by omega)]
    have hl2 : σ2.length = 6 := by rw [← hσ2, List.length_set, tl]
    refine ⟨_, k3, _, _, rfl, rfl, _, rfl, ?_⟩
    by_cases hl : 1 < left
    · rw [decide_eq_true hl]
      refine ⟨_, k3, _, k1, left, m, rfl, rfl, log2_30 (by omega) (by omega), _, k0, p, _, rfl, putv s.d rfl (by show 4 < sizeLine; decide), ?_⟩
      have s2 := s.pl (z := left / m) (Int.ediv_nonneg s.bl (by omega))
      refine ⟨_, k3, .inl ⟨left, rfl, _, k1, left, m, rfl, rfl, by omega, ?_⟩⟩
      exact fin s2 (Int.emod_nonneg _ (by omega)) (Int.lt_of_lt_of_le (Int.emod_lt_of_pos _ (by omega)) (by omega))
    · rw [decide_eq_false hl]
      refine s.g k0 (key_turn ..) rfl _ (.inl ⟨turn, 1, rfl, rfl, _, k0, p, _, rfl, putv s.d rfl (by show 4 < sizeLine; decide), ?_⟩)
      have s3 := s.pt (z := turn + 1) (by have := s.bt; omega)
      show tSeq _ _ D σ2 _
      refine S0.g s3 k0 (key_turn ..) rfl _ ?_
      show tSeq _ _ D (σ2.set 4 (some (V.int (turn + 1)))) _
      generalize hσ3 : σ2.set 4 (some (V.int (turn + 1))) = σ3
      have j0 : σ3[0]? = some (some (.ref p)) := by rw [← hσ3, List.getElem?_set_ne (by decide)]; exact k0
      have j1 : σ3[1]? = some (some (.int m)) := by rw [← hσ3, List.getElem?_set_ne (by decide)]; exact k1
      have j4 : σ3[4]? = some (some (.int (turn + 1))) := by rw [← hσ3, List.getElem?_set_self (by omega)]
      have hl3 : σ3.length = 6 := by rw [← hσ3, List.length_set, hl2]
      refine S0.g s3 j0 (key_mixed ..) rfl _ ⟨_, j4, .inl ⟨turn + 1, 104729, rfl, rfl, .inl (.inr ⟨by decide, by decide⟩), .inl ⟨mixed, _, rfl, rfl, .inl ⟨_, rfl, _, _, rfl, rfl, (by decide : (0 : Int) < 998244353), ?_⟩⟩⟩⟩
      show tSeq _ _ D (σ3.set 5 (some (V.int ((mixed + (turn + 1) * 104729) % 998244353)))) _
      generalize hx : (mixed + (turn + 1) * 104729) % 998244353 = x
      have hx0 : 0 ≤ x := by rw [← hx]; exact Int.emod_nonneg _ (by decide)
      have hx1 : x < 998244353 := by rw [← hx]; exact Int.emod_lt_of_pos _ (by decide)
      generalize hσ4 : σ3.set 5 (some (V.int x)) = σ4
      have i1 : σ4[1]? = some (some (.int m)) := by rw [← hσ4, List.getElem?_set_ne (by decide)]; exact j1
      have i4 : σ4[4]? = some (some (.int (turn + 1))) := by rw [← hσ4, List.getElem?_set_ne (by decide)]; exact j4
      have i5 : σ4[5]? = some (some (.int x)) := by rw [← hσ4, List.getElem?_set_self (by omega)]
      have hl4 : σ4.length = 6 := by rw [← hσ4, List.length_set, hl3]
      refine ⟨_, i5, _, i5, .inl ⟨x, x, rfl, rfl, .inl (.inl ⟨by omega, by omega⟩), _, i4, .inl ⟨turn + 1, 17, rfl, rfl, .inl (.inr ⟨by decide, by decide⟩), .inl ⟨_, _, rfl, rfl, .inl ⟨_, rfl, _, _, rfl, rfl, (by decide : (0 : Int) < 2147483647), ?_⟩⟩⟩⟩⟩
      show tRet (tOp (rI (fun _ j => 0 < j) fun i j => V.int (i % j)) (tCB rInt1 (tCons (tOp (rI CDivW fun i j => V.int (i / j)) (tVar 5) (tC (V.int 16))) tNil)) (tVar 1)) D (σ4.set 5 (some (V.int ((x * x + (turn + 1) * 17) % 2147483647)))) _
      generalize hy : (x * x + (turn + 1) * 17) % 2147483647 = y
      generalize hσ5 : σ4.set 5 (some (V.int y)) = σ5
      have q1 : σ5[1]? = some (some (.int m)) := by rw [← hσ5, List.getElem?_set_ne (by decide)]; exact i1
      have q5 : σ5[5]? = some (some (.int y)) := by rw [← hσ5, List.getElem?_set_self (by omega)]
      refine ⟨_, q5, _, _, rfl, rfl, ⟨by decide, by decide⟩, .inl ⟨_, rfl, _, q1, _, _, rfl, rfl, by omega, ?_⟩⟩
      exact fin s3 (Int.emod_nonneg _ (by omega)) (Int.lt_of_lt_of_le (Int.emod_lt_of_pos _ (by omega)) (by omega))
  refine s1.g t0 (key_left ..) rfl _ ⟨_, _, rfl, rfl, _, rfl, ?_⟩
  by_cases hl : left < 2
  · rw [decide_eq_true hl]
    refine ⟨_, t2, _, _, rfl, .inl (SqL.of s1.c), _, _, rfl, rfl, _, rfl, ?_⟩
    rw [List.length_map]
    by_cases hc : (0 : Int) < (cells.length : Int)
    · rw [decide_eq_true hc]
      have hne : cells ≠ [] := fun z => by rw [z] at hc; exact absurd hc (by decide)
      obtain ⟨cs, c, rfl⟩ : ∃ cs c, cells = cs ++ [c] := ⟨cells.dropLast, cells.getLast hne, (List.dropLast_concat_getLast hne).symm⟩
      refine ⟨fun σ' H' => σ' = τ ∧ ∃ left, S0 p l H H' cs left mixed turn, fun σ' H' ⟨h1, left, h2⟩ => ⟨cs.length, by rw [← hn, List.length_append]; exact Nat.lt_succ_self _, h1, cs, left, mixed, turn, rfl, h2⟩, ?_⟩
      have s2 := s1.pop
      refine ⟨_, t2, .inl ⟨rfl, _, SqL.of s1.c⟩, l, _, .int c, rfl, rfl, s1.c, ?_, ?_⟩
      · rw [List.length_map, List.length_append, List.map_append, List.length_singleton, Nat.add_sub_cancel]
        simp
      · rw [List.map_append, List.map_singleton, List.dropLast_concat]
        refine ⟨_, t0, p, _, rfl, putv s2.d rfl (by show 4 < sizeLine; decide), rfl, c, ?_⟩
        exact s2.pl (s1.bc c (List.mem_append_right _ List.mem_cons_self))
    · rw [decide_eq_false hc]
      exact tail s1
  · rw [decide_eq_false hl]
    exact tail s1
end Pu

/-! any(xs), all(xs) of data by their truth. -/
namespace Pu
open PySem L2
def rAnyD (K : PySem.W.Frag) : List V → Hp → VK → Prop := fun vs H Q => ∃ (a : Addr) (xs : List V) (ds : List PyData), vs = [.ref a] ∧ (SqL K H a xs ∨ SqT K H a xs) ∧ DpAll K H xs ds ∧ PyData.plainAll ds = true ∧ (∀ d ∈ ds, d.fits63) ∧ Q (.bl (ds.any PyData.truthy)) H
def rAllD (K : PySem.W.Frag) : List V → Hp → VK → Prop := fun vs H Q => ∃ (a : Addr) (xs : List V) (ds : List PyData), vs = [.ref a] ∧ (SqL K H a xs ∨ SqT K H a xs) ∧ DpAll K H xs ds ∧ PyData.plainAll ds = true ∧ (∀ d ∈ ds, d.fits63) ∧ Q (.bl (ds.all PyData.truthy)) H
section
variable {X : Cx}
theorem kc_anyD (K : PySem.W.Frag) (hc : X.calm = true) (hK : X.K = K := by rfl) : CallR X (.builtin "any") (rAnyD K) := by
  subst hK
  intro pins s σ H vs us Q I r h
  obtain ⟨a, xs, ds, rfl, hs, hd, hp, hf, q⟩ := h
  obtain ⟨u, rfl, ru⟩ := vals1 r
  obtain rfl : u = Value.ref a := ru
  rcases hs with hs | hs
  · obtain ⟨its, rv, hl, hz⟩ := I.list hs
    obtain ⟨as, ra⟩ := Dp.readsAll I ds xs its hd rv
    exact PySem.W.any_list_data (I.ok.hd hc) hl.isList ra hp hf fun h' tk hk => ⟨.bl _, H, I.kept hk, rfl, q⟩
  · obtain ⟨its, rv, hl, hz⟩ := I.tuple hs
    obtain ⟨as, ra⟩ := Dp.readsAll I ds xs its hd rv
    exact PySem.W.any_tuple_data (I.ok.hd hc) hl ra hp hf fun h' tk hk => ⟨.bl _, H, I.kept hk, rfl, q⟩
theorem kc_allD (K : PySem.W.Frag) (hc : X.calm = true) (hK : X.K = K := by rfl) : CallR X (.builtin "all") (rAllD K) := by
  subst hK
  intro pins s σ H vs us Q I r h
  obtain ⟨a, xs, ds, rfl, hs, hd, hp, hf, q⟩ := h
  obtain ⟨u, rfl, ru⟩ := vals1 r
  obtain rfl : u = Value.ref a := ru
  rcases hs with hs | hs
  · obtain ⟨its, rv, hl, hz⟩ := I.list hs
    obtain ⟨as, ra⟩ := Dp.readsAll I ds xs its hd rv
    exact PySem.W.all_list_data (I.ok.hd hc) hl.isList ra hp hf fun h' tk hk => ⟨.bl _, H, I.kept hk, rfl, q⟩
  · obtain ⟨its, rv, hl, hz⟩ := I.tuple hs
    obtain ⟨as, ra⟩ := Dp.readsAll I ds xs its hd rv
    exact PySem.W.all_tuple_data (I.ok.hd hc) hl ra hp hf fun h' tk hk => ⟨.bl _, H, I.kept hk, rfl, q⟩
end
theorem plain_ints : ∀ ns : List Int, PyData.plainAll (ns.map .int) = true
  | [] => rfl
  | n :: ns => by
    rw [List.map_cons]
    simp only [PyData.plainAll, PyData.plain, plain_ints ns, Bool.and_self]
theorem fits_ints {ns : List Int} : ∀ d ∈ ns.map PyData.int, d.fits63 := fun d hd => by
  obtain ⟨n, _, rfl⟩ := List.mem_map.mp hd
  exact True.intro
theorem any_truthy (ns : List Int) : (ns.map PyData.int).any PyData.truthy = ns.any fun n => !decide (n = 0) := by
  rw [List.any_map]
  congr 1
theorem all_truthy (ns : List Int) : (ns.map PyData.int).all PyData.truthy = ns.all fun n => !decide (n = 0) := by
  rw [List.all_map]
  congr 1
section
variable {A : Am} {ρ : List Ab} {te : TE} {ns : List Int} {K : PySem.W.Frag}
theorem ev_anyI_l (h : EvD A te ρ (.list (ns.map .int))) : EvD A (tCB (rAnyD K) (tCons te tNil)) ρ (.bool (ns.any fun n => !decide (n = 0))) := ev_cb (ea_cons h ea_nil) (rv_val fun F H vs p hv => by
  obtain ⟨v, ev, hv1⟩ := vas1 hv
  subst ev
  obtain ⟨a, xs, rfl, ha, hx⟩ := da_list.mp hv1
  rw [← any_truthy]
  exact ⟨_, da_bool.mpr rfl, fun Q q => ⟨a, xs, _, rfl, .inl (SqL.of (p.fh _ _ ha)), hx.dp p.fh _ _ (noDs_ints ns), plain_ints ns, fits_ints, q⟩⟩)
theorem ev_anyI_t (h : EvD A te ρ (.tuple (ns.map .int))) : EvD A (tCB (rAnyD K) (tCons te tNil)) ρ (.bool (ns.any fun n => !decide (n = 0))) := ev_cb (ea_cons h ea_nil) (rv_val fun F H vs p hv => by
  obtain ⟨v, ev, hv1⟩ := vas1 hv
  subst ev
  obtain ⟨a, xs, rfl, ha, hx⟩ := da_tup.mp hv1
  rw [← any_truthy]
  exact ⟨_, da_bool.mpr rfl, fun Q q => ⟨a, xs, _, rfl, .inr (SqT.of (p.fh _ _ ha)), hx.dp p.fh _ _ (noDs_ints ns), plain_ints ns, fits_ints, q⟩⟩)
end
end Pu

/-! a, b, c = a list; range of three. -/
namespace Pu
open PySem L2
theorem tg_lst {K : PySem.W.Frag} {n : Nat} {t : TGs} {ds : List PyData} {l : List (Nat × PyData)} (hn : ds.length = n) (h : TgsP t ds l) : TgP (gLst K n t) (.list ds) l := fun F H v hv hF => by
  obtain ⟨a, xs, rfl, ha, hx⟩ := da_list.mp hv
  obtain ⟨vs, k1, k2⟩ := h F H xs hx hF
  exact ⟨vs, k1, fun σ Q q => ⟨a, xs, rfl, SqL.of (hF _ _ ha), by rw [hx.len, hn], k2 σ Q q⟩⟩
theorem kpg_lst {X : Cx} (K : PySem.W.Frag) {pos : Pos} {es : List Expr} {k : Nat} {t : TGs} {n : Nat} (hc : X.calm = true) (h : PGs X es t)
    (hn : (assignEach es X.env).length = n := by rfl) (hst : (assignEach es X.env).findIdx? (·.1) = none := by rfl) (hK : X.K = K := by rfl) : PG X (.Tuple es k pos) (gLst K n t) := by subst hK; exact pg_lst hc h hn hst
def rgcD (lo c : Int) (n : Nat) : List PyData := (List.range n).map fun i : Nat => .int (lo + (i : Int) * c)
theorem itd_rgc {F : Hp} {lo c : Int} {n : Nat} : ItD (Itc lo c n) F (rgcD lo c n) where
  go := fun i F' H h1 h2 hi => by
    have hi' : i < n := by simpa [rgcD] using hi
    exact hi'
  yld := fun i F' H x H' d h1 h2 hy hdi => by
    obtain ⟨e, e2⟩ := hy
    subst e e2
    refine ⟨F', fun _ _ h => h, fun _ _ h => h, h2, fun _ _ h => .inl h, ?_⟩
    unfold rgcD at hdi
    rw [List.getElem?_map] at hdi
    have hi : i < n := by
      cases e : (List.range n)[i]? with
      | none => rw [e] at hdi; cases hdi
      | some j =>
        have := (List.getElem?_eq_some_iff.mp e).1
        simpa using this
    rw [List.getElem?_range hi] at hdi
    cases hdi
    exact da_int.mpr rfl
  stop := fun F' H h1 h2 => by
    show n ≤ (rgcD lo c n).length
    unfold rgcD
    rw [List.length_map, List.length_range]
    exact Nat.le_refl n
theorem ei_rng3 {A : Am} {ρ : List Ab} {ta tb tc : TE} {i j c : Int} {n : Nat} (h : EvD A ta ρ (.int i)) (h1 : EvD A tb ρ (.int j)) (h2 : EvD A tc ρ (.int c)) (hr : RgC i j c n) : EvI A (iRng3 (tCons ta (tCons tb (tCons tc tNil)))) ρ (fun w => w = rgcD i c n) := fun σ F H e p R k => (ea_cons h (ea_cons h1 (ea_cons h2 ea_nil))) σ F H e p _ fun vs bs F1 H1 hb po hv => by
  subst hb
  obtain ⟨y, ys, rfl, h1, hv⟩ := hv
  obtain ⟨u, w, rfl, h2, h3⟩ := vas2 hv
  have h1 : Da F1 (.int i) y := h1
  rw [da_int.mp h1, da_int.mp h2, da_int.mp h3]
  exact ⟨i, j, c, n, rfl, hr, k _ _ F1 H1 rfl po itd_rgc⟩
theorem rgC2 {n : Nat} (h : n ≤ 1000000) : RgC 0 (2 * (n : Int)) 2 n := by
  have e : Builtin.Range.rangeSize 0 (2 * (n : Int)) 2 = n := by
    unfold Builtin.Range.rangeSize
    rw [if_pos (by decide)]
    split <;> omega
  have fit : ∀ i : Int, -10000000 ≤ i ∧ i ≤ 10000000 → Builtin.Range.rangeFitsLong i = true := fun i hi => by
    have h1 : -(2 ^ 63) ≤ i := by omega
    have h2 : i < 2 ^ 63 := by omega
    unfold Builtin.Range.rangeFitsLong
    rw [decide_eq_true h1, decide_eq_true h2, Bool.and_self]
  refine ⟨by decide, by decide, ?_, e⟩
  unfold Builtin.Range.small
  rw [e, if_pos (show (2 : Int) > 0 by decide), fit 0 (by decide), fit (2 * (n : Int)) (by omega), fit 2 (by decide), fit n (by omega), fit (2 * (n : Int) + (2 - 1)) (by omega), Bool.or_true]
  rfl
end Pu

/-! Plain facts that many laws want: lists of ints and of pairs as data, indices, bounds. -/
namespace Pu
open PySem L2
@[reducible] def encP (p : Int × Int) : PyData := .tuple [.int p.1, .int p.2]
@[reducible] def encPs (ps : List (Int × Int)) : PyData := .tuple (ps.map encP)
@[reducible] def encI (is : List Int) : PyData := .tuple (is.map .int)
@[reducible] def encL (is : List Int) : PyData := .list (is.map .int)
theorem atI_map {α β : Type} {f : α → β} {l : List α} {i : Int} {x : α} (h : atI l i = some x) : atI (l.map f) i = some (f x) := by
  unfold atI at h ⊢
  rw [List.length_map]
  cases e : ixN l.length i with
  | none => rw [e] at h; cases h
  | some j =>
    rw [e] at h
    have h : l[j]? = some x := h
    show (l.map f)[j]? = some (f x)
    rw [List.getElem?_map, h] <;> rfl
theorem atI_get {α : Type} {l : List α} {i : Nat} {x : α} (h : l[i]? = some x) : atI l (i : Int) = some x := by
  have hi := (List.getElem?_eq_some_iff.mp h).1
  unfold atI ixN
  rw [if_pos (by omega), if_pos (by omega)]
  show l[((i : Int)).toNat]? = _
  rw [Int.toNat_natCast]
  exact h
/-- the last -/
theorem atI_last {α : Type} {l : List α} {x : α} : atI (l ++ [x]) (-1) = some x := by
  unfold atI ixN
  rw [if_neg (by decide), if_pos (by rw [List.length_append, List.length_singleton]; omega)]
  show (l ++ [x])[_]? = _
  rw [List.length_append, List.length_singleton, show (-1 + ((l.length + 1 : Nat) : Int)).toNat = l.length by omega, List.getElem?_append_right (Nat.le_refl _), Nat.sub_self]
  rfl
def atP (ps : List (Int × Int)) (i : Int) : Int × Int := ps.getD i.toNat (0, 0)
theorem atP_at {ps : List (Int × Int)} {i : Int} (h0 : 0 ≤ i) (h1 : i < ps.length) : atI ps i = some (atP ps i) := by
  have hi : i.toNat < ps.length := by omega
  unfold atI ixN atP
  rw [if_pos h0, if_pos h1]
  show ps[i.toNat]? = _
  rw [List.getD_eq_getElem?_getD, List.getElem?_eq_getElem hi] <;> rfl
theorem atP_mem {ps : List (Int × Int)} {i : Int} (h0 : 0 ≤ i) (h1 : i < ps.length) : atP ps i ∈ ps := by
  have hi : i.toNat < ps.length := by omega
  unfold atP
  rw [List.getD_eq_getElem?_getD, List.getElem?_eq_getElem hi]
  exact List.getElem_mem hi
theorem atP_E {ps : List (Int × Int)} {i : Int} (h0 : 0 ≤ i) (h1 : i < ps.length) : atI (ps.map encP) i = some (encP (atP ps i)) := atI_map (atP_at h0 h1)
theorem atP_get {ps : List (Int × Int)} {i : Nat} {p : Int × Int} (h : ps[i]? = some p) : atP ps (i : Int) = p := by
  unfold atP
  rw [Int.toNat_natCast, List.getD_eq_getElem?_getD, h]
  rfl
theorem atP_map {ps : List (Int × Int)} (f : Int × Int → Int × Int) {i : Int} (h0 : 0 ≤ i) (h1 : i < ps.length) : atP (ps.map f) i = f (atP ps i) := by
  have hi : i.toNat < ps.length := by omega
  unfold atP
  rw [List.getD_eq_getElem?_getD, List.getD_eq_getElem?_getD, List.getElem?_map, List.getElem?_eq_getElem hi]
  rfl
def gI (xs : List Int) (i : Int) : Int := xs.getD i.toNat 0
theorem gI_at {xs : List Int} {i : Int} (h0 : 0 ≤ i) (h1 : i < xs.length) : atI xs i = some (gI xs i) := by
  have hi : i.toNat < xs.length := by omega
  unfold atI ixN gI
  rw [if_pos h0, if_pos h1]
  show xs[i.toNat]? = _
  rw [List.getD_eq_getElem?_getD, List.getElem?_eq_getElem hi] <;> rfl
theorem gI_mem {xs : List Int} {i : Int} (h0 : 0 ≤ i) (h1 : i < xs.length) : gI xs i ∈ xs := by
  have hi : i.toNat < xs.length := by omega
  unfold gI
  rw [List.getD_eq_getElem?_getD, List.getElem?_eq_getElem hi]
  exact List.getElem_mem hi
theorem gI_E {xs : List Int} {i : Int} (h0 : 0 ≤ i) (h1 : i < xs.length) : atI (xs.map PyData.int) i = some (.int (gI xs i)) := atI_map (gI_at h0 h1)
theorem gI_get {xs : List Int} {i : Nat} {x : Int} (h : xs[i]? = some x) : gI xs (i : Int) = x := by
  unfold gI
  rw [Int.toNat_natCast, List.getD_eq_getElem?_getD, h]
  rfl
theorem nb_small {i : Int} {k : Nat} (h : -1000 ≤ i ∧ i ≤ 1000) (hk : 4 ≤ k := by decide) : Nb k i := Nb.mono (k := 4) (by unfold Nb; omega) hk
theorem nb_four {i : Int} {k : Nat} (h : -9999 ≤ i ∧ i ≤ 9999) (hk : 4 ≤ k := by decide) : Nb k i := Nb.mono (k := 4) (by unfold Nb; omega) hk
/-- a list of so many small numbers -/
structure Ve (k d : Nat) (xs : List Int) : Prop where
  len : xs.length = d
  sm : ∀ i ∈ xs, Nb k i
theorem Ve.at_ {k d : Nat} {xs : List Int} (h : Ve k d xs) {i : Int} (h0 : 0 ≤ i) (h1 : i < d) : Nb k (gI xs i) := h.sm _ (gI_mem h0 (by rw [h.len]; exact h1))
theorem Ve.atE {k d : Nat} {xs : List Int} (h : Ve k d xs) {i : Int} (h0 : 0 ≤ i) (h1 : i < d) : atI (xs.map PyData.int) i = some (.int (gI xs i)) := gI_E h0 (by rw [h.len]; exact h1)
theorem Ve.mono {k l d : Nat} {xs : List Int} (h : Ve k d xs) (hk : k ≤ l) : Ve l d xs := ⟨h.len, fun i hi => (h.sm i hi).mono hk⟩
theorem hc_ve {d l n : Nat} {xs : List Int} (h : Ve l d xs) (hd : d ≤ 24) (hl : l ≤ 40 := by decide) : Hc (n + 1) (encI xs) := Hc.tup (by rw [List.length_map, h.len]; exact hd) (hallM fun i hi => Hc.int ((h.sm i hi).mono hl))
theorem hc_veL {d l n : Nat} {xs : List Int} (h : Ve l d xs) (hd : d ≤ 24) (hl : l ≤ 40 := by decide) : Hc (n + 1) (encL xs) := Hc.lst (by rw [List.length_map, h.len]; exact hd) (hallM fun i hi => Hc.int ((h.sm i hi).mono hl))
/-- so many places, their numbers small -/
structure Pts (k n : Nat) (ps : List (Int × Int)) : Prop where
  len : ps.length = n
  sm : ∀ p ∈ ps, Nb k p.1 ∧ Nb k p.2
theorem Pts.at_ {k n : Nat} {ps : List (Int × Int)} (h : Pts k n ps) {i : Int} (h0 : 0 ≤ i) (h1 : i < n) : Nb k (atP ps i).1 ∧ Nb k (atP ps i).2 := h.sm _ (atP_mem h0 (by rw [h.len]; exact h1))
theorem Pts.atE {k n : Nat} {ps : List (Int × Int)} (h : Pts k n ps) {i : Int} (h0 : 0 ≤ i) (h1 : i < n) : atI (ps.map encP) i = some (encP (atP ps i)) := atP_E h0 (by rw [h.len]; exact h1)
theorem Pts.mono {k l n : Nat} {ps : List (Int × Int)} (h : Pts k n ps) (hk : k ≤ l) : Pts l n ps := ⟨h.len, fun p hp => ⟨(h.sm p hp).1.mono hk, (h.sm p hp).2.mono hk⟩⟩
theorem hc_encP {k n : Nat} {p : Int × Int} (h : Nb k p.1 ∧ Nb k p.2) (hk : k ≤ 40 := by decide) : Hc (n + 1) (encP p) := Hc.tup (by show 2 ≤ 24; decide) (hallC (.int (h.1.mono hk)) (hallC (.int (h.2.mono hk)) hall0))
theorem hc_pts {k n m : Nat} {ps : List (Int × Int)} (h : Pts k n ps) (hn : n ≤ 24) (hk : k ≤ 40 := by decide) : Hc (m + 2) (encPs ps) := Hc.tup (by rw [List.length_map, h.len]; exact hn) (hallM fun p hp => hc_encP (h.sm p hp) hk)
theorem noL_ints (is : List Int) : noL (encI is) = true := by
  show noLs (is.map .int) = true
  induction is with
  | nil => rfl
  | cons i is ih => exact ih
theorem noL_pts (ps : List (Int × Int)) : noL (encPs ps) = true := by
  show noLs (ps.map encP) = true
  induction ps with
  | nil => rfl
  | cons i is ih => exact ih
/-! ### pairs of numbers below one -/
def rowI (n : Int) (a : Nat) : List (Int × Int) := (List.range (n - ((a : Int) + 1)).toNat).map fun (k : Nat) => ((a : Int), (a : Int) + 1 + (k : Int))
def pairsTo (n : Int) (k : Nat) : List (Int × Int) := (List.range k).flatMap (rowI n)
def pairsI (n : Int) : List (Int × Int) := pairsTo n n.toNat
theorem pairsTo_succ (n : Int) (k : Nat) : pairsTo n (k + 1) = pairsTo n k ++ rowI n k := by
  unfold pairsTo
  rw [List.range_succ, List.flatMap_append, List.flatMap_cons, List.flatMap_nil, List.append_nil]
theorem rowI_len (n : Int) (a : Nat) : (rowI n a).length ≤ n.toNat := by
  unfold rowI
  rw [List.length_map, List.length_range]
  omega
theorem pairsTo_len (n : Int) (k : Nat) : (pairsTo n k).length ≤ k * n.toNat := by
  induction k with
  | zero => simp [pairsTo]
  | succ k ih =>
    rw [pairsTo_succ, List.length_append, Nat.succ_mul]
    have := rowI_len n k
    omega
theorem mem_pairs {n : Int} {r : Int × Int} : r ∈ pairsI n ↔ 0 ≤ r.1 ∧ r.1 < r.2 ∧ r.2 < n := by
  unfold pairsI pairsTo rowI
  simp only [List.mem_flatMap, List.mem_range, List.mem_map]
  constructor
  · rintro ⟨a, ha, k, hk, rfl⟩
    show 0 ≤ (a : Int) ∧ (a : Int) < (a : Int) + 1 + k ∧ (a : Int) + 1 + k < n
    omega
  · rintro ⟨h1, h2, h3⟩
    refine ⟨r.1.toNat, by omega, (r.2 - r.1 - 1).toNat, by omega, ?_⟩
    obtain ⟨x, y⟩ := r
    have h1 : 0 ≤ x := h1
    have h2 : x < y := h2
    show ((x.toNat : Int), (x.toNat : Int) + 1 + ((y - x - 1).toNat : Int)) = (x, y)
    rw [Prod.mk.injEq]
    omega
/-! ### tests -/
theorem nb_f {b : Bool} (h : (!b) = true) : b = false := by cases b with
  | false => rfl
  | true => cases h
theorem nb_t {b : Bool} (h : (!b) = false) : b = true := by cases b with
  | true => rfl
  | false => cases h
theorem et_orT {A : Am} {ρ : List Ab} {tt tu : TT} (h1 : EvT A tt ρ true) : EvT A (tOr tt tu) ρ true := (et_or (b2 := false) h1 (fun h => by cases h)).to rfl
theorem et_orR {A : Am} {ρ : List Ab} {tt tu : TT} {b : Bool} (h1 : EvT A tt ρ false) (h2 : EvT A tu ρ b) : EvT A (tOr tt tu) ρ b := (et_or h1 (fun _ => h2)).to (by simp)
theorem isT_tup (v : PyData) : (isT "tuple" v = true ∧ ∃ xs, v = .tuple xs) ∨ (isT "tuple" v = false ∧ ∀ xs, v ≠ .tuple xs) := by
  cases v with
  | tuple xs => exact .inl ⟨by simp only [isT, tyN]; decide +kernel, xs, rfl⟩
  | none => exact .inr ⟨by simp only [isT, tyN]; decide +kernel, fun _ h => by cases h⟩
  | bool b => exact .inr ⟨by simp only [isT, tyN]; decide +kernel, fun _ h => by cases h⟩
  | int b => exact .inr ⟨by simp only [isT, tyN]; decide +kernel, fun _ h => by cases h⟩
  | str b => exact .inr ⟨by simp only [isT, tyN]; decide +kernel, fun _ h => by cases h⟩
  | list b => exact .inr ⟨by simp only [isT, tyN]; decide +kernel, fun _ h => by cases h⟩
  | dict b => exact .inr ⟨by simp only [isT, tyN]; decide +kernel, fun _ h => by cases h⟩
def isI : PyData → Bool
  | .int _ => true
  | _ => false
theorem isI_eq (v : PyData) : (isT "int" v && !isT "bool" v) = isI v := by cases v <;> simp only [isT, tyN, isI] <;> decide +kernel
theorem isI_int {v : PyData} (h : isI v = true) : ∃ i, v = .int i := by
  cases v with
  | int i => exact ⟨i, rfl⟩
  | _ => cases h
theorem two_of {α : Type} {xs : List α} (h : xs.length = 2) : ∃ a b, xs = [a, b] := by
  match xs, h with
  | [a, b], _ => exact ⟨a, b, rfl⟩
theorem three_of {α : Type} {xs : List α} (h : xs.length = 3) : ∃ a b c, xs = [a, b, c] := by
  match xs, h with
  | [a, b, c], _ => exact ⟨a, b, c, rfl⟩
/-! ### products -/
def dotL (xs ys : List Int) : Int := ((xs.zip ys).map fun z => z.1 * z.2).sum
theorem zipD_ints (xs ys : List Int) : zipD (xs.map PyData.int) (ys.map PyData.int) = (xs.zip ys).map fun p => .tuple [.int p.1, .int p.2] := by
  unfold zipD
  rw [List.zip_map, List.map_map]
  rfl
theorem zipD_maps {α β : Type} (f : α → PyData) (g : β → PyData) (xs : List α) (ys : List β) : zipD (xs.map f) (ys.map g) = (xs.zip ys).map fun p => .tuple [f p.1, g p.2] := by
  unfold zipD
  rw [List.zip_map, List.map_map]
  rfl
theorem sum_nb {k m : Nat} : ∀ {xs : List Int}, (∀ x ∈ xs, Nb k x) → xs.length ≤ 10 ^ m → Nb (k + m) xs.sum := by
  intro xs h hl
  have key : ∀ xs : List Int, (∀ x ∈ xs, Nb k x) → xs.sum.natAbs ≤ xs.length * (10 ^ k - 1) := by
    intro xs
    induction xs with
    | nil => intro _; simp
    | cons x xs ih =>
      intro h
      have h1 : x.natAbs < 10 ^ k := h x List.mem_cons_self
      have h2 := ih fun y hy => h y (List.mem_cons_of_mem _ hy)
      rw [List.sum_cons, List.length_cons, Nat.succ_mul]
      omega
  have h1 := key xs h
  have h2 : xs.length * (10 ^ k - 1) ≤ 10 ^ m * (10 ^ k - 1) := Nat.mul_le_mul_right _ hl
  have h3 : 10 ^ m * (10 ^ k - 1) + 10 ^ m = 10 ^ m * 10 ^ k := by
    have : 10 ^ m * (10 ^ k - 1) + 10 ^ m * 1 = 10 ^ m * (10 ^ k - 1 + 1) := (Nat.mul_add _ _ _).symm
    have hp : 0 < 10 ^ k := Nat.pow_pos (by decide)
    rw [Nat.mul_one] at this
    rw [this, Nat.sub_add_cancel hp]
  have hp : 0 < 10 ^ m := Nat.pow_pos (by decide)
  show _ < 10 ^ (k + m)
  rw [Nat.pow_add, Nat.mul_comm (10 ^ k)]
  omega
/-! ### texts of pairs, frames, rows -/
theorem nc_encP {k : Nat} {p : Int × Int} (h : Nb k p.1 ∧ Nb k p.2) (hk : k ≤ 40 := by decide) : Nc 1 97 (encP p) := Nc.tuple (n := 0) (m := 45) (k := 2) (by show 2 ≤ 2; decide) (hallC (h.1.nc hk) (hallC (h.2.nc hk) hall0))
theorem nc_pts {k : Nat} {ps : List (Int × Int)} (hl : ps.length ≤ 100) (h : ∀ p ∈ ps, Nb k p.1 ∧ Nb k p.2) (hk : k ≤ 40 := by decide) : Nc 2 9903 (encPs ps) := Nc.tuple (n := 1) (m := 97) (k := 100) (by rw [List.length_map]; exact hl) (nc_map fun p hp => nc_encP (h p hp) hk)
theorem nc_ints {k : Nat} {xs : List Int} (hl : xs.length ≤ 100) (h : ∀ i ∈ xs, Nb k i) (hk : k ≤ 40 := by decide) : Nc 1 4703 (encI xs) := Nc.tuple (n := 0) (m := 45) (k := 100) (by rw [List.length_map]; exact hl) (nc_map fun i hi => (h i hi).nc hk)
theorem nc_intsL {k : Nat} {xs : List Int} (hl : xs.length ≤ 100) (h : ∀ i ∈ xs, Nb k i) (hk : k ≤ 40 := by decide) : Nc 1 4703 (encL xs) := Nc.list (n := 0) (m := 45) (k := 100) (by rw [List.length_map]; exact hl) (nc_map fun i hi => (h i hi).nc hk)
theorem nc_rowsT {k : Nat} {xs : List (List Int)} (hl : xs.length ≤ 100) (h : ∀ r ∈ xs, r.length ≤ 100 ∧ ∀ i ∈ r, Nb k i) (hk : k ≤ 40 := by decide) : Nc 2 470503 (.tuple (xs.map encI)) := Nc.tuple (n := 1) (m := 4703) (k := 100) (by rw [List.length_map]; exact hl) (nc_map fun r hr => nc_ints (h r hr).1 (h r hr).2 hk)
theorem nc_rowsL {k : Nat} {xs : List (List Int)} (hl : xs.length ≤ 100) (h : ∀ r ∈ xs, r.length ≤ 100 ∧ ∀ i ∈ r, Nb k i) (hk : k ≤ 40 := by decide) : Nc 2 470503 (.list (xs.map encI)) := Nc.list (n := 1) (m := 4703) (k := 100) (by rw [List.length_map]; exact hl) (nc_map fun r hr => nc_ints (h r hr).1 (h r hr).2 hk)
/-- rods of so many joints -/
structure Rods (n : Nat) (rods : List (Int × Int)) : Prop where
  ok : ∀ r ∈ rods, 0 ≤ r.1 ∧ r.1 < r.2 ∧ r.2 < n
  le : rods.length ≤ 100
  n1 : 1 ≤ n
  n2 : n ≤ 24
@[reducible] def encF (n : Nat) (rods : List (Int × Int)) : PyData := .tuple [.int n, encPs rods]
theorem Rods.nb {n : Nat} {rods : List (Int × Int)} (h : Rods n rods) : ∀ r ∈ rods, Nb 4 r.1 ∧ Nb 4 r.2 := fun r hr => by
  have := h.ok r hr
  have := h.n2
  exact ⟨nb_small (by omega), nb_small (by omega)⟩
theorem nc_frame {n : Nat} {rods : List (Int × Int)} (h : Rods n rods) : Nc 3 19813 (encF n rods) := by
  have h2 := h.n2
  exact Nc.tuple (n := 2) (m := 9903) (k := 2) (by show 2 ≤ 2; decide) (hallC (((nb_small (k := 4) (i := (n : Int)) (by omega)).nc).mono (by decide) (by decide)) (hallC (nc_pts h.le h.nb) hall0))
theorem evp_len_lP {A : Am} {ρ : List Ab} {te : TE} {K : PySem.W.Frag} {N : List PyData → Prop} (h : EvP A te ρ (fun d => ∃ ds, d = .list ds ∧ N ds)) : EvP A (tCB (rLen K) (tCons te tNil)) ρ (fun v => ∃ ds, N ds ∧ v = .int (ds.length : Int)) :=
  evp_cb (N := fun bs => ∃ ds, bs = [.dat (.list ds)] ∧ N ds) (eap_cons (N1 := fun bs => bs = []) h (fun _ _ => ea_nil) fun x bs ⟨ds, e, hn⟩ e2 => ⟨ds, by rw [e, e2], hn⟩) fun bs ⟨ds, e, hn⟩ => by
    subst e
    exact fun F H vs p hv Q c => len_l F H vs p hv Q fun z d F2 H2 e po dz => c z d F2 H2 ⟨ds, hn, e⟩ po dz
end Pu

/-! Rows of two joints at places, motions, products. -/
namespace Pu
open PySem L2
def dX (ps : List (Int × Int)) (a b : Int) : Int := (atP ps a).1 - (atP ps b).1
def dY (ps : List (Int × Int)) (a b : Int) : Int := (atP ps a).2 - (atP ps b).2
def sg (a b : Int) (k : Nat) : Int := (if (k : Int) = a then 1 else 0) - (if (k : Int) = b then 1 else 0)
def rowP (ps : List (Int × Int)) (a b : Int) : List Int := (List.range ps.length).flatMap fun k : Nat => [sg a b k * dX ps a b, sg a b k * dY ps a b]
def flatP (ms : List (Int × Int)) : List Int := ms.flatMap fun p => [p.1, p.2]
theorem len_two {α : Type} (f : α → List Int) (hf : ∀ x, (f x).length = 2) : ∀ l : List α, (l.flatMap f).length = 2 * l.length
  | [] => rfl
  | x :: l => by
    rw [List.flatMap_cons, List.length_append, hf, len_two f hf l, List.length_cons]
    omega
theorem rowP_len (ps : List (Int × Int)) (a b : Int) : (rowP ps a b).length = 2 * ps.length := by
  unfold rowP
  rw [len_two _ fun _ => rfl, List.length_range]
theorem flatP_len (ms : List (Int × Int)) : (flatP ms).length = 2 * ms.length := len_two _ (fun _ => rfl) _
theorem dotL_app {xs us ys vs : List Int} (h : xs.length = us.length) : dotL (xs ++ ys) (us ++ vs) = dotL xs us + dotL ys vs := by
  unfold dotL
  rw [List.zip_append h, List.map_append, List.sum_append]
theorem dot_flat (f g : Nat → Int) : ∀ (n : Nat) (ms : List (Int × Int)), ms.length = n → dotL ((List.range n).flatMap fun k => [f k, g k]) (flatP ms) = ((List.range n).map fun k : Nat => f k * (atP ms k).1 + g k * (atP ms k).2).sum
  | 0, ms, h => by
    rw [List.length_eq_zero_iff.mp h]
    rfl
  | n + 1, ms, h => by
    have hne : ms ≠ [] := fun z => by rw [z] at h; cases h
    obtain ⟨init, l, rfl⟩ : ∃ init l, ms = init ++ [l] := ⟨ms.dropLast, ms.getLast hne, (List.dropLast_concat_getLast hne).symm⟩
    have hi : init.length = n := by simpa using h
    have ih := dot_flat f g n init hi
    have e1 : flatP (init ++ [l]) = flatP init ++ [l.1, l.2] := by
      unfold flatP
      rw [List.flatMap_append]
      rfl
    rw [List.range_succ, List.flatMap_append, e1, dotL_app (by rw [len_two _ fun _ => rfl, List.length_range, flatP_len, hi]), ih, List.map_append, List.sum_append]
    have e2 : (List.range n).map (fun k : Nat => f k * (atP (init ++ [l]) k).1 + g k * (atP (init ++ [l]) k).2) = (List.range n).map fun k : Nat => f k * (atP init k).1 + g k * (atP init k).2 := by
      refine List.map_congr_left fun k hk => ?_
      have hk := List.mem_range.mp hk
      have : atP (init ++ [l]) (k : Int) = atP init (k : Int) := by
        unfold atP
        rw [Int.toNat_natCast, List.getD_eq_getElem?_getD, List.getD_eq_getElem?_getD, List.getElem?_append_left (by omega)]
      rw [this]
    have e3 : atP (init ++ [l]) (n : Int) = l := atP_get (by rw [List.getElem?_append_right (by omega), hi, Nat.sub_self]; rfl)
    rw [e2]
    congr 1
    show f n * l.1 + (g n * l.2 + 0) = (f n * (atP (init ++ [l]) n).1 + g n * (atP (init ++ [l]) n).2) + 0
    rw [e3]
    omega
theorem sum_zero {α : Type} {f : α → Int} : ∀ {l : List α}, (∀ x ∈ l, f x = 0) → (l.map f).sum = 0
  | [], _ => rfl
  | x :: l, h => by
    rw [List.map_cons, List.sum_cons, h x List.mem_cons_self, sum_zero fun y hy => h y (List.mem_cons_of_mem _ hy)]
    rfl
theorem sum_pick (F : Nat → Int) (a : Int) : ∀ n : Nat, 0 ≤ a → ((List.range n).map fun k : Nat => (if (k : Int) = a then 1 else 0) * F k).sum = if a < n then F a.toNat else 0
  | 0, h => by
    rw [if_neg (by omega)]
    rfl
  | n + 1, h => by
    rw [List.range_succ, List.map_append, List.sum_append, sum_pick F a n h, List.map_singleton, List.sum_singleton]
    by_cases e : (n : Int) = a
    · have e2 : a.toNat = n := by omega
      rw [if_neg (by omega), if_pos e, if_pos (by omega), e2]
      omega
    · rw [if_neg e]
      by_cases e3 : a < n
      · rw [if_pos e3, if_pos (by omega)]
        omega
      · rw [if_neg e3, if_neg (by omega)]
        omega
theorem sum_subs {α : Type} (f g : α → Int) : ∀ l : List α, (l.map fun x => f x - g x).sum = (l.map f).sum - (l.map g).sum
  | [] => rfl
  | x :: l => by
    simp only [List.map_cons, List.sum_cons]
    rw [sum_subs f g l]
    omega
theorem sum_sg (F : Nat → Int) {a b : Int} {n : Nat} (ha : 0 ≤ a ∧ a < n) (hb : 0 ≤ b ∧ b < n) : ((List.range n).map fun k : Nat => sg a b k * F k).sum = F a.toNat - F b.toNat := by
  have e : ((List.range n).map fun k : Nat => sg a b k * F k) = (List.range n).map fun k : Nat => (if (k : Int) = a then 1 else 0) * F k - (if (k : Int) = b then 1 else 0) * F k := List.map_congr_left fun k _ => by
    unfold sg
    grind
  rw [e, sum_subs, sum_pick F a n ha.1, sum_pick F b n hb.1, if_pos ha.2, if_pos hb.2]
/-- what a motion gives a row -/
def givesP (ps ms : List (Int × Int)) (a b : Int) : Int := dX ps a b * ((atP ms a).1 - (atP ms b).1) + dY ps a b * ((atP ms a).2 - (atP ms b).2)
theorem dot_row {ps ms : List (Int × Int)} {a b : Int} (hl : ms.length = ps.length) (ha : 0 ≤ a ∧ a < ps.length) (hb : 0 ≤ b ∧ b < ps.length) : dotL (rowP ps a b) (flatP ms) = givesP ps ms a b := by
  unfold rowP
  rw [dot_flat _ _ _ ms hl]
  have e : ((List.range ps.length).map fun k : Nat => sg a b k * dX ps a b * (atP ms k).1 + sg a b k * dY ps a b * (atP ms k).2) = (List.range ps.length).map fun k : Nat => sg a b k * (dX ps a b * (atP ms k).1 + dY ps a b * (atP ms k).2) := List.map_congr_left fun k _ => by grind
  rw [e, sum_sg (fun k : Nat => dX ps a b * (atP ms k).1 + dY ps a b * (atP ms k).2) ha hb]
  unfold givesP
  rw [show ((a.toNat : Nat) : Int) = a by omega, show ((b.toNat : Nat) : Int) = b by omega]
  grind
/-- a row's blocks -/
theorem flat_zero {f : Nat → List Int} : ∀ {l : List Nat}, (∀ k ∈ l, f k = [0, 0]) → l.flatMap f = List.replicate (2 * l.length) 0
  | [], _ => rfl
  | k :: l, h => by
    rw [List.flatMap_cons, h k List.mem_cons_self, flat_zero fun x hx => h x (List.mem_cons_of_mem _ hx), List.length_cons, show 2 * (l.length + 1) = 2 + 2 * l.length by omega, ← List.replicate_append_replicate]
    rfl
theorem rowP_blocks {ps : List (Int × Int)} {a c e : Nat} (h : ps.length = a + 1 + c + 1 + e) : rowP ps (a : Int) ((a + 1 + c : Nat) : Int) =
    List.replicate (2 * a) 0 ++ ([dX ps a ((a + 1 + c : Nat) : Int), dY ps a ((a + 1 + c : Nat) : Int)] ++ (List.replicate (2 * c) 0 ++ ([- dX ps a ((a + 1 + c : Nat) : Int), - dY ps a ((a + 1 + c : Nat) : Int)] ++ List.replicate (2 * e) 0))) := by
  unfold rowP
  rw [h]
  generalize dX ps a ((a + 1 + c : Nat) : Int) = x
  generalize dY ps a ((a + 1 + c : Nat) : Int) = y
  have z : ∀ k : Nat, k ≠ a → k ≠ a + 1 + c → [sg a ((a + 1 + c : Nat) : Int) k * x, sg a ((a + 1 + c : Nat) : Int) k * y] = [0, 0] := fun k h1 h2 => by
    unfold sg
    rw [if_neg (by omega), if_neg (by omega)]
    simp
  have sa : sg a ((a + 1 + c : Nat) : Int) a = 1 := by
    unfold sg
    rw [if_pos rfl, if_neg (by omega)]
    rfl
  have sb : sg a ((a + 1 + c : Nat) : Int) (a + 1 + c) = -1 := by
    unfold sg
    rw [if_neg (by omega), if_pos rfl]
    rfl
  rw [show a + 1 + c + 1 + e = a + (1 + (c + (1 + e))) by omega, List.range_add, List.range_add, List.range_add, List.range_add]
  simp only [List.map_append, List.flatMap_append, List.map_map]
  congr 1
  · rw [flat_zero fun k hk => z k (by have := List.mem_range.mp hk; omega) (by have := List.mem_range.mp hk; omega), List.length_range]
  congr 1
  · show [sg a ((a + 1 + c : Nat) : Int) (a + 0) * x, sg a ((a + 1 + c : Nat) : Int) (a + 0) * y] ++ [] = _
    simp only [Nat.add_zero]
    rw [sa, Int.one_mul, Int.one_mul]
    rfl
  congr 1
  · rw [flat_zero fun k hk => ?_, List.length_map, List.length_range]
    obtain ⟨j, hj, rfl⟩ := List.mem_map.mp hk
    have := List.mem_range.mp hj
    exact z _ (by show a + (1 + j) ≠ a; omega) (by show a + (1 + j) ≠ a + 1 + c; omega)
  congr 1
  · show [sg a ((a + 1 + c : Nat) : Int) (a + (1 + (c + 0))) * x, sg a ((a + 1 + c : Nat) : Int) (a + (1 + (c + 0))) * y] ++ [] = _
    simp only [show a + (1 + (c + 0)) = a + 1 + c by omega]
    rw [sb]
    simp
  · rw [flat_zero fun k hk => ?_, List.length_map, List.length_range]
    obtain ⟨j, hj, rfl⟩ := List.mem_map.mp hk
    have := List.mem_range.mp hj
    exact z _ (by show a + (1 + (c + (1 + j))) ≠ a; omega) (by show a + (1 + (c + (1 + j))) ≠ a + 1 + c; omega)
/-- two slices stored one behind the other -/
theorem row_stored {a c e : Nat} {x y z w : Int} : let n := a + 1 + c + 1 + e
    let r1 := (List.replicate (2 * n) (0 : Int)).take (2 * a) ++ [x, y] ++ (List.replicate (2 * n) (0 : Int)).drop (2 * a + 2)
    r1.length = 2 * n ∧ r1.take (2 * (a + 1 + c)) ++ [z, w] ++ r1.drop (2 * (a + 1 + c) + 2) = List.replicate (2 * a) 0 ++ ([x, y] ++ (List.replicate (2 * c) 0 ++ ([z, w] ++ List.replicate (2 * e) 0))) := by
  intro n r1
  have hr : r1 = List.replicate (2 * a) 0 ++ ([x, y] ++ (List.replicate (2 * c) 0 ++ List.replicate (2 + 2 * e) 0)) := by
    show (List.replicate (2 * n) (0 : Int)).take (2 * a) ++ [x, y] ++ (List.replicate (2 * n) (0 : Int)).drop (2 * a + 2) = _
    rw [List.take_replicate, List.drop_replicate, Nat.min_eq_left (by omega), List.append_assoc, List.replicate_append_replicate]
    congr 3
    omega
  rw [hr]
  refine ⟨by simp; omega, ?_⟩
  have t1 : (List.replicate (2 * a) (0 : Int) ++ ([x, y] ++ (List.replicate (2 * c) 0 ++ List.replicate (2 + 2 * e) 0))).take (2 * (a + 1 + c)) = List.replicate (2 * a) 0 ++ ([x, y] ++ List.replicate (2 * c) 0) := by
    rw [← List.append_assoc, ← List.append_assoc, List.take_append_of_le_length (by simp; omega), List.take_of_length_le (by simp; omega), List.append_assoc]
  have t2 : (List.replicate (2 * a) (0 : Int) ++ ([x, y] ++ (List.replicate (2 * c) 0 ++ List.replicate (2 + 2 * e) 0))).drop (2 * (a + 1 + c) + 2) = List.replicate (2 * e) 0 := by
    rw [← List.append_assoc, ← List.append_assoc, List.drop_append, List.drop_of_length_le (by simp; omega), List.nil_append, List.drop_replicate]
    congr 1
    simp
    omega
  rw [t1, t2]
  simp only [List.append_assoc]
/-! ### as vectors -/
def vecL (r : List Int) : Vec := fun i => r.getD i 0
def vecs (rows : List (List Int)) : List Vec := rows.map vecL
theorem dot_snoc {w : Nat} {xs ys : List Int} {x y : Int} (hx : xs.length = w) (hy : ys.length = w) : dot (w + 1) (vecL (xs ++ [x])) (vecL (ys ++ [y])) = dot w (vecL xs) (vecL ys) + x * y := by
  have g : ∀ (zs : List Int) (z : Int), zs.length = w → vecL (zs ++ [z]) w = z ∧ ∀ i, i < w → vecL (zs ++ [z]) i = vecL zs i := fun zs z h => by
    unfold vecL
    refine ⟨by rw [List.getD_eq_getElem?_getD, List.getElem?_append_right (by omega), h, Nat.sub_self]; rfl, fun i hi => ?_⟩
    rw [List.getD_eq_getElem?_getD, List.getD_eq_getElem?_getD, List.getElem?_append_left (by omega)]
  show dot w _ _ + _ * _ = _
  rw [(g xs x hx).1, (g ys y hy).1, dot_congrL (g xs x hx).2, dot_congr (g ys y hy).2]
theorem dot_vecL : ∀ (w : Nat) {xs ys : List Int}, xs.length = w → ys.length = w → dot w (vecL xs) (vecL ys) = dotL xs ys
  | 0, xs, ys, hx, hy => by
    rw [List.length_eq_zero_iff.mp hx]
    rfl
  | w + 1, xs, ys, hx, hy => by
    have hxn : xs ≠ [] := fun z => by rw [z] at hx; cases hx
    have hyn : ys ≠ [] := fun z => by rw [z] at hy; cases hy
    obtain ⟨xi, x, rfl⟩ : ∃ init l, xs = init ++ [l] := ⟨xs.dropLast, xs.getLast hxn, (List.dropLast_concat_getLast hxn).symm⟩
    obtain ⟨yi, y, rfl⟩ : ∃ init l, ys = init ++ [l] := ⟨ys.dropLast, ys.getLast hyn, (List.dropLast_concat_getLast hyn).symm⟩
    have h1 : xi.length = w := by simpa using hx
    have h2 : yi.length = w := by simpa using hy
    rw [dot_snoc h1 h2, dot_vecL w h1 h2, dotL_app (by rw [h1, h2])]
    show _ = _ + (x * y + 0)
    omega
/-- what is a list's vector below its length -/
theorem vec_list (w : Nat) (x : Vec) : ∃ xs : List Int, xs.length = w ∧ ∀ i, i < w → vecL xs i = x i :=
  ⟨(List.range w).map x, by rw [List.length_map, List.length_range], fun i hi => by
    unfold vecL
    rw [List.getD_eq_getElem?_getD, List.getElem?_map, List.getElem?_range hi]
    rfl⟩
/-- one more row that is nought where the others are is no more; one that is not makes the rank greater -/
theorem rk_more {w r s : Nat} {rows : List Vec} {v x : Vec} (h : Rk w rows r) (h' : Rk w (rows ++ [v]) s) (hx : Ker w rows x) (hv : dot w v x ≠ 0) : s ≠ r := fun e => by
  subst e
  obtain ⟨J, hJ, hz⟩ := h.ge
  obtain ⟨E, hE, hk⟩ := h'.le
  let ext (u : Vec) (a : Int) : Vec := fun i => if i = w then a else u i
  have dext : ∀ (u : Vec) (a : Int) (y : Vec), dot (w + 1) (ext u a) y = dot w u y + a * y w := fun u a y => by
    show dot w (ext u a) y + ext u a w * y w = _
    rw [dot_congrL (v := u) fun i hi => by show (if i = w then a else u i) = u i; rw [if_neg (by omega)]]
    show _ + (if w = w then a else u w) * y w = _
    rw [if_pos rfl]
  obtain ⟨y, ⟨i, hi, hne⟩, hy⟩ := few_eqs (w + 1) (E.map (fun e => ext e 0) ++ J.map (fun j => ext (unitV j) (x j))) (by
    rw [List.length_append, List.length_map, List.length_map]
    omega)
  have y1 : Ker w E y := fun e he => by
    have := hy (ext e 0) (List.mem_append_left _ (List.mem_map_of_mem he))
    rw [dext] at this
    omega
  have k1 := hk y y1
  let z : Vec := fun i => 1 * y i + y w * x i
  have dz : ∀ u : Vec, dot w u z = dot w u y + y w * dot w u x := fun u => by
    have : ∀ m : Nat, dot m u z = dot m u y + y w * dot m u x := fun m => by
      induction m with
      | zero => simp [dot]
      | succ m ih =>
        simp only [dot]
        rw [ih]
        show _ + u m * (1 * y m + y w * x m) = _
        grind
    exact this w
  let z' : Vec := fun i => if i < w then z i else 0
  have dz' : ∀ u : Vec, dot w u z' = dot w u y + y w * dot w u x := fun u => by
    rw [← dz]
    exact dot_congr fun i hi => by show (if i < w then z i else 0) = z i; rw [if_pos hi]
  have kz : Ker w rows z' := fun u hu => by
    rw [dz', hx u hu, k1 u (List.mem_append_left _ hu)]
    omega
  have jz : ∀ j ∈ J, z' j = 0 := fun j hj => by
    show (if j < w then z j else 0) = 0
    by_cases hjw : j < w
    · rw [if_pos hjw]
      have := hy (ext (unitV j) (x j)) (List.mem_append_right _ (List.mem_map_of_mem (f := fun j => ext (unitV j) (x j)) hj))
      rw [dext, dot_unit hjw] at this
      show 1 * y j + y w * x j = 0
      grind
    · rw [if_neg hjw]
  have h0 : ∀ i, i < w → 1 * y i + y w * x i = 0 := fun i hi => by
    have := hz z' kz jz i hi
    have e : z' i = z i := by show (if i < w then z i else 0) = z i; rw [if_pos hi]
    rw [e] at this
    exact this
  have hv0 : dot w v z' = 0 := by
    have e : dot w v z' = dot w v (fun _ => 0) := dot_congr fun i hi => hz z' kz jz i hi
    rw [e]
    exact dot_zero fun _ _ => .inr rfl
  rw [dz', k1 v (List.mem_append_right _ List.mem_cons_self)] at hv0
  by_cases hw : y w = 0
  · have : i ≠ w := fun e => hne (by rw [e]; exact hw)
    have h1 := h0 i (by omega)
    rw [hw] at h1
    omega
  · rcases Int.mul_eq_zero.mp (show y w * dot w v x = 0 by omega) with q | q
    · exact hw q
    · exact hv q
end Pu

/-! Greatest common divisors of rows, rows cleared by one another, reduced rows with their leads. -/
namespace Pu
open PySem L2
theorem nb_log {k : Nat} {i : Int} (h : Nb k i) (hk : k ≤ 2000) : i.natAbs.log2 < 9000 := by
  rcases Nat.eq_zero_or_pos i.natAbs with e | e
  · rw [e]; decide
  · refine (Nat.log2_lt (by omega)).mpr (Nat.lt_of_lt_of_le h (Nat.le_trans (ten_le hk) ?_))
    have : (10 : Nat) ^ 2000 ≤ (2 ^ 4) ^ 2000 := Nat.pow_le_pow_left (by decide) _
    rw [← Nat.pow_mul] at this
    exact Nat.le_trans this (Nat.pow_le_pow_right (by decide) (by decide))
theorem nb_cm {k : Nat} {i j : Int} (h : Nb k i) (h' : Nb k j) (hk : k ≤ 2000) : CM i j := .inr (by
  have a := nb_log h hk
  have b := nb_log h' hk
  show _ + _ < 1000000
  omega)
def gcdL : List Int → Nat → Nat
  | [], g => g
  | x :: r, g => gcdL r (Nat.gcd g x.natAbs)
theorem abs_nat (i : Int) : (if i < 0 then -i else i) = (i.natAbs : Int) := by split <;> omega
theorem gcdL_dvd : ∀ (l : List Int) (g : Nat), gcdL l g ∣ g ∧ ∀ x ∈ l, gcdL l g ∣ x.natAbs
  | [], g => ⟨Nat.dvd_refl _, fun _ h => by cases h⟩
  | x :: r, g => by
    obtain ⟨h1, h2⟩ := gcdL_dvd r (Nat.gcd g x.natAbs)
    refine ⟨Nat.dvd_trans h1 (Nat.gcd_dvd_left _ _), fun y hy => ?_⟩
    rcases List.mem_cons.mp hy with rfl | hy
    · exact Nat.dvd_trans h1 (Nat.gcd_dvd_right _ _)
    · exact h2 y hy
theorem gcdL_zero : ∀ (l : List Int) (g : Nat), (∀ x ∈ l, x.natAbs = 0) → gcdL l g = g
  | [], _, _ => rfl
  | x :: r, g, h => by
    show gcdL r (Nat.gcd g x.natAbs) = g
    rw [h x List.mem_cons_self, Nat.gcd_zero_right]
    exact gcdL_zero r g fun y hy => h y (List.mem_cons_of_mem _ hy)
theorem gcdL_nb {k : Nat} {xs : List Int} (h : ∀ x ∈ xs, Nb k x) : Nb k ((gcdL xs 0 : Nat) : Int) := by
  by_cases z : ∀ x ∈ xs, x.natAbs = 0
  · rw [gcdL_zero xs 0 z]
    exact Nat.pow_pos (by decide)
  · obtain ⟨x, hx, hne⟩ : ∃ x ∈ xs, x.natAbs ≠ 0 := Classical.byContradiction fun q => z fun x hx => Classical.byContradiction fun y => q ⟨x, hx, y⟩
    have hle := Nat.le_of_dvd (by omega) ((gcdL_dvd xs 0).2 x hx)
    exact Nat.lt_of_le_of_lt (by rw [Int.natAbs_natCast]; exact hle) (h x hx)
/-- a row without what its numbers have in common -/
def cutBy (xs : List Int) : Int := if ((gcdL xs 0 : Nat) : Int) > 1 then ((gcdL xs 0 : Nat) : Int) else 1
def cutR (xs : List Int) : List Int := xs.map fun i => i / cutBy xs
theorem cutBy_pos (xs : List Int) : 1 ≤ cutBy xs := by unfold cutBy; split <;> omega
theorem cutBy_dvd (xs : List Int) : ∀ x ∈ xs, cutBy xs ∣ x := fun x hx => by
  unfold cutBy
  split
  · exact Int.ofNat_dvd_left.mpr ((gcdL_dvd xs 0).2 x hx)
  · exact ⟨x, by omega⟩
theorem cutBy_nb {k : Nat} {xs : List Int} (h : ∀ x ∈ xs, Nb k x) (hk : 1 ≤ k) : Nb k (cutBy xs) := by
  unfold cutBy
  split
  · exact gcdL_nb h
  · exact Nb.one.mono hk
theorem cut_vec (xs : List Int) (i : Nat) : vecL xs i = cutBy xs * vecL (cutR xs) i := by
  unfold vecL cutR
  rw [List.getD_eq_getElem?_getD, List.getD_eq_getElem?_getD, List.getElem?_map]
  cases e : xs[i]? with
  | none => simp
  | some x =>
    show x = cutBy xs * (x / cutBy xs)
    rw [Int.mul_ediv_cancel' (cutBy_dvd xs x (List.mem_of_getElem? e))]
theorem cut_ve {k w : Nat} {xs : List Int} (h : Ve k w xs) : Ve k w (cutR xs) := ⟨by unfold cutR; rw [List.length_map]; exact h.len, fun i hi => by
  obtain ⟨x, hx, rfl⟩ := List.mem_map.mp hi
  obtain ⟨q, hq⟩ := cutBy_dvd xs x hx
  have hp := cutBy_pos xs
  have hb := h.sm x hx
  rw [hq] at hb
  rw [hq, Int.mul_ediv_cancel_left _ (by omega)]
  unfold Nb at hb ⊢
  rw [Int.natAbs_mul] at hb
  exact Nat.lt_of_le_of_lt (Nat.le_mul_of_pos_left _ (by omega)) hb⟩
theorem cut_dot (w : Nat) (xs : List Int) (x : Vec) : dot w (vecL xs) x = cutBy xs * dot w (vecL (cutR xs)) x := by
  have : ∀ m : Nat, dot m (vecL xs) x = cutBy xs * dot m (vecL (cutR xs)) x := fun m => by
    induction m with
    | zero => simp [dot]
    | succ m ih =>
      simp only [dot]
      rw [ih, cut_vec xs m]
      grind
  exact this w
/-- a row cleared by another one at a place -/
def rawR (y h : List Int) (l : Nat) : List Int := (y.zip h).map fun z => gI h l * z.1 - gI y l * z.2
theorem gI_vec (xs : List Int) (l : Nat) : gI xs (l : Int) = vecL xs l := by
  unfold gI vecL
  rw [Int.toNat_natCast]
theorem raw_vec {w l : Nat} {y h : List Int} (hy : y.length = w) (hh : h.length = w) {i : Nat} (hi : i < w) : vecL (rawR y h l) i = vecL h l * vecL y i + (- vecL y l) * vecL h i := by
  unfold rawR
  rw [gI_vec, gI_vec]
  generalize vecL h l = p
  generalize vecL y l = q
  unfold vecL
  rw [List.getD_eq_getElem?_getD, List.getD_eq_getElem?_getD, List.getD_eq_getElem?_getD, List.getElem?_map]
  have e1 : y[i]? = some y[i] := List.getElem?_eq_getElem (by omega)
  have e2 : h[i]? = some h[i] := List.getElem?_eq_getElem (by omega)
  have e : (y.zip h)[i]? = some (y[i], h[i]) := by
    rw [List.getElem?_zip_eq_some]
    exact ⟨e1, e2⟩
  rw [e, e1, e2]
  show p * y[i] - q * h[i] = p * y[i] + -q * h[i]
  grind
theorem raw_dot {w l : Nat} {y h : List Int} (hy : y.length = w) (hh : h.length = w) (x : Vec) : dot w (vecL (rawR y h l)) x = vecL h l * dot w (vecL y) x + (- vecL y l) * dot w (vecL h) x := by
  rw [← dot_lin]
  exact dot_congrL fun i hi => raw_vec hy hh hi
theorem vec_nb {k w : Nat} {xs : List Int} (h : Ve k w xs) {l : Nat} (hl : l < w) : Nb k (vecL xs l) := by
  rw [← gI_vec]
  exact h.at_ (by omega) (by omega)
theorem raw_ve {k m w l : Nat} {y h : List Int} (hy : Ve k w y) (hh : Ve m w h) (hl : l < w) : Ve (k + m + 1) w (rawR y h l) := ⟨by unfold rawR; rw [List.length_map, List.length_zip, hy.len, hh.len]; exact Nat.min_self _, fun i hi => by
  obtain ⟨z, hz, rfl⟩ := List.mem_map.mp hi
  obtain ⟨z1, z2⟩ := List.of_mem_zip hz
  have n1 := vec_nb hh hl
  have n2 := vec_nb hy hl
  rw [gI_vec, gI_vec]
  exact (Nb.sub (Nb.mul n1 (hy.sm _ z1)) (Nb.mul n2 (hh.sm _ z2))).mono (by omega)⟩
/-- reduced rows with their leads -/
structure Led (w : Nat) (rows : List (List Int)) (hs : List (Nat × List Int)) : Prop where
  ker : ∀ x, Ker w (vecs rows) x ↔ ∀ h ∈ hs, dot w (vecL h.2) x = 0
  lt : ∀ h ∈ hs, h.1 < w
  one : ∀ (i : Nat) (h : Nat × List Int), hs[i]? = some h → vecL h.2 h.1 ≠ 0 ∧ ∀ (j : Nat) (g : Nat × List Int), hs[j]? = some g → j ≠ i → vecL h.2 g.1 = 0
theorem Led.nil {w : Nat} : Led w [] [] := ⟨fun x => ⟨(fun _ h hh => by cases hh), (fun _ r hr => by cases hr)⟩, (fun _ h => by cases h), (fun i h hi => by simp at hi)⟩
theorem Led.rk {w : Nat} {rows : List (List Int)} {hs : List (Nat × List Int)} (h : Led w rows hs) : Rk w (vecs rows) hs.length := by
  have hnd : (hs.map (·.1)).Nodup := by
    refine List.pairwise_iff_getElem.mpr fun i j hi hj hij e => ?_
    rw [List.length_map] at hi hj
    have e1 : hs[i]? = some hs[i] := List.getElem?_eq_getElem hi
    have e2 : hs[j]? = some hs[j] := List.getElem?_eq_getElem hj
    rw [List.getElem_map, List.getElem_map] at e
    have h1 := (h.one i _ e1).1
    have h2 := (h.one i _ e1).2 j _ e2 (by omega)
    rw [← e] at h2
    exact h1 h2
  refine ⟨⟨hs.map fun q => vecL q.2, by rw [List.length_map]; exact Nat.le_refl _, fun x hx => (h.ker x).mpr fun q hq => hx _ (List.mem_map_of_mem (f := fun q : Nat × List Int => vecL q.2) hq)⟩, ⟨(List.range w).filter fun i => !decide (i ∈ hs.map (·.1)), ?_, fun x hx hz => ?_⟩⟩
  · have key : ∀ (w : Nat) (ls : List Nat), ls.Nodup → (∀ l ∈ ls, l < w) → ((List.range w).filter fun i => !decide (i ∈ ls)).length + ls.length ≤ w := by
      intro w
      induction w with
      | zero =>
        intro ls _ hl
        cases ls with
        | nil => exact Nat.le_refl _
        | cons a b => exact absurd (hl a List.mem_cons_self) (by omega)
      | succ w ih =>
        intro ls hn hl
        have h1 := ih (ls.filter fun l => !decide (l = w)) (hn.sublist List.filter_sublist) (fun l hm => by
          obtain ⟨a, b⟩ := List.mem_filter.mp hm
          have := hl l a
          have b : ¬ l = w := by simpa using b
          omega)
        rw [List.range_succ, List.filter_append, List.length_append]
        have e : (List.range w).filter (fun i => !decide (i ∈ ls.filter fun l => !decide (l = w))) = (List.range w).filter fun i => !decide (i ∈ ls) := List.filter_congr fun i hi => by
          have := List.mem_range.mp hi
          congr 2
          rw [List.mem_filter]
          simp
          intro
          omega
        rw [e] at h1
        by_cases hw : w ∈ ls
        · have l2 : ls.length = (ls.filter fun l => !decide (l = w)).length + 1 := by
            have : (ls.filter fun l => !decide (l = w)) = ls.erase w := by
              rw [hn.erase_eq_filter]
              exact List.filter_congr fun x _ => by
                by_cases q : x = w
                · subst q; simp
                · simp [q]
            rw [this, List.length_erase_of_mem hw]
            have := List.length_pos_of_mem hw
            omega
          have : ([w].filter fun i => !decide (i ∈ ls)) = [] := by simp [hw]
          rw [this, List.length_nil]
          omega
        · have l2 : (ls.filter fun l => !decide (l = w)) = ls := List.filter_eq_self.mpr fun x hx => by
            have : x ≠ w := fun z => hw (z ▸ hx)
            simp [this]
          have l3 : ([w].filter fun i => !decide (i ∈ ls)).length ≤ 1 := List.length_filter_le _ _
          rw [l2] at h1
          omega
    have := key w (hs.map (·.1)) hnd (fun l hl => by
      obtain ⟨q, hq, rfl⟩ := List.mem_map.mp hl
      exact h.lt q hq)
    rw [List.length_map] at this
    exact this
  · have kx := (h.ker x).mp hx
    intro i hi
    by_cases hm : i ∈ hs.map (·.1)
    · obtain ⟨q, hq, rfl⟩ := List.mem_map.mp hm
      obtain ⟨j, hj, e⟩ := List.getElem_of_mem hq
      have ej : hs[j]? = some q := by rw [List.getElem?_eq_getElem hj, e]
      obtain ⟨n1, n2⟩ := h.one j q ej
      have := kx q hq
      rw [dot_one (h.lt q hq) (fun p hp hne => ?_)] at this
      · rcases Int.mul_eq_zero.mp this with z | z
        · exact absurd z n1
        · exact z
      · by_cases hpm : p ∈ hs.map (·.1)
        · obtain ⟨g, hg, rfl⟩ := List.mem_map.mp hpm
          obtain ⟨l, hl, e2⟩ := List.getElem_of_mem hg
          have el : hs[l]? = some g := by rw [List.getElem?_eq_getElem hl, e2]
          refine .inl (n2 l g el fun z => hne ?_)
          subst z
          rw [ej] at el
          cases el
          rfl
        · exact .inr (hz p (List.mem_filter.mpr ⟨List.mem_range.mpr hp, by simp [hpm]⟩))
    · exact hz i (List.mem_filter.mpr ⟨List.mem_range.mpr hi, by simp [hm]⟩)
/-- a row that is nought behind clearing -/
theorem Led.skip {w : Nat} {rows : List (List Int)} {hs : List (Nat × List Int)} (h : Led w rows hs) {r : List Int} (hr : ∀ x, (∀ q ∈ hs, dot w (vecL q.2) x = 0) → dot w (vecL r) x = 0) : Led w (rows ++ [r]) hs where
  ker := fun x => by
    constructor
    · intro hk
      exact (h.ker x).mp fun v hv => hk v (by unfold vecs; rw [List.map_append]; exact List.mem_append_left _ hv)
    · intro hk v hv
      unfold vecs at hv
      rw [List.map_append] at hv
      rcases List.mem_append.mp hv with hv | hv
      · exact (h.ker x).mpr hk v hv
      · rw [List.mem_singleton.mp hv]
        exact hr x hk
  lt := h.lt
  one := h.one
/-- a row that leads anew: the others are cleared by it -/
theorem Led.put {w c : Nat} {rows : List (List Int)} {hs : List (Nat × List Int)} (h : Led w rows hs) (hl : ∀ q ∈ hs, q.2.length = w) {r y : List Int} (hy : y.length = w) (hc : c < w) (hyc : vecL y c ≠ 0)
    (hz : ∀ q ∈ hs, vecL y q.1 = 0) (hr : ∀ x, (∀ q ∈ hs, dot w (vecL q.2) x = 0) → (dot w (vecL r) x = 0 ↔ dot w (vecL y) x = 0)) : Led w (rows ++ [r]) ((hs.map fun q => (q.1, cutR (rawR q.2 y c))) ++ [(c, y)]) where
  ker := fun x => by
    have hq : ∀ q ∈ hs, dot w (vecL y) x = 0 → (dot w (vecL (cutR (rawR q.2 y c))) x = 0 ↔ dot w (vecL q.2) x = 0) := fun q hqm hy0 => by
      have e := cut_dot w (rawR q.2 y c) x
      rw [raw_dot (hl q hqm) hy, hy0] at e
      have hp := cutBy_pos (rawR q.2 y c)
      constructor
      · intro z
        rw [z] at e
        have e : vecL y c * dot w (vecL q.2) x = 0 := by omega
        exact (Int.mul_eq_zero.mp e).resolve_left hyc
      · intro z
        rw [z] at e
        have e : cutBy (rawR q.2 y c) * dot w (vecL (cutR (rawR q.2 y c))) x = 0 := by omega
        exact (Int.mul_eq_zero.mp e).resolve_left (by omega)
    constructor
    · intro hk
      have k1 := (h.ker x).mp fun v hv => hk v (by unfold vecs; rw [List.map_append]; exact List.mem_append_left _ hv)
      have k2 := (hr x k1).mp (hk (vecL r) (by unfold vecs; rw [List.map_append]; exact List.mem_append_right _ List.mem_cons_self))
      intro q hqm
      rcases List.mem_append.mp hqm with hqm | hqm
      · obtain ⟨p, hp, rfl⟩ := List.mem_map.mp hqm
        exact (hq p hp k2).mpr (k1 p hp)
      · rw [List.mem_singleton.mp hqm]
        exact k2
    · intro hk
      have k2 : dot w (vecL y) x = 0 := hk (c, y) (List.mem_append_right _ List.mem_cons_self)
      have k1 : ∀ q ∈ hs, dot w (vecL q.2) x = 0 := fun q hqm => (hq q hqm k2).mp (hk (q.1, cutR (rawR q.2 y c)) (List.mem_append_left _ (List.mem_map_of_mem (f := fun q : Nat × List Int => (q.1, cutR (rawR q.2 y c))) hqm)))
      intro v hv
      unfold vecs at hv
      rw [List.map_append] at hv
      rcases List.mem_append.mp hv with hv | hv
      · exact (h.ker x).mpr k1 v hv
      · rw [List.mem_singleton.mp hv]
        exact (hr x k1).mpr k2
  lt := fun q hq => by
    rcases List.mem_append.mp hq with hq | hq
    · obtain ⟨p, hp, rfl⟩ := List.mem_map.mp hq
      exact h.lt p hp
    · rw [List.mem_singleton.mp hq]
      exact hc
  one := by
    have cz : ∀ (xs : List Int) (i : Nat), vecL xs i = 0 → vecL (cutR xs) i = 0 := fun xs i z => by
      have := cut_vec xs i
      rw [z] at this
      have hp := cutBy_pos xs
      exact (Int.mul_eq_zero.mp this.symm).resolve_left (by omega)
    intro i q hi
    by_cases hil : i < hs.length
    · rw [List.getElem?_append_left (by rw [List.length_map]; exact hil), List.getElem?_map] at hi
      have ei : hs[i]? = some hs[i] := List.getElem?_eq_getElem hil
      rw [ei] at hi
      cases hi
      have hpm : hs[i] ∈ hs := List.getElem_mem hil
      obtain ⟨n1, n2⟩ := h.one i _ ei
      have hlt := h.lt _ hpm
      refine ⟨fun z => ?_, fun j g hj hne => ?_⟩
      · have e := cut_vec (rawR hs[i].2 y c) hs[i].1
        rw [show vecL (cutR (rawR hs[i].2 y c)) hs[i].1 = 0 from z, raw_vec (hl _ hpm) hy hlt, hz _ hpm] at e
        have e : vecL y c * vecL hs[i].2 hs[i].1 = 0 := by omega
        rcases Int.mul_eq_zero.mp e with q | q
        · exact hyc q
        · exact n1 q
      · by_cases hjl : j < hs.length
        · rw [List.getElem?_append_left (by rw [List.length_map]; exact hjl), List.getElem?_map] at hj
          have ej : hs[j]? = some hs[j] := List.getElem?_eq_getElem hjl
          rw [ej] at hj
          cases hj
          have hgm : hs[j] ∈ hs := List.getElem_mem hjl
          refine cz _ _ ?_
          rw [raw_vec (hl _ hpm) hy (h.lt _ hgm), n2 j _ ej hne, hz _ hgm]
          omega
        · have hb := (List.getElem?_eq_some_iff.mp hj).1
          rw [List.length_append, List.length_map, List.length_singleton] at hb
          have : j = hs.length := by omega
          subst this
          rw [List.getElem?_append_right (by rw [List.length_map]; exact Nat.le_refl _), List.length_map, Nat.sub_self] at hj
          cases hj
          refine cz _ _ ?_
          rw [raw_vec (hl _ hpm) hy hc]
          grind
    · have hb := (List.getElem?_eq_some_iff.mp hi).1
      rw [List.length_append, List.length_map, List.length_singleton] at hb
      have : i = hs.length := by omega
      subst this
      rw [List.getElem?_append_right (by rw [List.length_map]; exact Nat.le_refl _), List.length_map, Nat.sub_self] at hi
      cases hi
      refine ⟨hyc, fun j g hj hne => ?_⟩
      have hb := (List.getElem?_eq_some_iff.mp hj).1
      rw [List.length_append, List.length_map, List.length_singleton] at hb
      rw [List.getElem?_append_left (by rw [List.length_map]; omega), List.getElem?_map] at hj
      have hjl : j < hs.length := by omega
      have ej : hs[j]? = some hs[j] := List.getElem?_eq_getElem hjl
      rw [ej] at hj
      cases hj
      exact hz hs[j] (List.getElem_mem hjl)
end Pu

/-! x is True; a, b = l.pop(i), []. -/
namespace Pu
open PySem L2
section
variable {A : Am} {ρ : List Ab} {C : Ct} {te ta tb ti : TE} {x y d : PyData} {ds : List PyData} {n m i k : Nat} {K : PySem.W.Frag}
theorem ev_isB {a b : Bool} (ha : EvD A ta ρ (.bool a)) (hb : EvD A tb ρ (.bool b)) : EvD A (tOp rIsB ta tb) ρ (.bool (decide (a = b))) := ev_op ha hb (r2_val fun F H v w p hv hw => ⟨_, da_bool.mpr rfl, fun Q q => ⟨a, b, da_bool.mp hv, da_bool.mp hw, q⟩⟩)
theorem run_popAt2 (ho : ρ[n]? = some (.own ds)) (hi : EvD A ti ρ (.int (k : Int))) (hk : ds[k]? = some d) (hm : m < ρ.length) (hz : ds.length ≤ 1000000) (hn : C.nx (((ρ.set n (.own (ds.eraseIdx k))).set i (.dat d)).set m (.own []))) :
    Run A (tAsg (tTup (tCons (tBM K "list" rPopAt (tVar n) (tCons ti tNil)) (tCons (tLst tNil) tNil))) (gTup K 2 (gCons (gName i) (gCons (gName m) gNil)))) ρ C := fun G F0 H0 σ F H D o e => by
  obtain ⟨a, us, k1, k2, k3, k4, k5⟩ := o.ow n ds ho
  refine ⟨_, k1, .inl ⟨rfl, _, .inl (.inl k2)⟩, hi σ F H o.en o.pre _ fun v z F1 H1 hz1 po dv => ?_⟩
  subst hz1
  have o1 := o.step po
  obtain ⟨a', us', q1, q2, q3, q4, q5⟩ := o1.ow n ds ho
  rw [k1] at q1
  cases q1
  rw [da_int.mp dv]
  obtain ⟨y, hy, dy⟩ := q5.get hk
  have hkl := (List.getElem?_eq_some_iff.mp hk).1
  have hul := q5.len
  refine ⟨a, us', (k : Int), k, y, rfl, rfl, q2, by omega, by omega, ?_, hy, ?_⟩
  · unfold seqIndex?
    simp only [if_neg (show ¬ ((k : Int) < 0) by omega)]
    rw [if_pos (by simp; omega)]
    rfl
  have o2 := o1.chg (vs := us') ho k1 q3 q4 (das_erase k q5)
  refine ⟨Nat.zero_le _, fun l hl => ⟨by show 2 ≤ sizeLine; decide, fun q hq => ?_⟩⟩
  have o3 := o2.step (Post.new0 (o := .lst []) o2.pre hl)
  have o4 := o3.step (Post.new0 (o := .tup [y, .ref l]) o3.pre hq)
  have hlq : l ≠ q := fun z => by
    rw [← z, upd_same] at hq
    cases hq
  refine ⟨q, _, rfl, SqT.of upd_same, rfl, y, _, rfl, .ref l, _, rfl, rfl, ?_⟩
  have o5 := o4.setD i dy
  have h00 : H0 l = none := none_back o2.pre0.am o2.post.le o2.post.am hl
  refine e.nx _ _ F1 _ hn (o5.setN m (by rw [List.length_set, List.length_set]; exact hm) (by rw [upd_ne hlq]; exact upd_same) (pre_none o2.pre hl) h00 .nil fun r es nr hr z => ?_)
  obtain ⟨hr, n1⟩ := own_set (fun _ h => Ab.noConfusion h) hr
  rw [List.getElem?_set_ne (fun z => n1 z.symm)] at z
  obtain ⟨b, us, k1, k2, _⟩ := o2.ow r es hr
  rw [k1] at z
  cases z
  rw [hl] at k2
  cases k2
theorem nb_log4 {k : Nat} {i : Int} (h : Nb k i) : i.natAbs.log2 < 4 * k + 1 := by
  rcases Nat.eq_zero_or_pos i.natAbs with e | e
  · rw [e]
    show 0 < _
    omega
  · refine (Nat.log2_lt (by omega)).mpr (Nat.lt_of_lt_of_le h ?_)
    have : (10 : Nat) ^ k ≤ (2 ^ 4) ^ k := Nat.pow_le_pow_left (by decide) _
    rw [← Nat.pow_mul] at this
    exact Nat.le_trans this (Nat.pow_le_pow_right (by decide) (by omega))
theorem nb_cmX {k l : Nat} {i j : Int} (h : Nb k i) (h' : Nb l j) (hk : k + l ≤ 100000) : CM i j := .inr (by
  have a := nb_log4 h
  have b := nb_log4 h'
  show _ + _ < 1000000
  omega)
theorem ev_mulX {i j : Int} {k l : Nat} (ha : EvD A ta ρ (.int i)) (hb : EvD A tb ρ (.int j)) (h : Nb k i) (h' : Nb l j) (hk : k + l ≤ 100000) : EvD A (tOp rMul2 ta tb) ρ (.int (i * j)) := ev_mulI ha hb (nb_cmX h h' hk)
end
end Pu

/-! Lots of joints as tests, rods within them, free rods, full lots: they meet and join; the greatest full lots part the rods. -/
namespace Pu
def cT (n : Nat) (p : Nat → Bool) : Nat := ((List.range n).filter p).length
def inT (p : Nat → Bool) (r : Nat × Nat) : Bool := p r.1 && p r.2
def iT (rods : List (Nat × Nat)) (p : Nat → Bool) : Nat := (rods.filter (inT p)).length
def orT (p q : Nat → Bool) : Nat → Bool := fun j => p j || q j
def andT (p q : Nat → Bool) : Nat → Bool := fun j => p j && q j
theorem len_or {α : Type} (p q : α → Bool) : ∀ l : List α, (l.filter fun x => p x || q x).length + (l.filter fun x => p x && q x).length = (l.filter p).length + (l.filter q).length
  | [] => rfl
  | x :: l => by
    have ih := len_or p q l
    rw [List.filter_cons, List.filter_cons, List.filter_cons, List.filter_cons]
    cases p x <;> cases q x <;> simp <;> omega
theorem cT_or (n : Nat) (p q : Nat → Bool) : cT n (orT p q) + cT n (andT p q) = cT n p + cT n q := len_or p q _
theorem iT_or (p q : Nat → Bool) : ∀ rods : List (Nat × Nat), iT rods p + iT rods q ≤ iT rods (orT p q) + iT rods (andT p q)
  | [] => Nat.le_refl _
  | r :: rods => by
    have ih := iT_or p q rods
    unfold iT inT orT andT at ih ⊢
    rw [List.filter_cons, List.filter_cons, List.filter_cons, List.filter_cons]
    cases p r.1 <;> cases p r.2 <;> cases q r.1 <;> cases q r.2 <;> simp <;> omega
theorem cT_mono {n : Nat} {p q : Nat → Bool} (h : ∀ j, j < n → p j = true → q j = true) : cT n p ≤ cT n q := by
  unfold cT
  rw [show (List.range n).filter p = ((List.range n).filter q).filter p from ?_]
  · exact List.length_filter_le _ _
  · rw [List.filter_filter]
    refine List.filter_congr fun j hj => ?_
    have := h j (List.mem_range.mp hj)
    cases e : p j with
    | false => rfl
    | true => rw [this e]; rfl
/-- two joints that are not the same -/
theorem cT_two {n : Nat} {p : Nat → Bool} {a b : Nat} (ha : a < n) (hb : b < n) (hab : a ≠ b) (pa : p a = true) (pb : p b = true) : 2 ≤ cT n p := by
  have hs : ([a, b] : List Nat).Nodup := by simp [hab]
  have := hs.length_le_of_subset (l₂ := (List.range n).filter p) fun x hx => by
    simp only [List.mem_cons, List.not_mem_nil, or_false] at hx
    rcases hx with rfl | rfl
    · exact List.mem_filter.mpr ⟨List.mem_range.mpr ha, pa⟩
    · exact List.mem_filter.mpr ⟨List.mem_range.mpr hb, pb⟩
  exact this
theorem cT_one {n : Nat} {p : Nat → Bool} (h : 2 ≤ cT n p) : ∃ a b, a < b ∧ b < n ∧ p a = true ∧ p b = true := by
  unfold cT at h
  have hs : ((List.range n).filter p).Pairwise (· < ·) := List.Pairwise.filter p List.pairwise_lt_range
  generalize hl : (List.range n).filter p = l at h hs
  match l, h, hs with
  | a :: b :: t, _, hs =>
    have hab : a < b := (List.pairwise_cons.mp hs).1 b List.mem_cons_self
    have ha : a ∈ (List.range n).filter p := by rw [hl]; exact List.mem_cons_self
    have hb : b ∈ (List.range n).filter p := by rw [hl]; exact List.mem_cons_of_mem _ List.mem_cons_self
    exact ⟨a, b, hab, List.mem_range.mp (List.mem_filter.mp hb).1, (List.mem_filter.mp ha).2, (List.mem_filter.mp hb).2⟩
def FreeT (n : Nat) (rods : List (Nat × Nat)) : Prop := ∀ p, 2 ≤ cT n p → iT rods p + 3 ≤ 2 * cT n p
def FullT (n : Nat) (rods : List (Nat × Nat)) (p : Nat → Bool) : Prop := 2 ≤ cT n p ∧ iT rods p + 3 = 2 * cT n p
/-- full lots that share two joints meet and join -/
theorem FullT.both {n : Nat} {rods : List (Nat × Nat)} {p q : Nat → Bool} (hf : FreeT n rods) (hp : FullT n rods p) (hq : FullT n rods q) (h : 2 ≤ cT n (andT p q)) : FullT n rods (orT p q) ∧ FullT n rods (andT p q) := by
  have c := cT_or n p q
  have i := iT_or p q rods
  have h1 := hf _ h
  have h2 : cT n p ≤ cT n (orT p q) := cT_mono fun j _ e => by unfold orT; rw [e]; rfl
  have h3 := hp.1
  have h4 := hf (orT p q) (by omega)
  have h5 := hp.2
  have h6 := hq.2
  exact ⟨⟨by omega, by omega⟩, h, by omega⟩
/-- what is counted twice over -/
theorem sum_in (G : List (Nat → Bool)) : ∀ rods : List (Nat × Nat), (G.map fun p => iT rods p).sum = (rods.map fun r => (G.filter fun p => inT p r).length).sum
  | [] => by
    have : (G.map fun p => iT [] p) = G.map fun _ => 0 := rfl
    rw [this]
    induction G with
    | nil => rfl
    | cons _ _ ih => rw [List.map_cons, List.sum_cons, ih rfl]; rfl
  | r :: rods => by
    rw [List.map_cons, List.sum_cons, ← sum_in G rods]
    clear sum_in
    induction G with
    | nil => rfl
    | cons p G ih =>
      rw [List.map_cons, List.sum_cons, List.map_cons, List.sum_cons, ih, List.filter_cons]
      have e : iT (r :: rods) p = (if inT p r = true then 1 else 0) + iT rods p := by
        unfold iT
        rw [List.filter_cons]
        split
        · rw [List.length_cons]; omega
        · omega
      rw [e]
      split
      · rw [List.length_cons]; omega
      · omega
/-- lots each two of which share one joint at most, with each rod in one -/
theorem sum_full {n : Nat} {rods : List (Nat × Nat)} (hr : ∀ r ∈ rods, r.1 < r.2 ∧ r.2 < n) (G : List (Nat → Bool)) (hG : ∀ p ∈ G, FullT n rods p) (hs : G.Pairwise fun p q => cT n (andT p q) ≤ 1) (hc : ∀ r ∈ rods, ∃ p ∈ G, inT p r = true) : (G.map fun p => 2 * cT n p - 3).sum = rods.length := by
  have e1 : (G.map fun p => 2 * cT n p - 3) = G.map fun p => iT rods p := List.map_congr_left fun p hp => by
    have := (hG p hp).2
    omega
  rw [e1, sum_in]
  have e2 : (rods.map fun r => (G.filter fun p => inT p r).length) = rods.map fun _ => 1 := List.map_congr_left fun r hrm => by
    obtain ⟨h1, h2⟩ := hr r hrm
    obtain ⟨p, hp, hpr⟩ := hc r hrm
    have hm : p ∈ G.filter fun p => inT p r := List.mem_filter.mpr ⟨hp, hpr⟩
    have hpw : (G.filter fun p => inT p r).Pairwise fun p q => cT n (andT p q) ≤ 1 := hs.filter _
    have hall : ∀ q ∈ G.filter fun p => inT p r, inT q r = true := fun q hq => (List.mem_filter.mp hq).2
    generalize (G.filter fun p => inT p r) = L at hm hpw hall
    match L, hm, hpw, hall with
    | [x], _, _, _ => rfl
    | x :: y :: t, _, hpw, hall =>
      have h3 := (List.pairwise_cons.mp hpw).1 y List.mem_cons_self
      have hx := hall x List.mem_cons_self
      have hy := hall y (List.mem_cons_of_mem _ List.mem_cons_self)
      unfold inT at hx hy
      rw [Bool.and_eq_true] at hx hy
      have := cT_two (p := andT x y) (show r.1 < n by omega) h2 (by omega) (by unfold andT; rw [hx.1, hy.1]; rfl) (by unfold andT; rw [hx.2, hy.2]; rfl)
      omega
  rw [e2]
  clear e1 e2 hc hG hr
  induction rods with
  | nil => rfl
  | cons _ _ ih =>
    rw [List.map_cons, List.sum_cons, ih, List.length_cons]
    omega
/-- one rod more keeps rods free just if it lies in no full lot -/
theorem FreeT.more {n : Nat} {rods : List (Nat × Nat)} {r : Nat × Nat} (hf : FreeT n rods) (h : ∀ p, inT p r = true → ¬ FullT n rods p) : FreeT n (rods ++ [r]) := fun p hp => by
  have h1 := hf p hp
  have e : iT (rods ++ [r]) p = iT rods p + (if inT p r = true then 1 else 0) := by
    unfold iT
    rw [List.filter_append, List.length_append, List.filter_cons, List.filter_nil]
    split <;> rfl
  rw [e]
  split
  · rename_i hr
    have : ¬ (iT rods p + 3 = 2 * cT n p) := fun z => h p hr ⟨hp, z⟩
    omega
  · omega
theorem FreeT.nil {n : Nat} : FreeT n [] := fun p hp => by
  show 0 + 3 ≤ _
  omega
/-- a rod of its own is a full lot -/
def twoT (r : Nat × Nat) : Nat → Bool := fun j => decide (j = r.1) || decide (j = r.2)
theorem cT_twoT {n : Nat} {r : Nat × Nat} (h : r.1 < r.2 ∧ r.2 < n) : cT n (twoT r) = 2 := by
  have h2 := cT_two (p := twoT r) (n := n) (a := r.1) (b := r.2) (by omega) h.2 (by omega) (by simp [twoT]) (by simp [twoT])
  have hs : ((List.range n).filter (twoT r)).Nodup := List.Pairwise.filter _ List.nodup_range
  have := hs.length_le_of_subset (l₂ := [r.1, r.2]) fun x hx => by
    have := (List.mem_filter.mp hx).2
    unfold twoT at this
    simpa using this
  unfold cT at *
  simp only [List.length_cons, List.length_nil] at this
  omega
theorem full_rod {n : Nat} {rods : List (Nat × Nat)} (hf : FreeT n rods) {r : Nat × Nat} (hr : r ∈ rods) (h : r.1 < r.2 ∧ r.2 < n) : FullT n rods (twoT r) := by
  have h2 := cT_twoT h
  have h1 := hf (twoT r) (by omega)
  have : 1 ≤ iT rods (twoT r) := List.length_pos_of_mem (List.mem_filter.mpr ⟨hr, by simp [inT, twoT]⟩)
  exact ⟨by omega, by omega⟩
/-- lots are joined as long as two of them share two joints -/
theorem joinT {n : Nat} {rods : List (Nat × Nat)} (hf : FreeT n rods) : ∀ (m : Nat) (G : List (Nat → Bool)) (p : Nat → Bool), G.length ≤ m → (∀ q ∈ G, FullT n rods q) → G.Pairwise (fun p q => cT n (andT p q) ≤ 1) → FullT n rods p →
    ∃ G' : List (Nat → Bool), (∀ q ∈ G', FullT n rods q) ∧ G'.Pairwise (fun p q => cT n (andT p q) ≤ 1) ∧ ∀ q, (q = p ∨ q ∈ G) → ∃ t ∈ G', ∀ j, q j = true → t j = true
  | m, G, p, hm, hG, hs, hp => by
    by_cases h : ∀ q ∈ G, cT n (andT p q) ≤ 1
    · exact ⟨p :: G, fun q hq => by
        rcases List.mem_cons.mp hq with rfl | hq
        · exact hp
        · exact hG q hq, List.pairwise_cons.mpr ⟨h, hs⟩, fun q hq => ⟨q, by
        rcases hq with rfl | hq
        · exact List.mem_cons_self
        · exact List.mem_cons_of_mem _ hq, fun _ e => e⟩⟩
    · obtain ⟨q, hq, hne⟩ : ∃ q ∈ G, ¬ cT n (andT p q) ≤ 1 := Classical.byContradiction fun z => h fun q hq => Classical.byContradiction fun y => z ⟨q, hq, y⟩
      obtain ⟨L, R, rfl⟩ := List.append_of_mem hq
      have hlen : (L ++ R).length < (L ++ q :: R).length := by
        rw [List.length_append, List.length_append, List.length_cons]
        omega
      have hsub : ∀ x ∈ L ++ R, x ∈ L ++ q :: R := fun x hx => by
        rcases List.mem_append.mp hx with hx | hx
        · exact List.mem_append_left _ hx
        · exact List.mem_append_right _ (List.mem_cons_of_mem _ hx)
      have hsl : (L ++ R).Sublist (L ++ q :: R) := List.Sublist.append (List.Sublist.refl _) (List.sublist_cons_self ..)
      match m, hm with
      | 0, hm => exact absurd hm (by omega)
      | m + 1, hm =>
        obtain ⟨G', h1, h2, h3⟩ := joinT hf m (L ++ R) (orT p q) (by omega) (fun x hx => hG x (hsub x hx)) (hs.sublist hsl) (FullT.both hf hp (hG q hq) (by omega)).1
        refine ⟨G', h1, h2, fun x hx => ?_⟩
        have ho := h3 (orT p q) (.inl rfl)
        have hp' : ∃ t ∈ G', ∀ j, p j = true → t j = true := by
          obtain ⟨t, ht, hj⟩ := ho
          exact ⟨t, ht, fun j e => hj j (by unfold orT; rw [e]; rfl)⟩
        have hq' : ∃ t ∈ G', ∀ j, q j = true → t j = true := by
          obtain ⟨t, ht, hj⟩ := ho
          exact ⟨t, ht, fun j e => hj j (by unfold orT; rw [e, Bool.or_true])⟩
        rcases hx with rfl | hx
        · exact hp'
        · rcases List.mem_append.mp hx with hx | hx
          · exact h3 x (.inr (List.mem_append_left _ hx))
          · rcases List.mem_cons.mp hx with rfl | hx
            · exact hq'
            · exact h3 x (.inr (List.mem_append_right _ hx))
theorem joinsT {n : Nat} {rods : List (Nat × Nat)} (hf : FreeT n rods) : ∀ L : List (Nat → Bool), (∀ q ∈ L, FullT n rods q) → ∃ G : List (Nat → Bool), (∀ q ∈ G, FullT n rods q) ∧ G.Pairwise (fun p q => cT n (andT p q) ≤ 1) ∧ ∀ q ∈ L, ∃ t ∈ G, ∀ j, q j = true → t j = true
  | [], _ => ⟨[], (fun _ h => by cases h), .nil, (fun _ h => by cases h)⟩
  | p :: L, h => by
    obtain ⟨G, h1, h2, h3⟩ := joinsT hf L fun q hq => h q (List.mem_cons_of_mem _ hq)
    obtain ⟨G', k1, k2, k3⟩ := joinT hf G.length G p (Nat.le_refl _) h1 h2 (h p List.mem_cons_self)
    refine ⟨G', k1, k2, fun q hq => ?_⟩
    rcases List.mem_cons.mp hq with rfl | hq
    · exact k3 q (.inl rfl)
    · obtain ⟨t, ht, hj⟩ := h3 q hq
      obtain ⟨u, hu, hk⟩ := k3 t (.inr ht)
      exact ⟨u, hu, fun j e => hk j (hj j e)⟩
theorem sum_ge_len {α : Type} (f : α → Nat) : ∀ l : List α, (∀ x ∈ l, 1 ≤ f x) → l.length ≤ (l.map f).sum
  | [], _ => Nat.le_refl _
  | x :: l, h => by
    have h1 := h x List.mem_cons_self
    have h2 := sum_ge_len f l fun y hy => h y (List.mem_cons_of_mem _ hy)
    rw [List.map_cons, List.sum_cons, List.length_cons]
    omega
theorem sum_le_sum {α : Type} (f g : α → Nat) : ∀ l : List α, (∀ x ∈ l, f x ≤ g x) → (l.map f).sum ≤ (l.map g).sum
  | [], _ => Nat.le_refl _
  | x :: l, h => by
    have h1 := h x List.mem_cons_self
    have h2 := sum_le_sum f g l fun y hy => h y (List.mem_cons_of_mem _ hy)
    rw [List.map_cons, List.map_cons, List.sum_cons, List.sum_cons]
    omega
/-- no free rods are more than free ones to which none can be put -/
theorem free_most {n : Nat} {I J : List (Nat × Nat)} (hI : FreeT n I) (hJ : FreeT n J) (hi : ∀ r ∈ I, r.1 < r.2 ∧ r.2 < n) (h : ∀ r ∈ J, r ∈ I ∧ (r.1 < r.2 ∧ r.2 < n) ∨ ¬ FreeT n (I ++ [r])) : J.length ≤ I.length := by
  have hlot : ∀ r ∈ J, ∃ p, FullT n I p ∧ inT p r = true := fun r hr => by
    rcases h r hr with ⟨hm, hb⟩ | hn
    · exact ⟨twoT r, full_rod hI hm hb, by simp [inT, twoT]⟩
    · exact Classical.byContradiction fun z => hn (hI.more fun p hp hf => z ⟨p, hf, hp⟩)
  have hlotI : ∀ r ∈ I, ∃ p, FullT n I p ∧ inT p r = true := fun r hr => ⟨twoT r, full_rod hI hr (hi r hr), by simp [inT, twoT]⟩
  obtain ⟨L, hL, hc⟩ : ∃ L : List (Nat → Bool), (∀ q ∈ L, FullT n I q) ∧ ∀ r ∈ I ++ J, ∃ p ∈ L, inT p r = true := by
    have : ∀ l : List (Nat × Nat), (∀ r ∈ l, ∃ p, FullT n I p ∧ inT p r = true) → ∃ L : List (Nat → Bool), (∀ q ∈ L, FullT n I q) ∧ ∀ r ∈ l, ∃ p ∈ L, inT p r = true := by
      intro l
      induction l with
      | nil => exact fun _ => ⟨[], (fun _ h => by cases h), (fun _ h => by cases h)⟩
      | cons r l ih =>
        intro hl
        obtain ⟨L, h1, h2⟩ := ih fun x hx => hl x (List.mem_cons_of_mem _ hx)
        obtain ⟨p, hp, hpr⟩ := hl r List.mem_cons_self
        refine ⟨p :: L, fun q hq => ?_, fun x hx => ?_⟩
        · rcases List.mem_cons.mp hq with rfl | hq
          · exact hp
          · exact h1 q hq
        · rcases List.mem_cons.mp hx with rfl | hx
          · exact ⟨p, List.mem_cons_self, hpr⟩
          · obtain ⟨q, hq, e⟩ := h2 x hx
            exact ⟨q, List.mem_cons_of_mem _ hq, e⟩
    refine this (I ++ J) fun r hr => ?_
    rcases List.mem_append.mp hr with hr | hr
    · exact hlotI r hr
    · exact hlot r hr
  obtain ⟨G, g1, g2, g3⟩ := joinsT hI L hL
  have hG : ∀ r ∈ I ++ J, ∃ p ∈ G, inT p r = true := fun r hr => by
    obtain ⟨p, hp, e⟩ := hc r hr
    obtain ⟨t, ht, hj⟩ := g3 p hp
    unfold inT at e ⊢
    rw [Bool.and_eq_true] at e
    exact ⟨t, ht, by rw [hj _ e.1, hj _ e.2]; rfl⟩
  have s1 := sum_full hi G g1 g2 fun r hr => hG r (List.mem_append_left _ hr)
  have s2 : J.length ≤ (J.map fun r => (G.filter fun p => inT p r).length).sum := sum_ge_len _ _ fun r hr => by
    obtain ⟨p, hp, e⟩ := hG r (List.mem_append_right _ hr)
    exact List.length_pos_of_mem (List.mem_filter.mpr ⟨hp, e⟩)
  rw [← sum_in] at s2
  have s3 := sum_le_sum (fun p => iT J p) (fun p => 2 * cT n p - 3) G fun p hp => by
    have := hJ p (g1 p hp).1
    omega
  omega
end Pu

/-! Pinned rods are loose just if they are free with a body of the pins. -/
namespace Pu
def notT (p : Nat → Bool) : Nat → Bool := fun j => !p j
theorem len_split {α : Type} (p q : α → Bool) : ∀ l : List α, (l.filter fun x => p x && q x).length + (l.filter fun x => p x && !q x).length = (l.filter p).length
  | [] => rfl
  | x :: l => by
    have ih := len_split p q l
    rw [List.filter_cons, List.filter_cons, List.filter_cons]
    cases p x <;> cases q x <;> simp <;> omega
theorem cT_split (n : Nat) (p q : Nat → Bool) : cT n (andT p q) + cT n (andT p (notT q)) = cT n p := len_split p q _
theorem cT_list {n : Nat} {p : Nat → Bool} {l : List Nat} (hn : l.Nodup) (hl : ∀ j ∈ l, j < n) : cT n (andT p fun j => decide (j ∈ l)) = (l.filter p).length := by
  unfold cT
  refine List.Perm.length_eq ((List.perm_ext_iff_of_nodup (List.Pairwise.filter _ List.nodup_range) (List.Pairwise.filter _ hn)).mpr fun j => ?_)
  rw [List.mem_filter, List.mem_filter, List.mem_range]
  unfold andT
  rw [Bool.and_eq_true, decide_eq_true_eq]
  exact ⟨fun h => ⟨h.2.2, h.2.1⟩, fun h => ⟨hl j h.1, h.2, h.1⟩⟩
def bodyT (a b : Nat) (ls : List Nat) : List (Nat × Nat) := (a, b) :: ls.flatMap fun l => [(a, l), (b, l)]
theorem iT_app (xs ys : List (Nat × Nat)) (p : Nat → Bool) : iT (xs ++ ys) p = iT xs p + iT ys p := by
  unfold iT
  rw [List.filter_append, List.length_append]
def b1 (b : Bool) : Nat := if b = true then 1 else 0
theorem iT_cons (r : Nat × Nat) (ys : List (Nat × Nat)) (p : Nat → Bool) : iT (r :: ys) p = b1 (inT p r) + iT ys p := by
  unfold iT b1
  rw [List.filter_cons]
  split
  · rw [List.length_cons]; omega
  · omega
theorem iT_late (a b : Nat) (p : Nat → Bool) : ∀ ls : List Nat, iT (ls.flatMap fun l => [(a, l), (b, l)]) p = (b1 (p a) + b1 (p b)) * (ls.filter p).length
  | [] => by
    show 0 = _ * 0
    omega
  | l :: ls => by
    rw [List.flatMap_cons, iT_app, iT_late a b p ls, iT_cons, iT_cons, List.filter_cons]
    have e0 : iT [] p = 0 := rfl
    rw [e0]
    unfold inT
    cases p a <;> cases p b <;> cases p l <;> simp [b1] <;> omega
theorem iT_body (a b : Nat) (ls : List Nat) (p : Nat → Bool) : iT (bodyT a b ls) p = b1 (p a && p b) + (b1 (p a) + b1 (p b)) * (ls.filter p).length := by
  unfold bodyT
  rw [iT_cons, iT_late]
  rfl
theorem few_cons (a b : Nat) (ls : List Nat) (p : Nat → Bool) : ((a :: b :: ls).filter p).length = b1 (p a) + b1 (p b) + (ls.filter p).length := by
  rw [List.filter_cons, List.filter_cons]
  cases p a <;> cases p b <;> simp [b1] <;> omega
/-- how many rods a lot may have, with so many pins and so many others -/
def roomT (few many : Nat) : Nat := if 1 < few then 2 * many else if few = 1 then 2 * many - 1 else 2 * many - 3
def LooseT (n : Nat) (pins : List Nat) (rods : List (Nat × Nat)) : Prop := ∀ p, 1 ≤ cT n (andT p (notT fun j => decide (j ∈ pins))) → iT rods p ≤ roomT (cT n (andT p fun j => decide (j ∈ pins))) (cT n (andT p (notT fun j => decide (j ∈ pins))))
theorem iT_mono {rods : List (Nat × Nat)} {p q : Nat → Bool} (h : ∀ r ∈ rods, inT p r = true → inT q r = true) : iT rods p ≤ iT rods q := by
  unfold iT
  rw [show rods.filter (inT p) = (rods.filter (inT q)).filter (inT p) from ?_]
  · exact List.length_filter_le _ _
  · rw [List.filter_filter]
    refine List.filter_congr fun r hr => ?_
    have := h r hr
    cases e : inT p r with
    | false => rfl
    | true => rw [this e]; rfl
theorem iT_zero {rods : List (Nat × Nat)} {p : Nat → Bool} (h : ∀ r ∈ rods, inT p r = false) : iT rods p = 0 := by
  unfold iT
  rw [List.filter_eq_nil_iff.mpr fun r hr => by rw [h r hr]; decide]
  rfl
theorem loose_free {n a b : Nat} {ls : List Nat} {rods : List (Nat × Nat)} (hn : (a :: b :: ls).Nodup) (hl : ∀ j ∈ a :: b :: ls, j < n) (hr : ∀ r ∈ rods, r.1 < r.2 ∧ r.2 < n ∧ ¬ (r.1 ∈ a :: b :: ls ∧ r.2 ∈ a :: b :: ls)) : LooseT n (a :: b :: ls) rods ↔ FreeT n (rods ++ bodyT a b ls) := by
  have hfew := fun p => cT_list (p := p) hn hl
  have hsum := fun p => cT_split n p fun j => decide (j ∈ a :: b :: ls)
  constructor
  · intro h p hp
    have e1 := hfew p
    have e2 := hsum p
    have hL := h p
    rw [few_cons] at e1
    rw [iT_app, iT_body]
    generalize cT n (andT p fun j => decide (j ∈ a :: b :: ls)) = few at *
    generalize hm : cT n (andT p (notT fun j => decide (j ∈ a :: b :: ls))) = many at *
    by_cases m0 : many = 0
    · have hz : iT rods p = 0 := iT_zero fun r hrm => by
        obtain ⟨r1, r2, r3⟩ := hr r hrm
        cases e : inT p r with
        | false => rfl
        | true =>
          unfold inT at e
          rw [Bool.and_eq_true] at e
          have key : ∀ j, j < n → p j = true → j ∈ a :: b :: ls := fun j hj pj => Classical.byContradiction fun z => by
            have : j ∈ (List.range n).filter (andT p (notT fun j => decide (j ∈ a :: b :: ls))) := List.mem_filter.mpr ⟨List.mem_range.mpr hj, by unfold andT notT; rw [pj]; simp only [Bool.true_and, Bool.not_eq_true', decide_eq_false_iff_not]; exact z⟩
            have hlen := List.length_pos_of_mem this
            unfold cT at hm
            omega
          exact absurd ⟨key _ (by omega) e.1, key _ r2 e.2⟩ r3
      rw [hz]
      clear hL hfew hsum
      generalize (ls.filter p).length = s at e1 ⊢
      generalize p a = pa at e1 ⊢
      generalize p b = pb at e1 ⊢
      cases pa <;> cases pb <;> simp [b1] at e1 ⊢ <;> omega
    · have hL := hL (by omega)
      unfold roomT at hL
      clear hfew hsum
      generalize (ls.filter p).length = s at e1 ⊢
      generalize p a = pa at e1 ⊢
      generalize p b = pb at e1 ⊢
      cases pa <;> cases pb <;> simp [b1] at e1 ⊢ <;> split at hL <;> (try split at hL) <;> omega
  · intro h p hm
    have e1 := hfew p
    have e2 := hsum p
    generalize hF : cT n (andT p fun j => decide (j ∈ a :: b :: ls)) = few at *
    generalize hM : cT n (andT p (notT fun j => decide (j ∈ a :: b :: ls))) = many at *
    by_cases f2 : 1 < few
    · let q : Nat → Bool := orT p fun j => decide (j ∈ a :: b :: ls)
      have q1 : ∀ j ∈ a :: b :: ls, q j = true := fun j hj => by
        show (p j || decide (j ∈ a :: b :: ls)) = true
        rw [decide_eq_true hj, Bool.or_true]
      have qm : cT n (andT q (notT fun j => decide (j ∈ a :: b :: ls))) = many := by
        rw [← hM]
        unfold cT
        congr 1
        refine List.filter_congr fun j _ => ?_
        show ((p j || decide (j ∈ a :: b :: ls)) && !decide (j ∈ a :: b :: ls)) = (p j && !decide (j ∈ a :: b :: ls))
        cases p j <;> cases decide (j ∈ a :: b :: ls) <;> rfl
      have e3 := hfew q
      have e4 := hsum q
      rw [qm] at e4
      have ef : ls.filter q = ls := List.filter_eq_self.mpr fun j hj => q1 j (List.mem_cons_of_mem _ (List.mem_cons_of_mem _ hj))
      rw [few_cons, ef, q1 a List.mem_cons_self, q1 b (List.mem_cons_of_mem _ List.mem_cons_self)] at e3
      generalize cT n (andT q fun j => decide (j ∈ a :: b :: ls)) = fq at e3 e4
      have e3 : fq = 1 + 1 + ls.length := e3
      have hf := h q (by omega)
      rw [iT_app, iT_body, ef, q1 a List.mem_cons_self, q1 b (List.mem_cons_of_mem _ List.mem_cons_self)] at hf
      have hmono : iT rods p ≤ iT rods q := iT_mono fun r _ e => by
        unfold inT at e ⊢
        rw [Bool.and_eq_true] at e
        show (q r.1 && q r.2) = true
        have g : ∀ j, p j = true → q j = true := fun j e => by
          show (p j || _) = true
          rw [e]; rfl
        rw [g _ e.1, g _ e.2]; rfl
      unfold roomT
      rw [if_pos f2]
      have hf : iT rods q + (1 + (1 + 1) * ls.length) + 3 ≤ 2 * cT n q := hf
      omega
    · by_cases c2 : 2 ≤ cT n p
      · have hf := h p c2
        rw [iT_app] at hf
        unfold roomT
        rw [if_neg f2]
        split <;> omega
      · have hz : iT rods p = 0 := iT_zero fun r hrm => by
          obtain ⟨r1, r2, r3⟩ := hr r hrm
          cases e : inT p r with
          | false => rfl
          | true =>
            unfold inT at e
            rw [Bool.and_eq_true] at e
            exact absurd (cT_two (show r.1 < n by omega) r2 (by omega) e.1 e.2) c2
        rw [hz]
        exact Nat.zero_le _
end Pu

/-! sorted of a dict with tuple keys. -/
namespace Pu
open PySem PySem.Spec PyProof.Rows L2 PySem.W
def rSortDT (K : PySem.W.Frag) : List V → Hp → VK → Prop := fun vs H Q => ∃ (d : Addr) (kvs : List (List Key × V)), vs = [V.ref d] ∧ H d = some (.dT kvs) ∧ AllAlike (kvs.map fun p => keyD p.1) ∧ PySem.W.Sortable (kvs.map fun p => keyD p.1) ∧
  ∀ p bs, IsKeys H kvs bs → H p = none → Q (.ref p) (upd H p (.lst (sortV (bs.map V.ref) (kvs.map fun p => keyD p.1))))
theorem keyD_depth (ks : List Key) : (keyD ks).depth ≤ 1 := by
  have : ∀ l : List Key, PyData.depthAll (l.map kD) = 0 := by
    intro l
    induction l with
    | nil => simp [PyData.depthAll]
    | cons a b ih => cases a <;> simp [PyData.depthAll, PyData.depth, kD, ih]
  rw [keyD_eq]
  simp only [PyData.depth, this]
  decide
mutual
theorem reads_nil {h : Heap} : ∀ (d : PyData) (u : Value) (as : List Addr), noL d = true → Reads h u d as → as = []
  | .none, _, _, _, r => by cases r; rfl
  | .bool _, _, _, _, r => by cases r; rfl
  | .int _, _, _, _, r => by cases r; rfl
  | .str _, _, _, _, r => by cases r; rfl
  | .list _, _, _, n, _ => by simp [noL] at n
  | .dict _, _, _, n, _ => by simp [noL] at n
  | .tuple ds, _, _, n, r => by
    cases r with
    | tuple h1 h2 h3 h4 => exact reads_nils ds _ _ (by simpa [noL] using n) h4
theorem reads_nils {h : Heap} : ∀ (ds : List PyData) (us : List Value) (as : List Addr), noLs ds = true → ReadsAll h us ds as → as = []
  | [], _, _, _, r => by cases r; rfl
  | d :: ds, _, _, n, r => by
    simp only [noLs, Bool.and_eq_true] at n
    cases r with
    | cons h1 h2 => rw [reads_nil d _ _ n.1 h1, reads_nils ds _ _ n.2 h2]; rfl
end
theorem each_relN {K : PySem.W.Frag} {H : Hp} {R : Value → V → PyData → Prop} (hR : ∀ x d u, Dp K H x d → noL d = true → RelV x u → R u x d) : ∀ {xs : List V} {ds : List PyData} {us : List Value}, noLs ds = true → DpAll K H xs ds → Vals xs us → EachIs (fun u (b : V × PyData) => R u b.1 b.2) us (xs.zip ds)
  | _, _, _, _, .nil, .nil => .nil
  | _, _, _, n, .cons hd h, .cons hr r => by
    simp only [noLs, Bool.and_eq_true] at n
    exact .cons (hR _ _ _ hd n.1 hr) (each_relN hR n.2 h r)
theorem noLs_keys : ∀ kvs : List (List Key × V), noLs (kvs.map fun p => keyD p.1) = true
  | [] => rfl
  | p :: kvs => by
    have : ∀ l : List Key, noLs (l.map kD) = true := by
      intro l
      induction l with
      | nil => rfl
      | cons a b ih => cases a <;> simp [noLs, noL, kD, ih]
    rw [List.map_cons, keyD_eq]
    simp only [noLs, noL, this, noLs_keys kvs, Bool.and_self]
theorem das_keys {H : Hp} {kvs : List (List Key × V)} {bs : List Addr} (h : IsKeys H kvs bs) : Das H (kvs.map fun p => keyD p.1) (bs.map V.ref) := by
  unfold IsKeys at h
  induction h with
  | nil => exact .nil
  | @cons p b ps qs hb t ih =>
    refine Das.cons ?_ ih
    unfold keyD
    refine da_tup.mpr ⟨b, _, rfl, hb, ?_⟩
    clear ih t hb
    induction p.1 with
    | nil => exact .nil
    | cons k l ih =>
      refine Das.cons ?_ ih
      cases k with
      | inl i => exact da_int.mpr rfl
      | inr x => exact da_str.mpr rfl
theorem noDs_keys : ∀ kvs : List (List Key × V), noDs (kvs.map fun p => keyD p.1) = true
  | [] => rfl
  | p :: kvs => by
    have : ∀ l : List Key, noDs (l.map kD) = true := by
      intro l
      induction l with
      | nil => rfl
      | cons a b ih => cases a <;> simp [noDs, noD, kD, ih]
    rw [List.map_cons, keyD_eq]
    simp only [noDs, noD, this, noDs_keys kvs, Bool.and_self]
theorem cr_sortDT {X : Cx} (K : PySem.W.Frag) (hu : X.A.units + 70 < cLine) (hc : X.calm = true := by rfl) (hK : X.K = K := by rfl) : CallR X (.builtin "sorted") (rSortDT K) := by
  subst hK
  intro pins s σ H vs us Q I r h
  obtain ⟨d, kvs, rfl, hd, hal, hk, q⟩ := h
  obtain ⟨u, rfl, rx⟩ := vals1 r
  obtain rfl : u = Value.ref d := rx
  obtain ⟨z, hs, ks, pr, o, es, ep, ho, hx, hdt, he, hn⟩ := (show ObjOk X.prog X.w H s.heap d (.dT kvs) from I.hok d _ hd)
  have l1 : es.size = ks.length := size_of_entries he
  have l2 : kvs.length = ks.length := Paired.length pr
  refine Calls.call_function_entry PyProof.Rows.kind_sorted PyProof.Rows.plain_sorted PyProof.Rows.entry_sorted (PyProof.Rows.args_sorted1 _) ?_
  unfold Builtin.«sorted»
  refine wpAny_bind (m := checkCount "sorted" 1 1 _) (wpAny_pure ?_)
  refine wpAny_bind (PySem.W.kdu_collect (A := X.A.in1) (kdl_raw hs hx hdt) (I.ok.hd hc) ho (by omega) fun h' tk acc hk' it => ?_)
  have ea : acc.toList = ks.map fun x => Value.ref x.2.1 := by
    have hl : acc.toList.length = ks.length := by rw [Array.length_toList, it.1]; exact l1
    apply List.ext_getElem?
    intro j
    rw [List.getElem?_map]
    cases hj : acc.toList[j]? with
    | none =>
      have h1 := List.getElem?_eq_none_iff.mp hj
      rw [List.getElem?_eq_none (by omega)]
      all_goals rfl
    | some v =>
      obtain ⟨en, hen, hv⟩ := it.2 j v (by rw [← Array.getElem?_toList]; exact hj)
      have qe := entry_at he j
      rw [hen] at qe
      cases hb : ks[j]? with
      | none =>
        rw [hb] at qe
        exact nomatch (show some en = none from qe)
      | some b =>
        rw [hb] at qe
        have e2 : en = entryOfKey (tupleKind (mixKind X.prog X.w)) b := Option.some.inj qe
        rw [hv, e2]
        all_goals rfl
  have eb : acc.toList = (ks.map fun x => x.2.1).map Value.ref := by rw [ea, List.map_map]; all_goals rfl
  have hik : IsKeys H kvs (ks.map fun x => x.2.1) := isKeys_of pr
  have I1 : Inv X pins σ H { s with heap := h', toks := tk } := I.kept hk'
  have hal2 : acc.toList.length = ks.length := by rw [ea, List.length_map]
  refine wpAny_bind (wpAny_newList ?_ (by omega))
  have hoL : (h'.push (seqObj "list" acc.toList.toArray 0)).get? h'.objs.size = some (seqObj "list" acc.toList.toArray 0) := Heap.get?_push_size _ rfl
  have hnL : H h'.objs.size = none := I1.hok.fresh (Nat.le_refl _)
  have I2 : Inv X pins σ H { s with heap := h'.push (seqObj "list" acc.toList.toArray 0), toks := tk } := I1.kept fun b u e => Heap.get?_push_of_some _ e
  show wpAny _ _ _ _ _ { s with heap := h'.push (seqObj "list" acc.toList.toArray 0), toks := tk }
  generalize hxs : (ks.map fun x => x.2.1).map V.ref = xs
  generalize hds : kvs.map (fun p => keyD p.1) = ds at hal hk
  have rv : Vals xs acc.toList := by rw [eb, ← hxs]; exact vals_refs _
  have hdas : Das H ds xs := by rw [← hds, ← hxs]; exact das_keys hik
  have hdp : DpAll X.K H xs ds := Das.dp (fun _ _ e => e) ds xs (by rw [← hds]; exact noDs_keys kvs) hdas
  have hlen := dpAll_len hdp
  have em : (xs.zip ds).map (fun b => b.2) = ds := zip_snd hlen
  have hxl : xs.length = ks.length := by rw [← hxs, List.length_map, List.length_map]
  refine wpAny_bind (wpAny_holding (list_sort_data (A := X.A.in1) (s := { s with heap := h'.push (seqObj "list" acc.toList.toArray 0), toks := tk }) (bs := xs.zip ds) (enc := fun b => b.2) (R := fun u b => RelV b.1 u) hoL (each_rel (R := fun u x d => RelV x u) (fun _ _ _ _ h => h) hdp rv)
    (each_relN (R := fun u x d => ∃ as, Reads (h'.push (seqObj "list" acc.toList.toArray 0)) u d as ∧ h'.objs.size ∉ as) (fun x d u hx hn hr => ?_) (by rw [← hds]; exact noLs_keys kvs) hdp rv) (by rw [em]; exact hal) (by rw [em]; exact hk) ?_ (fun b hb => ?_) (fun out ho he => ?_)))
  · obtain ⟨as, hr2⟩ := Dp.reads I2 d x u hx hr
    have e := reads_nil d u as hn hr2
    subst e
    exact ⟨[], hr2, by simp⟩
  · rw [List.length_zip]
    omega
  · have hm : b.2 ∈ ds := by
      have := List.mem_map_of_mem (f := fun b : V × PyData => b.2) hb
      rw [em] at this
      exact this
    rw [← hds] at hm
    obtain ⟨p, _, e⟩ := List.mem_map.mp hm
    have := keyD_depth p.1
    rw [← e]
    show X.A.in1.units + 1 + _ < _
    have hin : X.A.in1.units = X.A.units + 1 := rfl
    omega
  · obtain ⟨c, hcL⟩ := PyProof.Rows.sortedHeap_at (vs := acc.toList) (out := out.toArray) hoL
    refine wpAny_pure ⟨_, rfl, .ref h'.objs.size, upd H h'.objs.size (.lst (sortV xs ds)), I1.laid (t' := tk) (fun b u e => ?_) (Nat.le_refl _) (show ObjOk X.prog X.w _ _ _ (.lst (sortV xs ds)) from ⟨?_, out, c, each_vals he, hcL⟩), rfl, ?_⟩
    · have hb : b < h'.objs.size := Heap.lt_size e
      rw [PyProof.Rows.sortedHeap_old (Nat.ne_of_lt hb) (by rw [size_push']; exact Nat.lt_succ_of_lt hb)]
      exact Heap.get?_push_of_some _ e
    · show ((List.mergeSort _ _).map _).length ≤ _
      rw [List.length_map, List.length_mergeSort, List.length_zip]
      omega
    · have := q h'.objs.size _ hik hnL
      rw [hxs, hds] at this
      exact this
/-- dict(ps), a key may come again -/
def mergeT (kvs : List (List Key × V)) : List (List Key × V) := kvs.foldl (fun acc p => putK acc p.1 p.2) []
theorem kt_merge {H : Hp} {kvs : List (List Key × V)} (ps : List (List Key × Addr × Value)) {acc : List (List Key × V)} (xs : List (List Key × Addr × Value)) (ha : KT H acc xs) (h : KT H kvs ps) : KT H (kvs.foldl (fun acc p => putK acc p.1 p.2) acc) (storedAllH xs ps) := by
  induction h generalizing acc xs with
  | nil => exact ha
  | @cons p q ps qs h t ih =>
    have h1 := h.1
    have := KT.put ha p.1 h.2.1 h.2.2
    have e : storedH xs p.1 q.2.1 q.2.2 = storedH xs q.1 q.2.1 q.2.2 := by rw [h1]
    rw [e] at this
    exact ih _ this
def rDictU (K : PySem.W.Frag) : List V → Hp → VK → Prop := fun xs H Q => ∃ (a : Addr) (ts : List (Addr × Addr × (List Key × V))), xs = [.ref a] ∧ SqL K H a (ts.map fun t => V.ref t.1) ∧
  (∀ t ∈ ts, H t.1 = some (.tup [.ref t.2.1, t.2.2.2]) ∧ H t.2.1 = some (.tup (t.2.2.1.map kV))) ∧ ts.length ≤ 1000 ∧ ∀ p, H p = none → Q (.ref p) (upd H p (.dT (mergeT (ts.map fun t => t.2.2))))
theorem kc_dictU {X : Cx} (K : PySem.W.Frag) (hu : X.A.units + 64 < cLine) (hcalm : X.calm = true := by rfl) (hX : X.K = K := by rfl) : CallR X (.type "dict") (rDictU K) := by
  subst hX
  intro pins s σ H xs us Q I r h
  obtain ⟨a, ts, rfl, hq, hts, hl, q⟩ := h
  obtain ⟨u, rfl, rx⟩ := vals1 r
  have eu : u = Value.ref a := rx
  subst eu
  obtain ⟨its, rv, ⟨o, n, ho, hc, hd, hdat⟩, hz⟩ := I.list hq
  have ei : its = (ts.map fun t => t.1).map Value.ref := refs_of (by rw [List.map_map]; exact rv)
  subst ei
  obtain ⟨ps, rel, ek, hp⟩ := pairs_tab I ts hts
  have pl : ps.length = ts.length := by
    have := congrArg List.length ek
    rwa [List.length_map, List.length_map] at this
  have tgt : ∀ {j : Nat} {q : List Key × Addr × Value}, ps[j]? = some q → ∃ t, ts[j]? = some t := fun {j q} e => by
    have hj := (List.getElem?_eq_some_iff.mp e).1
    exact ⟨ts[j]'(by omega), List.getElem?_eq_getElem (by omega)⟩
  have key : ∀ x ∈ ps, H x.2.1 = some (.tup (x.1.map kV)) := by
    have all : ∀ {l : List (List Key × V)} {m : List (List Key × Addr × Value)}, KT H l m → ∀ x ∈ m, H x.2.1 = some (.tup (x.1.map kV)) := fun {l m} z => by
      induction z with
      | nil => exact fun x hx => nomatch hx
      | cons h _ ih =>
        intro x hx
        rcases List.mem_cons.mp hx with e | hx
        · rw [e, ← h.1]; exact h.2.1
        · exact ih x hx
    exact all rel
  refine call_dict_pairsH (knd := tupleKind (mixKind X.prog X.w)) (ps := ps) (PairArg.list a (ts.map (fun t => Value.ref t.1)).toArray (fun j => ((ts[j]?).map (·.1)).getD 0) (ps.map fun q => (Value.ref q.2.1, q.2.2))) (I.ok.hd hcalm) (show X.A.units + 1 + 1 < cLine by omega) ?_ ?_ ?_ ?_ ?_
  · refine ⟨⟨o, n, ho, hc, hd, by rw [hdat, List.map_map]; rfl⟩, by simp [pl], fun j k v e => ?_⟩
    rw [List.getElem?_map] at e
    cases e2 : ps[j]? with
    | none => rw [e2] at e; cases e
    | some z =>
      rw [e2] at e
      cases e
      obtain ⟨t, et⟩ := tgt e2
      refine ⟨by simp [et], ?_⟩
      show PairAt s.heap (((ts[j]?).map (·.1)).getD 0) (.ref z.2.1) z.2.2
      rw [et]
      exact hp j t z et e2
  · refine ⟨by rw [List.length_map], fun i k v e => ?_⟩
    have e : (ps.map fun q => (Value.ref q.2.1, q.2.2))[i]? = some (k, v) := e
    rw [List.getElem?_map] at e
    cases e2 : ps[i]? with
    | none => rw [e2] at e; cases e
    | some z =>
      rw [e2] at e
      cases e
      exact ⟨z.1, z.2.1, rfl, rfl⟩
  · intro h' hk x hx
    obtain ⟨ob, items, m, h1, h2, h3, h4⟩ := key_of I.hok (key x hx)
    exact ⟨ob, items, m, hk _ _ (Nat.ne_of_lt (Heap.lt_size h1)) (fun z => nomatch z) h1, h2, h3, h4⟩
  · rw [List.length_map, pl]
    exact Nat.le_trans hl (by decide)
  · intro h' tk hd' hk
    obtain ⟨od, es, ep, d1, d2, d3, d4, d5, d6⟩ := hd'
    have hm : (s.heap.objs.size == sysModules) = false := beq_eq_false_iff_ne.mpr (Nat.ne_of_gt I.big)
    have hk' : ∀ b u, s.heap.get? b = some u → h'.get? b = some u := fun b u e => hk b u (fun z => nomatch z) e
    have fr := I.hok.fresh (Nat.le_refl s.heap.objs.size)
    have rel2 := kt_merge ps _ .nil rel
    have hml : (mergeT (ts.map fun t => t.2.2)).length ≤ 1000 := by
      have h1 := storedAllH_length ps []
      have h2 : (mergeT (ts.map fun t => t.2.2)).length = (storedAllH [] ps).length := Paired.length rel2
      rw [List.length_nil] at h1
      omega
    have rel' : KT (upd H s.heap.objs.size (.dT (mergeT (ts.map fun t => t.2.2)))) (mergeT (ts.map fun t => t.2.2)) (storedAllH [] ps) := by
      have all : ∀ {l : List (List Key × V)} {m : List (List Key × Addr × Value)}, KT H l m → KT (upd H s.heap.objs.size (.dT (mergeT (ts.map fun t => t.2.2)))) l m := fun {l m} z => by
        induction z with
        | nil => exact .nil
        | cons h _ ih => exact .cons ⟨h.1, by rw [upd_ne (ne_of_none h.2.1 fr)]; exact h.2.1, h.2.2⟩ ih
      exact all rel2
    refine ⟨.ref s.heap.objs.size, upd H s.heap.objs.size (.dT (mergeT (ts.map fun t => t.2.2))), I.laid (t' := tk) hk' (Nat.le_refl _) ?_, rfl, q _ fr⟩
    exact ⟨Nat.le_trans hml (by decide), hm, storedAllH [] ps, rel', od, es, ep, d1, d2, d3, d4, d6⟩
end Pu

/-! sorted(dict(pairs)), keys that are tuples and may come again. -/
namespace Pu
open PySem PySem.Spec PyProof.Rows L2 PySem.W
/-- a dict of which the keys' addresses are known -/
def DicO (d : Addr) (bs : List Addr) : HO := .ext fun h => (d == sysModules) = false ∧ ∃ (o : Obj) (es : Array DictEntry) (ep : Nat), h.get? d = some o ∧ o.ExactDict ∧ o.data = .dict es ep ∧ es.size = bs.length ∧ ∀ (j : Nat) (en : DictEntry), es[j]? = some en → ∃ b, bs[j]? = some b ∧ en.key = .ref b
def firstA (acc : List (List Key × Addr)) (ps : List (List Key × Addr)) : List (List Key × Addr) := ps.foldl (fun acc p => if acc.any (fun q => decide (q.1 = p.1)) = true then acc else acc ++ [p]) acc
theorem stored_step (xs : List (List Key × Addr × Value)) (p : List Key × Addr × Value) : (storedH xs p.1 p.2.1 p.2.2).map (fun x => (x.1, x.2.1)) = if (xs.map fun x => (x.1, x.2.1)).any (fun q => decide (q.1 = p.1)) = true then xs.map (fun x => (x.1, x.2.1)) else xs.map (fun x => (x.1, x.2.1)) ++ [(p.1, p.2.1)] := by
  have ha : ((xs.map fun x => (x.1, x.2.1)).any fun q => decide (q.1 = p.1)) = (atKey xs p.1).isSome := by
    unfold atKey
    rw [Option.isSome_map]
    induction xs with
    | nil => rfl
    | cons x xs ih =>
      rw [List.map_cons, List.any_cons, List.find?_cons, ih]
      cases decide (x.1 = p.1) <;> rfl
  rw [ha]
  unfold storedH
  split
  · rw [List.map_map]
    refine List.map_congr_left fun x _ => ?_
    show ((putAt p.1 p.2.2 x).1, (putAt p.1 p.2.2 x).2.1) = (x.1, x.2.1)
    unfold putAt
    split <;> rfl
  · rw [List.map_append]
    rfl
theorem stored_first : ∀ (ps xs : List (List Key × Addr × Value)), (storedAllH xs ps).map (fun x => (x.1, x.2.1)) = firstA (xs.map fun x => (x.1, x.2.1)) (ps.map fun x => (x.1, x.2.1))
  | [], _ => rfl
  | p :: ps, xs => by
    have h := stored_first ps (storedH xs p.1 p.2.1 p.2.2)
    rw [stored_step] at h
    exact h
def rSortDO (K : PySem.W.Frag) : List V → Hp → VK → Prop := fun vs H Q => ∃ (d : Addr) (bs : List Addr) (ds : List PyData), vs = [V.ref d] ∧ H d = some (DicO d bs) ∧ DpAll K H (bs.map V.ref) ds ∧ noLs ds = true ∧ AllAlike ds ∧ PySem.W.Sortable ds ∧ (∀ x ∈ ds, x.depth ≤ 60) ∧ bs.length ≤ 1000 ∧
  ∀ p, H p = none → Q (.ref p) (upd H p (.lst (sortV (bs.map V.ref) ds)))
def rDictO (K : PySem.W.Frag) : List V → Hp → VK → Prop := fun xs H Q => ∃ (a : Addr) (ts : List (Addr × Addr × (List Key × V))), xs = [.ref a] ∧ SqL K H a (ts.map fun t => V.ref t.1) ∧
  (∀ t ∈ ts, H t.1 = some (.tup [.ref t.2.1, t.2.2.2]) ∧ H t.2.1 = some (.tup (t.2.2.1.map kV))) ∧ ts.length ≤ 1000 ∧ ∀ p, H p = none → Q (.ref p) (upd H p (DicO p ((firstA [] (ts.map fun t => (t.2.2.1, t.2.1))).map (·.2))))
theorem pairs_tab2 {X : Cx} {pins : List (Addr × Obj)} {σ : L2.St} {H : Hp} {s : Shared} (I : Inv X pins σ H s) : ∀ (ts : List (Addr × Addr × (List Key × V))), (∀ t ∈ ts, H t.1 = some (.tup [.ref t.2.1, t.2.2.2]) ∧ H t.2.1 = some (.tup (t.2.2.1.map kV))) →
    ∃ ps : List (List Key × Addr × Value), KT H (ts.map fun t => t.2.2) ps ∧ ps.map (fun q => (q.1, q.2.1)) = ts.map (fun t => (t.2.2.1, t.2.1)) ∧ ∀ (j : Nat) (t : Addr × Addr × (List Key × V)) (q : List Key × Addr × Value), ts[j]? = some t → ps[j]? = some q → PairAt s.heap t.1 (.ref q.2.1) q.2.2
  | [], _ => ⟨[], .nil, rfl, fun j t q e _ => by simp at e⟩
  | t :: ts, h => by
    obtain ⟨ps, r, e, hp⟩ := pairs_tab2 I ts fun u hu => h u (List.mem_cons_of_mem _ hu)
    obtain ⟨h1, h2⟩ := h t List.mem_cons_self
    obtain ⟨_, its, rv, o, ho, hc, n, hd⟩ := I.hok _ _ h1
    obtain ⟨u, y, ei, ru, ry⟩ := vals2 rv
    have eu : u = Value.ref t.2.1 := ru
    subst eu
    subst ei
    refine ⟨(t.2.2.1, t.2.1, y) :: ps, .cons ⟨rfl, h2, ry⟩ r, by rw [List.map_cons, List.map_cons, e], fun j u q e1 e2 => ?_⟩
    cases j with
    | zero =>
      cases e1
      cases e2
      exact .inl ⟨o, ho, hc, n, hd⟩
    | succ j => exact hp j u q (by simpa using e1) (by simpa using e2)
theorem cr_sortDO {X : Cx} (K : PySem.W.Frag) (hu : X.A.units + 70 < cLine) (hc : X.calm = true := by rfl) (hK : X.K = K := by rfl) : CallR X (.builtin "sorted") (rSortDO K) := by
  subst hK
  intro pins s σ H vs us Q I r h
  obtain ⟨d, bs, ds, rfl, hd, hdp, hnl, hal, hk, hdep, hb1000, q⟩ := h
  obtain ⟨u, rfl, rx⟩ := vals1 r
  obtain rfl : u = Value.ref d := rx
  obtain ⟨⟨hs, o, es, ep, ho, hx, hdt, hes, hke⟩, _, _⟩ := I.hok d _ hd
  refine Calls.call_function_entry PyProof.Rows.kind_sorted PyProof.Rows.plain_sorted PyProof.Rows.entry_sorted (PyProof.Rows.args_sorted1 _) ?_
  unfold Builtin.«sorted»
  refine wpAny_bind (m := checkCount "sorted" 1 1 _) (wpAny_pure ?_)
  have hz1 : (1000 : Nat) ≤ sizeLine := by decide
  refine wpAny_bind (PySem.W.kdu_collect (A := X.A.in1) (kdl_raw hs hx hdt) (I.ok.hd hc) ho (by omega) fun h' tk acc hk' it => ?_)
  have ea : acc.toList = bs.map Value.ref := by
    have hl : acc.toList.length = bs.length := by rw [Array.length_toList, it.1]; exact hes
    apply List.ext_getElem?
    intro j
    rw [List.getElem?_map]
    cases hj : acc.toList[j]? with
    | none =>
      have h1 := List.getElem?_eq_none_iff.mp hj
      rw [List.getElem?_eq_none (by omega)]
      all_goals rfl
    | some v =>
      obtain ⟨en, hen, hv⟩ := it.2 j v (by rw [← Array.getElem?_toList]; exact hj)
      obtain ⟨b, hb, hkb⟩ := hke j en hen
      rw [hb, hv, hkb]
      all_goals rfl
  have I1 : Inv X pins σ H { s with heap := h', toks := tk } := I.kept hk'
  have hal2 : acc.toList.length = bs.length := by rw [ea, List.length_map]
  refine wpAny_bind (wpAny_newList ?_ (by omega))
  have hoL : (h'.push (seqObj "list" acc.toList.toArray 0)).get? h'.objs.size = some (seqObj "list" acc.toList.toArray 0) := Heap.get?_push_size _ rfl
  have hnL : H h'.objs.size = none := I1.hok.fresh (Nat.le_refl _)
  have I2 : Inv X pins σ H { s with heap := h'.push (seqObj "list" acc.toList.toArray 0), toks := tk } := I1.kept fun b u e => Heap.get?_push_of_some _ e
  show wpAny _ _ _ _ _ { s with heap := h'.push (seqObj "list" acc.toList.toArray 0), toks := tk }
  generalize hxs : bs.map V.ref = xs at hdp
  have rv : Vals xs acc.toList := by rw [ea, ← hxs]; exact vals_refs _
  have hlen := dpAll_len hdp
  have em : (xs.zip ds).map (fun b => b.2) = ds := zip_snd hlen
  have hxl : xs.length = bs.length := by rw [← hxs, List.length_map]
  refine wpAny_bind (wpAny_holding (list_sort_data (A := X.A.in1) (s := { s with heap := h'.push (seqObj "list" acc.toList.toArray 0), toks := tk }) (bs := xs.zip ds) (enc := fun b => b.2) (R := fun u b => RelV b.1 u) hoL (each_rel (R := fun u x d => RelV x u) (fun _ _ _ _ h => h) hdp rv)
    (each_relN (R := fun u x d => ∃ as, Reads (h'.push (seqObj "list" acc.toList.toArray 0)) u d as ∧ h'.objs.size ∉ as) (fun x d u hx hn hr => ?_) hnl hdp rv) (by rw [em]; exact hal) (by rw [em]; exact hk) ?_ (fun b hb => ?_) (fun out ho he => ?_)))
  · obtain ⟨as, hr2⟩ := Dp.reads I2 d x u hx hr
    have e := reads_nil d u as hn hr2
    subst e
    exact ⟨[], hr2, by simp⟩
  · rw [List.length_zip]
    omega
  · have hm : b.2 ∈ ds := by
      have := List.mem_map_of_mem (f := fun b : V × PyData => b.2) hb
      rw [em] at this
      exact this
    have := hdep _ hm
    show X.A.in1.units + 1 + _ < _
    have hin : X.A.in1.units = X.A.units + 1 := rfl
    omega
  · obtain ⟨c, hcL⟩ := PyProof.Rows.sortedHeap_at (vs := acc.toList) (out := out.toArray) hoL
    refine wpAny_pure ⟨_, rfl, .ref h'.objs.size, upd H h'.objs.size (.lst (sortV xs ds)), I1.laid (t' := tk) (fun b u e => ?_) (Nat.le_refl _) (show ObjOk X.prog X.w _ _ _ (.lst (sortV xs ds)) from ⟨?_, out, c, each_vals he, hcL⟩), rfl, ?_⟩
    · have hb : b < h'.objs.size := Heap.lt_size e
      rw [PyProof.Rows.sortedHeap_old (Nat.ne_of_lt hb) (by rw [size_push']; exact Nat.lt_succ_of_lt hb)]
      exact Heap.get?_push_of_some _ e
    · show ((List.mergeSort _ _).map _).length ≤ _
      rw [List.length_map, List.length_mergeSort, List.length_zip]
      omega
    · have := q h'.objs.size hnL
      rw [hxs] at this
      exact this
theorem kc_dictO {X : Cx} (K : PySem.W.Frag) (hu : X.A.units + 64 < cLine) (hcalm : X.calm = true := by rfl) (hX : X.K = K := by rfl) : CallR X (.type "dict") (rDictO K) := by
  subst hX
  intro pins s σ H xs us Q I r h
  obtain ⟨a, ts, rfl, hq, hts, hl, q⟩ := h
  obtain ⟨u, rfl, rx⟩ := vals1 r
  have eu : u = Value.ref a := rx
  subst eu
  obtain ⟨its, rv, ⟨o, n, ho, hc, hd, hdat⟩, hz⟩ := I.list hq
  have ei : its = (ts.map fun t => t.1).map Value.ref := refs_of (by rw [List.map_map]; exact rv)
  subst ei
  obtain ⟨ps, rel, ek, hp⟩ := pairs_tab2 I ts hts
  have pl : ps.length = ts.length := by
    have := congrArg List.length ek
    rwa [List.length_map, List.length_map] at this
  have tgt : ∀ {j : Nat} {q : List Key × Addr × Value}, ps[j]? = some q → ∃ t, ts[j]? = some t := fun {j q} e => by
    have hj := (List.getElem?_eq_some_iff.mp e).1
    exact ⟨ts[j]'(by omega), List.getElem?_eq_getElem (by omega)⟩
  have key : ∀ x ∈ ps, H x.2.1 = some (.tup (x.1.map kV)) := by
    have all : ∀ {l : List (List Key × V)} {m : List (List Key × Addr × Value)}, KT H l m → ∀ x ∈ m, H x.2.1 = some (.tup (x.1.map kV)) := fun {l m} z => by
      induction z with
      | nil => exact fun x hx => nomatch hx
      | cons h _ ih =>
        intro x hx
        rcases List.mem_cons.mp hx with e | hx
        · rw [e, ← h.1]; exact h.2.1
        · exact ih x hx
    exact all rel
  refine call_dict_pairsH (knd := tupleKind (mixKind X.prog X.w)) (ps := ps) (PairArg.list a (ts.map (fun t => Value.ref t.1)).toArray (fun j => ((ts[j]?).map (·.1)).getD 0) (ps.map fun q => (Value.ref q.2.1, q.2.2))) (I.ok.hd hcalm) (show X.A.units + 1 + 1 < cLine by omega) ?_ ?_ ?_ ?_ ?_
  · refine ⟨⟨o, n, ho, hc, hd, by rw [hdat, List.map_map]; rfl⟩, by simp [pl], fun j k v e => ?_⟩
    rw [List.getElem?_map] at e
    cases e2 : ps[j]? with
    | none => rw [e2] at e; cases e
    | some z =>
      rw [e2] at e
      cases e
      obtain ⟨t, et⟩ := tgt e2
      refine ⟨by simp [et], ?_⟩
      show PairAt s.heap (((ts[j]?).map (·.1)).getD 0) (.ref z.2.1) z.2.2
      rw [et]
      exact hp j t z et e2
  · refine ⟨by rw [List.length_map], fun i k v e => ?_⟩
    have e : (ps.map fun q => (Value.ref q.2.1, q.2.2))[i]? = some (k, v) := e
    rw [List.getElem?_map] at e
    cases e2 : ps[i]? with
    | none => rw [e2] at e; cases e
    | some z =>
      rw [e2] at e
      cases e
      exact ⟨z.1, z.2.1, rfl, rfl⟩
  · intro h' hk x hx
    obtain ⟨ob, items, m, h1, h2, h3, h4⟩ := key_of I.hok (key x hx)
    exact ⟨ob, items, m, hk _ _ (Nat.ne_of_lt (Heap.lt_size h1)) (fun z => nomatch z) h1, h2, h3, h4⟩
  · rw [List.length_map, pl]
    exact Nat.le_trans hl (by decide)
  · intro h' tk hd' hk
    obtain ⟨od, es, ep, d1, d2, d3, d4, d5, d6⟩ := hd'
    have hm : (s.heap.objs.size == sysModules) = false := beq_eq_false_iff_ne.mpr (Nat.ne_of_gt I.big)
    have hk' : ∀ b u, s.heap.get? b = some u → h'.get? b = some u := fun b u e => hk b u (fun z => nomatch z) e
    have fr := I.hok.fresh (Nat.le_refl s.heap.objs.size)
    refine ⟨.ref s.heap.objs.size, upd H s.heap.objs.size (DicO s.heap.objs.size ((storedAllH [] ps).map fun x => x.2.1)), I.laid (t' := tk) hk' (Nat.le_refl _) ?_, rfl, ?_⟩
    · refine ⟨⟨hm, od, es, ep, d1, d2, d3, by rw [List.length_map]; exact size_of_entries d4, fun j en hen => ?_⟩, ⟨od, d1⟩, fun h1 h2 ⟨e0, o', es', ep', a1, a2⟩ st => ⟨e0, o', es', ep', st _ a1, a2⟩⟩
      have qe := entry_at d4 j
      rw [hen] at qe
      cases hb : (storedAllH [] ps)[j]? with
      | none =>
        rw [hb] at qe
        exact nomatch (show some en = none from qe)
      | some b =>
        rw [hb] at qe
        have e2 : en = entryOfKey (tupleKind (mixKind X.prog X.w)) b := Option.some.inj qe
        exact ⟨b.2.1, by rw [List.getElem?_map, hb]; rfl, by rw [e2]; rfl⟩
    · have := q s.heap.objs.size fr
      have e1 : (storedAllH [] ps).map (fun x => x.2.1) = (firstA [] (ts.map fun t => (t.2.2.1, t.2.1))).map (·.2) := by
        have := congrArg (List.map Prod.snd) (stored_first ps [])
        rw [List.map_map] at this
        rw [← ek]
        exact this
      rw [e1]
      exact this

end Pu

/-! sorted(dict(pairs)), by data. -/
namespace Pu
open PySem L2
def firstK (acc ks : List (List Key)) : List (List Key) := ks.foldl (fun acc k => if acc.any (fun q => decide (q = k)) = true then acc else acc ++ [k]) acc
theorem firstA_keys : ∀ (l acc : List (List Key × Addr)), (firstA acc l).map (·.1) = firstK (acc.map (·.1)) (l.map (·.1))
  | [], _ => rfl
  | p :: l, acc => by
    have ha : ((acc.map (·.1)).any fun q => decide (q = p.1)) = acc.any fun q => decide (q.1 = p.1) := by
      rw [List.any_map]
      rfl
    show (firstA (if acc.any (fun q => decide (q.1 = p.1)) = true then acc else acc ++ [p]) l).map (·.1) = firstK (if (acc.map (·.1)).any (fun q => decide (q = p.1)) = true then acc.map (·.1) else acc.map (·.1) ++ [p.1]) (l.map (·.1))
    rw [firstA_keys l, ha]
    split
    · rfl
    · rw [List.map_append]
      rfl
theorem firstA_mem : ∀ (l acc : List (List Key × Addr)), ∀ x ∈ firstA acc l, x ∈ acc ∨ x ∈ l
  | [], _, x, hx => .inl hx
  | p :: l, acc, x, hx => by
    have hx : x ∈ firstA (if acc.any (fun q => decide (q.1 = p.1)) = true then acc else acc ++ [p]) l := hx
    rcases firstA_mem l _ x hx with h | h
    · split at h
      · exact .inl h
      · rcases List.mem_append.mp h with h | h
        · exact .inl h
        · rw [List.mem_singleton.mp h]
          exact .inr List.mem_cons_self
    · exact .inr (List.mem_cons_of_mem _ h)
theorem firstA_len : ∀ (l acc : List (List Key × Addr)), (firstA acc l).length ≤ acc.length + l.length
  | [], acc => Nat.le_add_right _ _
  | p :: l, acc => by
    have h := firstA_len l (if acc.any (fun q => decide (q.1 = p.1)) = true then acc else acc ++ [p])
    show (firstA (if acc.any (fun q => decide (q.1 = p.1)) = true then acc else acc ++ [p]) l).length ≤ _
    rw [List.length_cons]
    split at h
    · rename_i e
      rw [if_pos e]
      omega
    · rename_i e
      rw [if_neg e]
      rw [List.length_append, List.length_singleton] at h
      omega
theorem das_addrs {F : Hp} : ∀ (l : List (List Key × Addr)), (∀ x ∈ l, F x.2 = some (.tup (x.1.map kV))) → Das F (l.map fun x => keyD x.1) (l.map fun x => V.ref x.2)
  | [], _ => .nil
  | x :: l, h => by
    have hk : IsKeys F [(x.1, V.non)] [x.2] := Paired.cons (h x List.mem_cons_self) Paired.nil
    obtain ⟨y, ys, e, h1, _⟩ := (das_keys hk).inv_cons
    cases e
    exact Das.cons h1 (das_addrs l fun y hy => h y (List.mem_cons_of_mem _ hy))
section
variable {A : Am} {ρ : List Ab} {te : TE} {K : PySem.W.Frag}
theorem el_sortDict {ps : List (List Key × PyData)} (h : EvD A te ρ (.list (ps.map fun p => .tuple [keyD p.1, p.2]))) (hf : ∀ p ∈ ps, (flV p.2).isSome = true) (hl : ps.length ≤ 1000) (hal : PySem.W.AllAlike ((firstK [] (ps.map (·.1))).map keyD)) (hk : PySem.W.Sortable ((firstK [] (ps.map (·.1))).map keyD)) :
    EvL A (tCB (rSortDO K) (tCons (tCB (rDictO K) (tCons te tNil)) tNil)) ρ (sortL ((firstK [] (ps.map (·.1))).map keyD)) := fun σ F H e p Q c => by
  show tCons te tNil σ H (fun vs H1 => rDictO K vs H1 fun v H2 => rSortDO K [v] H2 Q)
  refine (ea_cons h ea_nil) σ F H e p _ fun vs bs F1 H1 hb po hv => ?_
  subst hb
  obtain ⟨v, ev, hv1⟩ := vas1 hv
  subst ev
  obtain ⟨a, xs, rfl, ha, hx⟩ := da_list.mp hv1
  have p1 := p.next po
  obtain ⟨ts, rfl, e2, e3⟩ := tab_of hx hf
  have ek : ts.map (fun t => t.2.2.1) = ps.map (·.1) := by
    have := congrArg (List.map Prod.fst) e3
    rw [List.map_map, List.map_map] at this
    exact this.symm
  have el : ts.length = ps.length := by
    have := congrArg List.length ek
    rwa [List.length_map, List.length_map] at this
  refine ⟨a, ts, rfl, SqL.of (p1.fh _ _ ha), fun t ht => ⟨p1.fh _ _ (e2 t ht).1, p1.fh _ _ (e2 t ht).2⟩, by omega, fun q hq => ?_⟩
  generalize hL : firstA [] (ts.map fun t => (t.2.2.1, t.2.1)) = L
  have hkeys : (firstK [] (ps.map (·.1))).map keyD = L.map fun x => keyD x.1 := by
    rw [← hL]
    have := firstA_keys (ts.map fun t => (t.2.2.1, t.2.1)) []
    rw [List.map_map] at this
    rw [← ek]
    have e4 : ts.map (fun t => t.2.2.1) = ts.map ((fun x : List Key × Addr => x.1) ∘ fun t => (t.2.2.1, t.2.1)) := rfl
    rw [e4]
    rw [show ([] : List (List Key)) = ([] : List (List Key × Addr)).map (·.1) from rfl, ← this, List.map_map]
    rfl
  have hLF : ∀ x ∈ L, F1 x.2 = some (.tup (x.1.map kV)) := fun x hxm => by
    rw [← hL] at hxm
    rcases firstA_mem _ _ x hxm with z | z
    · cases z
    · obtain ⟨t, ht, rfl⟩ := List.mem_map.mp z
      exact (e2 t ht).2
  have hlen : L.length ≤ 1000 := by
    have := firstA_len (ts.map fun t => (t.2.2.1, t.2.1)) []
    rw [hL, List.length_map, List.length_nil] at this
    omega
  have hd := das_addrs L hLF
  rw [hkeys] at hal hk c
  have em : (L.map (·.2)).map V.ref = L.map fun x => V.ref x.2 := by rw [List.map_map]; rfl
  have nL : ∀ l : List (List Key × Addr), noLs (l.map fun x => keyD x.1) = true ∧ noDs (l.map fun x => keyD x.1) = true := fun l => by
    have h1 := noLs_keys (l.map fun x => (x.1, V.non))
    have h2 := noDs_keys (l.map fun x => (x.1, V.non))
    rw [List.map_map] at h1 h2
    exact ⟨h1, h2⟩
  have po2 := po.trans p.am (Post.new0 (o := DicO q (L.map (·.2))) p1 hq)
  have p2 := p.next po2
  refine ⟨q, L.map (·.2), L.map fun x => keyD x.1, rfl, upd_same, ?_, (nL L).1, hal, hk, fun x hx => ?_, by rw [List.length_map]; exact hlen, fun r hr => ?_⟩
  · rw [em]
    exact Das.dp (fun _ _ z => p2.fh _ _ z) _ _ (nL L).2 hd
  · obtain ⟨y, _, rfl⟩ := List.mem_map.mp hx
    exact Nat.le_trans (keyD_depth y.1) (by decide)
  · rw [em]
    exact c r _ _ F1 _ rfl (po2.trans p.am (Post.new0 p2 hr)) (pre_none p2 hr) (none_back p.am po2.le po2.am hr) upd_same (das_sort hd)
end
end Pu

/-! sorted(dict(pairs)), keys that are whole numbers. -/
namespace Pu
open PySem L2
def rDictP (K : PySem.W.Frag) : List V → Hp → VK → Prop := fun xs H Q => ∃ (a : Addr) (ps : List Addr) (kvs : List (Key × V)), xs = [.ref a] ∧ SqL K H a (ps.map V.ref) ∧ Paired (fun p kv => SqT K H p [kV kv.1, kv.2]) ps kvs ∧
    ∀ p, H p = none → Q (.ref p) (upd H p (.dK (mergeK [] kvs)))
def rSortDI : List V → Hp → VK → Prop := fun xs H Q => ∃ (a : Addr) (kvs : List (Key × V)) (ks : List Int), xs = [.ref a] ∧ Rd H a (.dK kvs) ∧ kvs.map (·.1) = ks.map Sum.inl ∧ ks.length < 64 ∧
    ∀ (ys : List Int) (p : Addr), ys.Perm ks → ys.Pairwise (· ≤ ·) → H p = none → Q (.ref p) (upd H p (.lst (ys.map V.int)))
theorem kc_dictP {X : Cx} (K : PySem.W.Frag) (hc : X.calm = true := by rfl) (hK : X.K = K := by rfl) : CallR X (.type "dict") (rDictP K) := by
  subst hK
  exact call_dictP hc
theorem cr_sortDI {X : Cx} (hc : X.calm = true := by rfl) : CallR X (.builtin "sorted") rSortDI := call_sortedDI hc
def firstI (acc ks : List Int) : List Int := ks.foldl (fun acc k => if acc.any (fun q => decide (q = k)) = true then acc else acc ++ [k]) acc
theorem mergeK_keys : ∀ (ns : List Int) (acc : List (Key × V)) (as : List Int), acc.map (·.1) = as.map Sum.inl → ((ns.map fun i => ((Sum.inl i : Key), V.int 0)).foldl (fun acc kv => putK acc kv.1 kv.2) acc).map (·.1) = (firstI as ns).map Sum.inl
  | [], _, _, h => h
  | n :: ns, acc, as, h => by
    refine mergeK_keys ns (putK acc (Sum.inl n) (V.int 0)) (if as.any (fun q => decide (q = n)) = true then as else as ++ [n]) ?_
    have ha : (acc.any fun kv => decide (kv.1 = (Sum.inl n : Key))) = as.any fun q => decide (q = n) := by
      have e1 : (acc.any fun kv => decide (kv.1 = (Sum.inl n : Key))) = (acc.map (·.1)).any fun k => decide (k = (Sum.inl n : Key)) := by
        rw [List.any_map]
        rfl
      rw [e1, h, List.any_map]
      congr 1
      funext q
      show decide ((Sum.inl q : Key) = Sum.inl n) = decide (q = n)
      rw [decide_eq_decide]
      exact ⟨fun e => Sum.inl.inj e, fun e => by rw [e]⟩
    unfold putK
    rw [ha]
    split
    · rw [List.map_map, ← h]
      refine List.map_congr_left fun kv _ => ?_
      show (if kv.1 = (Sum.inl n : Key) then _ else kv).1 = kv.1
      split <;> rfl
    · rw [List.map_append, List.map_append, h]
      rfl
theorem firstI_len : ∀ (l acc : List Int), (firstI acc l).length ≤ acc.length + l.length
  | [], acc => Nat.le_add_right _ _
  | p :: l, acc => by
    have h := firstI_len l (if acc.any (fun q => decide (q = p)) = true then acc else acc ++ [p])
    show (firstI (if acc.any (fun q => decide (q = p)) = true then acc else acc ++ [p]) l).length ≤ _
    rw [List.length_cons]
    split at h
    · rename_i e
      rw [if_pos e]
      omega
    · rename_i e
      rw [if_neg e]
      rw [List.length_append, List.length_singleton] at h
      omega
theorem pairs_int {K : PySem.W.Frag} {F H : Hp} (hF : ∀ a o, F a = some o → H a = some o) : ∀ {ns : List Int} {xs : List V}, Das F (ns.map fun i => .tuple [.int i, .int 0]) xs → ∃ ps : List Addr, xs = ps.map V.ref ∧ Paired (fun p kv => SqT K H p [kV kv.1, kv.2]) ps (ns.map fun i => ((Sum.inl i : Key), V.int 0))
  | [], xs, h => ⟨[], h.inv_nil, Paired.nil⟩
  | n :: ns, xs, h => by
    obtain ⟨y, ys, rfl, h1, h2⟩ := h.inv_cons
    obtain ⟨a, zs, rfl, ha, hz⟩ := da_tup.mp h1
    obtain ⟨u, us, rfl, hu, hz⟩ := hz.inv_cons
    obtain ⟨w, ws, rfl, hw, hz⟩ := hz.inv_cons
    have hz := hz.inv_nil
    subst hz
    rw [da_int.mp hu, da_int.mp hw] at ha
    obtain ⟨ps, rfl, hp⟩ := pairs_int hF h2
    exact ⟨a :: ps, rfl, Paired.cons (SqT.of (hF _ _ ha)) hp⟩
theorem das_ints {F : Hp} : ∀ ys : List Int, Das F (ys.map .int) (ys.map V.int)
  | [] => .nil
  | y :: ys => Das.cons (da_int.mpr rfl) (das_ints ys)
section
variable {A : Am} {ρ : List Ab} {te : TE} {K : PySem.W.Frag}
theorem el_sortDictI {ns : List Int} (h : EvD A te ρ (.list (ns.map fun i => .tuple [.int i, .int 0]))) (hl : ns.length < 64) :
    EvN A (tCB rSortDI (tCons (tCB (rDictP K) (tCons te tNil)) tNil)) ρ (fun ds => ∃ ys : List Int, ds = ys.map .int ∧ ys.Perm (firstI [] ns) ∧ ys.Pairwise (· ≤ ·)) := fun σ F H e p Q c => by
  show tCons te tNil σ H (fun vs H1 => rDictP K vs H1 fun v H2 => rSortDI [v] H2 Q)
  refine (ea_cons h ea_nil) σ F H e p _ fun vs bs F1 H1 hb po hv => ?_
  subst hb
  obtain ⟨v, ev, hv1⟩ := vas1 hv
  subst ev
  obtain ⟨a, xs, rfl, ha, hx⟩ := da_list.mp hv1
  have p1 := p.next po
  obtain ⟨ps, rfl, hp⟩ := pairs_int (K := K) p1.fh hx
  refine ⟨a, ps, _, rfl, SqL.of (p1.fh _ _ ha), hp, fun q hq => ?_⟩
  have hk := mergeK_keys ns [] [] rfl
  have hlen := firstI_len ns []
  rw [List.length_nil] at hlen
  have po2 := po.trans p.am (Post.new0 (o := .dK (mergeK [] (ns.map fun i => ((Sum.inl i : Key), V.int 0)))) p1 hq)
  have p2 := p.next po2
  refine ⟨q, _, firstI [] ns, rfl, .inl upd_same, hk, by omega, fun ys r hy hs hr => ?_⟩
  exact c r _ _ F1 _ ⟨ys, rfl, hy, hs⟩ (po2.trans p.am (Post.new0 p2 hr)) (pre_none p2 hr) (none_back p.am po2.le po2.am hr) upd_same (das_ints ys)
end
end Pu

/-! sorted of a list of tuples the first of which is empty. -/
namespace Pu
open PySem PySem.Spec PySem.SeqAt PySem.Calls PyProof.Rows L2 PySem.W
section
variable {prog : Program} {w : World} {A : Around} {E : Value → Shared → Prop} {s : Shared}
theorem call_tuple_lt {Q : Value → Shared → Prop} {l b : Addr} {items items2 : Array Value} {e r : Nat → Bool} (hl : s.heap.IsTuple l items) (hb : s.heap.IsTuple b items2)
    (he : ∀ j (h1 : j < items.size) (h2 : j < items2.size), EqAt A.in1 s items[j] items2[j] (e j)) (hr : ∀ j (h1 : j < items.size) (h2 : j < items2.size), e j = false → RcLt A.in1 s items[j] items2[j] (r j))
    (h : Q (.bool (firstLt e r (decide (items.size < items2.size)) (List.range (min items.size items2.size)))) s) : wpAny (model prog w) A (call (.builtin "tuple.__lt__") [.ref l, .ref b]) Q E s := by
  obtain ⟨⟨cls, dd, data, sl⟩, ho, hc, n, hd⟩ := id hl
  obtain ⟨⟨cls2, dd2, data2, sl2⟩, ho2, hc2, n2, hd2⟩ := id hb
  simp only at hc hd hc2 hd2
  subst hc hd hc2 hd2
  exact call_meets F.slot_tuple_lt ⟨_, ho, rfl⟩ F.entry_tuple_lt (F.args_tuple_lt_2 _ _) (tuple_ltAt l b items items2 n n2 dd dd2 sl sl2 e r) ⟨ho, ho2, he, hr, h⟩
theorem oneLt_tup {xs ys : List PyData} {a b : Value} {as bs : List Addr} {Q : Bool → Shared → Prop} (ra : Reads s.heap a (.tuple xs) as) (rb : Reads s.heap b (.tuple ys) bs) (hal : alikeAll xs ys = true)
    (hu : A.units + min (PyData.tuple xs).depth (PyData.tuple ys).depth < cLine) (hq : Q (dataLt (.tuple xs) (.tuple ys)) s) : wpAny (model prog w) A (oneLt' true a b) Q E s := by
  cases ra with
  | @tuple l o vs n _ as₁ h1 h2 h3 h4 =>
    cases rb with
    | @tuple l' o' vs' n' _ bs₁ k1 k2 k3 k4 =>
      have n1 : vs.size = xs.length := by simpa using ReadsAll.length _ _ _ h4
      have n2 : vs'.size = ys.length := by simpa using ReadsAll.length _ _ _ k4
      rw [dataLt_tuple, ← firstLt_toks xs ys hal, ← n1, ← n2] at hq
      rw [oneLt'_eq]
      simp only [if_true]
      refine wpAny_bind (wpAny_cRoomFor (room_here hu) ?_)
      refine wpAny_bind (wpAny_callSpecialIfBound?_slot (T := "tuple") ⟨_, h1, h2⟩ F.slot_tuple_lt (call_tuple_lt (e := pairEq xs ys) (r := fun j => dataLt (xs.getD j .none) (ys.getD j .none)) ⟨_, h1, h2, _, h3⟩ ⟨_, k1, k2, _, k3⟩ (fun j j1 j2 => ?_) (fun j j1 j2 hj => ?_) ?_))
      · have := eqAt_alikeAll xs ys A.in1 s vs.toList vs'.toList _ _ h4 k4 hal (room_in hu) j (by simpa using j1) (by simpa using j2)
        simpa using this
      · have := rcLt_alikeAll xs ys A.in1 s vs.toList vs'.toList _ _ h4 k4 hal (room_in hu) j (by simpa using j1) (by simpa using j2) hj
        simpa using this
      · exact wpAny_truthy_bool hq
/-- tuples, the first of them empty -/
def Tups0 (ds : List PyData) : Prop := (∃ r, ds = .tuple [] :: r) ∧ ∀ d ∈ ds, ∃ xs, d = .tuple xs
theorem firsts_any {M : Model} : ∀ {vs : List Value} {ds : List PyData} {Q : List (Option Value) → Shared → Prop}, EachIs (fun v d => ∃ as, Reads s.heap v d as) vs ds → (∀ d ∈ ds, ∃ xs, d = .tuple xs) → (∀ fs : List (Option Value), fs.length = vs.length → Q fs s) → wpAny M A (vs.mapM firstOfTuple') Q E s
  | _, _, Q, .nil, _, h => by rw [List.mapM_nil]; exact wpAny_pure (h [] rfl)
  | v :: vs, d :: ds, Q, .cons ⟨as, r⟩ t, ht, h => by
    obtain ⟨xs, rfl⟩ := ht _ List.mem_cons_self
    cases r with
    | @tuple l o its n _ as₁ h1 h2 h3 h4 =>
      rw [List.mapM_cons]
      refine wpAny_bind ?_
      rw [kas_first_eq]
      refine wpAny_bind (Looks.here (show Looks M s.heap (typeOf (.ref l)) o.cls from (Looks.ld h1).andThen .now) ?_)
      rw [h2, if_neg (by first | decide | simp)]
      refine wpAny_bind (listItems_at h1 h3 (wpAny_pure ?_))
      exact wpAny_bind (firsts_any (Q := fun bs s' => wpAny M A (pure (its[0]? :: bs)) Q E s') t (fun d hd => ht d (List.mem_cons_of_mem _ hd)) fun fs hf => wpAny_pure (h _ (by rw [List.length_cons, List.length_cons, hf])))
theorem kind_tups0 {M : Model} {vs : List Value} {ds : List PyData} {Q : SortKind → Shared → Prop} (e : EachIs (fun v d => ∃ as, Reads s.heap v d as) vs ds) (ht : Tups0 ds) (h : Q oneType' s) : wpAny M A (keyKind' vs.toArray) Q E s := by
  obtain ⟨⟨r, rfl⟩, ha⟩ := ht
  have hT : ∀ v ∈ vs, Looks M s.heap (typeOf v) (Value.type "tuple") := fun v hv => by
    obtain ⟨d, hd, as, rd⟩ := e.left v hv
    obtain ⟨xs, rfl⟩ := ha d hd
    exact looks_reads rd
  rw [kat_kind_eq, List.mapM_toArray, map_eq_pure_bind]
  cases e with
  | @cons v _ vs' _ hv t =>
    obtain ⟨as, rd⟩ := hv
    refine wpAny_bind (wpAny_bind ?_)
    cases rd with
    | @tuple l o its n _ as₁ h1 h2 h3 h4 =>
      have h0 : its[0]? = none := by
        have := ReadsAll.length _ _ _ h4
        rw [← Array.getElem?_toList, List.getElem?_eq_none]
        simpa using this
      rw [List.mapM_cons]
      refine wpAny_bind ?_
      rw [kas_first_eq]
      refine wpAny_bind (Looks.here (show Looks M s.heap (typeOf (.ref l)) o.cls from (Looks.ld h1).andThen .now) ?_)
      rw [h2, if_neg (by first | decide | simp)]
      refine wpAny_bind (listItems_at h1 h3 (wpAny_pure ?_))
      rw [h0]
      refine wpAny_bind (firsts_any t (fun d hd => ha d (List.mem_cons_of_mem _ hd)) fun fs hf => wpAny_pure (wpAny_pure ?_))
      rw [if_neg (by simp), if_neg (by simp)]
      rw [oneTypeOnly'_eq, List.mapM_toArray, map_eq_pure_bind]
      refine wpAny_bind (wpAny_bind (wpAny_bind (kas_mapM (r := Value.type "tuple") _ (fun v hv Q' hq => (hT v hv).here hq) (wpAny_pure ?_))))
      have hall : ((List.map (fun _ => Value.type "tuple") (Value.ref l :: vs')).toArray.all fun x => x == Value.type "tuple") = true := by
        simp only [List.all_toArray, List.all_map, List.all_eq_true]
        intro _ _
        exact beq_self_eq_true _
      have h0 : (List.map (fun _ => Value.type "tuple") (Value.ref l :: vs')).toArray[0]? = some (Value.type "tuple") := by simp
      rw [h0]
      simp only [hall, if_true]
      exact wpAny_pure (wpAny_pure h)
theorem sortsAt_tups0 {vs : List Value} {ds : List PyData} (e : EachIs (fun v d => ∃ as, Reads s.heap v d as) vs ds) (hal : AllAlike ds) (ht : Tups0 ds) (hu : ∀ d, d ∈ ds → A.units + d.depth < cLine) : SortsAt prog w A s (dataKind s.heap ds) vs := by
  refine ⟨fun v hv => ?_, oneType', ?_, fun h2 E Q hq => kind_tups0 e ht hq⟩
  · obtain ⟨d, hd, as, r⟩ := e.left v hv
    exact ⟨_, dataKind_some hal hd r⟩
  · intro E x y a b Q ha hb hq
    obtain ⟨d, as, hd, ra, rfl⟩ := dataKind_inv ha
    obtain ⟨d', as', hd', rb, rfl⟩ := dataKind_inv hb
    have hdd := hal d hd d' hd'
    have hroom : A.units + min d.depth d'.depth < cLine := Nat.lt_of_le_of_lt (Nat.add_le_add_left (Nat.min_le_left _ _) _) (hu d hd)
    obtain ⟨xs, rfl⟩ := ht.2 d hd
    obtain ⟨ys, rfl⟩ := ht.2 d' hd'
    rw [keyLt'_oneType]
    exact oneLt_tup ra rb (by simpa [alike] using hdd) hroom hq
theorem sorted_tups0 {β : Type} {vs : List Value} {bs : List β} {enc : β → PyData} {R : Value → β → Prop} {l : Addr} {Q : Value → Shared → Prop} (hl : s.heap.IsList l vs.toArray) (e : EachIs R vs bs) (er : EachIs (fun v b => ∃ as, Reads s.heap v (enc b) as) vs bs) (hal : AllAlike (bs.map enc)) (hk : Tups0 (bs.map enc)) (hL : bs.length ≤ sizeLine)
    (hu : ∀ b, b ∈ bs → A.units + 2 + (enc b).depth < cLine) (h : ∀ out, out.length = bs.length → EachIs R out (bs.mergeSort (dataLe false enc)) → Q (.ref (s.heap.objs.size + 1)) { s with heap := sortedAll s.heap vs (List.toArray out) }) :
    wpAny (model prog w) A (call (.builtin "sorted") [.ref l]) Q E s := by
  have er' : EachIs (fun v b => ∃ as, Reads (sortingHeap (copyHeap s.heap vs) (s.heap.objs.size + 1) vs) v (enc b) as) vs bs := er.mono fun _ _ ⟨as, r⟩ => ⟨as, PyProof.Rows.Reads.keeps (fun _ _ => sorting_copy_old) r⟩
  exact sorted_vals hl (sortsAt_tups0 (s := { s with heap := sortingHeap (copyHeap s.heap vs) (s.heap.objs.size + 1) vs }) (each_map (R := fun v d => ∃ as, Reads (sortingHeap (copyHeap s.heap vs) (s.heap.objs.size + 1) vs) v d as) enc er') hal hk (bound_map hu)) (by rw [e.length]; exact hL)
    (h _ (by rw [sortVals_length false rfl]; exact e.length) (sortVals_data false e er' hal))
end
def rSortD0 (K : PySem.W.Frag) : List V → Hp → VK → Prop := fun vs H Q => ∃ (a : Addr) (xs : List V) (ds : List PyData), vs = [V.ref a] ∧ SqL K H a xs ∧ DpAll K H xs ds ∧ AllAlike ds ∧ Tups0 ds ∧ (∀ d ∈ ds, d.depth ≤ 64) ∧
  ∀ p, H p = none → Q (.ref p) (upd H p (.lst (sortV xs ds)))
section
variable {X : Cx}
theorem cr_sortD0 (K : PySem.W.Frag) (hu : X.A.units + 70 < cLine) (hK : X.K = K := by rfl) : CallR X (.builtin "sorted") (rSortD0 K) := by
  subst hK
  intro pins s σ H vs us Q I r h
  obtain ⟨a, xs, ds, rfl, hs, hd, ha, hk, hdep, q⟩ := h
  obtain ⟨its, rv, hl, hz⟩ := I.list hs
  obtain ⟨u, rfl, ru⟩ := vals1 r
  obtain rfl : u = Value.ref a := ru
  have hlen := dpAll_len hd
  have em : (xs.zip ds).map (fun b => b.2) = ds := zip_snd hlen
  refine sorted_tups0 (bs := xs.zip ds) (enc := fun b => b.2) (R := fun u b => RelV b.1 u) hl.isList (each_rel (R := fun u x d => RelV x u) (fun _ _ _ _ h => h) hd rv)
    (each_rel (R := fun u x d => ∃ as, Reads s.heap u d as) (fun x d u hx hr => Dp.reads I d x u hx hr) hd rv) (by rw [em]; exact ha) (by rw [em]; exact hk) ?_ (fun b hb => ?_) (fun out ho he => ?_)
  · rw [List.length_zip]
    exact Nat.le_trans (Nat.min_le_left _ _) hz
  · have : b.2 ∈ ds := by
      have := List.mem_map_of_mem (f := fun b : V × PyData => b.2) hb
      rw [em] at this
      exact this
    have := hdep _ this
    omega
  · obtain ⟨c, hc⟩ := sortedAll_at s.heap its out.toArray
    have hfr : s.heap.objs.size ≤ s.heap.objs.size + 1 := Nat.le_succ _
    refine ⟨.ref (s.heap.objs.size + 1), upd H (s.heap.objs.size + 1) (.lst (sortV xs ds)), I.laid (t' := s.toks) (fun _ _ => sortedAll_old) hfr ⟨?_, out, c, each_vals he, hc⟩, rfl, q _ (I.hok.fresh hfr)⟩
    show ((List.mergeSort _ _).map _).length ≤ _
    rw [List.length_map, List.length_mergeSort, List.length_zip]
    exact Nat.le_trans (Nat.min_le_left _ _) hz
end
section
variable {A : Am} {ρ : List Ab} {te : TE} {ds : List PyData} {K : PySem.W.Frag}
theorem el_sorted0 (h : EvD A te ρ (.list ds)) (hn : noDs ds = true) (ha : AllAlike ds) (hk : Tups0 ds) (hd : ∀ d ∈ ds, d.depth ≤ 64) : EvL A (tCB (rSortD0 K) (tCons te tNil)) ρ (sortL ds) := evn_cb (ea_cons h ea_nil) fun _ e => by
  rw [e]
  exact fun F H vs p hv Q c => by
    obtain ⟨v, ev, hv1⟩ := vas1 hv
    subst ev
    have hv := hv1
    obtain ⟨a, xs, rfl, hfa, hx⟩ := da_list.mp hv
    exact ⟨a, xs, ds, rfl, SqL.of (p.fh _ _ hfa), Das.dp p.fh _ _ hn hx, ha, hk, hd, fun l hl => c l _ _ F _ rfl (Post.new0 p hl) (pre_none p hl) hl upd_same (das_sort hx)⟩
theorem noDs_tups : ∀ ls : List (List Int), noDs (ls.map fun l => PyData.tuple (l.map .int)) = true
  | [] => rfl
  | l :: ls => by
    rw [List.map_cons]
    simp only [noDs, noD, noDs_tups ls, noDs_ints, Bool.and_self]
/-- sorted lots, the first one empty -/
theorem el_sortLots {ls : List (List Int)} (h : EvD A te ρ (.list (ls.map fun l => PyData.tuple (l.map .int)))) (h0 : ∃ r, ls = [] :: r) : EvL A (tCB (rSortD0 K) (tCons te tNil)) ρ ((ls.mergeSort (PySem.W.dataLe false fun l => PyData.tuple (l.map .int))).map fun l => PyData.tuple (l.map .int)) := by
  rw [← sortL_map]
  refine el_sorted0 h (noDs_tups ls) (PySem.W.AllAlike.of fun a b => ?_) ⟨?_, fun d hd => ?_⟩ (fun d hd => ?_)
  · show PySem.W.alikeAll _ _ = true
    exact PySem.W.alike_ints a b
  · obtain ⟨r, rfl⟩ := h0
    exact ⟨_, rfl⟩
  · obtain ⟨p, _, rfl⟩ := List.mem_map.mp hd
    exact ⟨_, rfl⟩
  · obtain ⟨p, _, rfl⟩ := List.mem_map.mp hd
    simp only [PyData.depth, PySem.W.depth_ints]
    decide
end
end Pu

/-! Rules of several laws: tuples compared, slices up to a picked number, own lists beside others, sorted lists in order. -/
namespace Pu
open PySem L2
section
variable {X : Cx}
theorem k_ltT (K : PySem.W.Frag) (hu : X.A.units + 64 < cLine) (h : X.K = K := by rfl) : OpR X (compareOp .Lt) (rLtT K) := by subst h; exact op_ltT (by omega)
end
section
variable {A : Am} {ρ : List Ab} {ta tb te : TE} {K : PySem.W.Frag} {C : Ct}
theorem ev_ltT {ns ms : List Int} (ha : EvD A ta ρ (.tuple (ns.map .int))) (hb : EvD A tb ρ (.tuple (ms.map .int))) : EvD A (tOp (rLtT K) ta tb) ρ (.bool (HT.lexLt ns ms)) :=
  ev_op ha hb (r2_val fun F H v w p hv hw => by
    obtain ⟨a, xs, rfl, hfa, hx⟩ := da_tup.mp hv
    obtain ⟨b, ys, rfl, hfb, hy⟩ := da_tup.mp hw
    rw [Das.ints hx] at hfa
    rw [Das.ints hy] at hfb
    exact ⟨_, da_bool.mpr rfl, fun Q q => ⟨a, b, ns, ms, rfl, rfl, SqT.of (p.fh _ _ hfa), SqT.of (p.fh _ _ hfb), q⟩⟩)
theorem lexLt2 (a b c d : Int) : HT.lexLt [a, b] [c, d] = decide (a < c ∨ (a = c ∧ b < d)) := by
  rw [HT.lexLt_cons]
  by_cases h : a = c
  · subst h
    rw [if_pos rfl, HT.lexLt_cons]
    by_cases k : b = d
    · subst k
      rw [if_pos rfl, HT.lexLt_nil_nil]
      symm
      exact decide_eq_false (by omega)
    · rw [if_neg k]
      exact decide_eq_decide.mpr (by omega)
  · rw [if_neg h]
    exact decide_eq_decide.mpr (by omega)
theorem evn_sl_toP {N M : List PyData → Prop} {hi : Int} (ha : EvP A ta ρ (fun d => ∃ xs, d = .list xs ∧ N xs)) (h2 : EvP A te ρ (IntIn 0 hi)) (hM : ∀ xs (k : Nat), N xs → M (xs.take k)) : EvN A (tSl (rSl2 K) ta tNoPart (tPart te)) ρ M := fun σ F H e p Q c =>
  ha σ F H e p _ fun v x F1 H1 ⟨xs, hx, hn⟩ po1 dv => eo_none σ F1 H1 (e.mono po1.ff) (p.next po1) _ fun F2 H2 po2 => h2 σ F2 H2 ((e.mono po1.ff).mono po2.ff) ((p.next po1).next po2) _ fun w y F3 H3 ⟨i, hy, i0, _⟩ po3 dw => by
    subst hx hy
    refine ⟨i, da_int.mp dw, ?_⟩
    have p3 := ((p.next po1).next po2).next po3
    have po := (po1.trans p.am po2).trans p.am po3
    have hv := Da.mono (fun a o h => po3.ff _ _ (po2.ff _ _ h)) _ _ dv
    obtain ⟨a, us, rfl, ha, hx⟩ := da_list.mp hv
    obtain ⟨k, rfl⟩ : ∃ k : Nat, i = (k : Int) := ⟨i.toNat, by omega⟩
    have e1 : cutD xs none (some (k : Int)) = xs.take (min k xs.length) := by
      unfold cutD
      rw [HT.sIx_none, HT.sIx_nat, List.drop_zero, Nat.sub_zero]
    have hm := hM xs (min k xs.length) hn
    rw [← e1] at hm
    exact .inl ⟨a, us, rfl, SqL.of (p3.fh _ _ ha), fun q hq => c q _ _ F3 _ hm (po.trans p.am (Post.new0 p3 hq)) (pre_none p3 hq) (none_back p.am po.le po.am hq) upd_same (das_cut hx)⟩
theorem evp_mulP {i lo hi : Int} (ha : EvD A ta ρ (.int i)) (hb : EvP A tb ρ (IntIn lo hi)) (h : -1000000 ≤ i ∧ i ≤ 1000000) : EvP A (tOp rMul2 ta tb) ρ (fun w => ∃ j : Int, lo ≤ j ∧ j < hi ∧ w = .int (i * j)) :=
  evp_op (P1 := fun w => w = .int i) ha (fun _ _ => hb) fun x y e1 ⟨j, e2, h0, h1⟩ => by
    subst e1 e2
    have hr : R2P A rMul2 (.int i) (.int j) (fun w => w = .int (i * j)) := r2_val fun F H v w p hv hw => ⟨_, da_int.mpr rfl, fun Q q => .inl ⟨i, j, da_int.mp hv, da_int.mp hw, .inl (.inl ⟨by omega, by omega⟩), q⟩⟩
    exact fun F H v w p dv dw Q c => hr F H v w p dv dw Q fun u d F3 H3 hd => c u d F3 H3 ⟨j, h0, h1, hd⟩
theorem evp_isN {b : Bool} (ha : EvP A ta ρ (fun w => isNo w = b)) : EvD A (tIsN ta) ρ (.bool b) := fun σ F H e p Q c =>
  ha σ F H e p _ fun v d F1 H1 hd po dv => c _ _ F1 H1 rfl po (by
    rw [← hd, ← da_isNo dv]
    exact da_bool.mpr rfl)
theorem run_setNF {i : Nat} {N : List PyData → Prop} (hi : i < ρ.length) (h : EvN A te (ρ.map fz) N) (hL : ∀ ds, N ds → noLs ds = true) (hn : ∀ ds, N ds → C.nx (ρ.set i (.own ds))) : Run A (tAsg te (gName i)) ρ C := fun G F0 H0 σ F H D o e =>
  h σ _ H o.frz.en o.frz.pre _ fun a vs ds F1 H1 hd po f1 h0 ha dv => by
    have po2 := o.look po
    have dv := Das.tup (o.look_le po) _ _ (hL ds hd) dv
    have o1 := o.step po2
    have f2 : tupF F F1 a = none := by
      cases e2 : tupF F F1 a with
      | none => rfl
      | some x =>
        rcases tupF_some e2 with z | ⟨_, z, _⟩
        · have := o.look_le po _ _ z
          rw [f1] at this
          cases this
        · rw [f1] at z
          cases z
    refine e.nx _ _ _ H1 (hn ds hd) (o1.setN i hi ha f2 (none_back o.pre0.am o.post.le o.post.am h0) dv fun j es n hj z => ?_)
    obtain ⟨b, us, k1, k2, _⟩ := o.ow j es hj
    rw [k1] at z
    cases z
    rw [h0] at k2
    cases k2
theorem Ok_frz1 {G F0 H0 F H : Hp} {σ : L2.St} {j : Nat} {ds : List PyData} (o : Ok A G F0 H0 ρ σ F H) (hj : ρ[j]? = some (.own ds)) : ∃ F', Ok A G F0 H0 (ρ.set j (.dat (.list ds))) σ F' H := by
  obtain ⟨a, vs, h1, h2, h3, h4, h5⟩ := o.ow j ds hj
  have hle : ∀ b x, F b = some x → upd F a (.lst vs) b = some x := le_upd h3
  refine ⟨upd F a (.lst vs), fun b x h => hle _ _ (o.gf _ _ h), ?_, o.pre0, ⟨o.post.le, fun b x h => hle _ _ (o.post.ff _ _ h), fun b x h => ?_, fun b x h => ?_, o.post.am⟩, fun i es hi => ?_, fun i k es fs b hi hk e1 e2 => ?_, fun i d hi => ?_, fun i k d e b hi hk e1 e2 => ?_⟩
  · have e := (o.en.mono hle).set j (b := .dat (.list ds)) (o := some (.ref a)) ⟨_, rfl, da_list.mpr ⟨a, vs, rfl, upd_same, h5.mono hle⟩⟩
    rw [show σ.set j (some (.ref a)) = σ from by
      apply List.ext_getElem?
      intro i
      by_cases hi : j = i
      · subst hi
        have hl := (List.getElem?_eq_some_iff.mp h1).1
        rw [List.getElem?_set_self hl, h1]
      · rw [List.getElem?_set_ne hi]] at e
    exact e
  · by_cases e : b = a
    · subst e
      rw [upd_same] at h
      cases h
      exact h2
    · rw [upd_ne e] at h
      exact o.post.fh _ _ h
  · by_cases e : b = a
    · subst e
      exact .inr h4
    · rw [upd_ne e] at h
      exact o.post.fr _ _ h
  · obtain ⟨n, hi⟩ : i ≠ j ∧ ρ[i]? = some (.own es) := by
      rcases set_some hi with ⟨_, z⟩ | ⟨n, z⟩
      · cases z
      · exact ⟨n, z⟩
    obtain ⟨b, us, k1, k2, k3, k4, k5⟩ := o.ow i es hi
    have hb : b ≠ a := fun z => n (by
      subst z
      exact o.oj i j es ds b hi hj k1 h1)
    exact ⟨b, us, k1, k2, by rw [upd_ne hb]; exact k3, k4, k5.mono hle⟩
  · have g : ∀ {i : Nat} {es : List PyData}, (ρ.set j (.dat (.list ds)))[i]? = some (.own es) → ρ[i]? = some (.own es) := fun hi => by
      rcases set_some hi with ⟨_, z⟩ | ⟨n, z⟩
      · cases z
      · exact z
    exact o.oj i k es fs b (g hi) (g hk) e1 e2
  · obtain ⟨n, hi⟩ := set_tab (by intro _ z; cases z) hi
    obtain ⟨b, u, k1, k2, k3, k4, k5⟩ := o.tw i d hi
    have hb : b ≠ a := fun z => by
      subst z
      rw [k2] at h2
      exact k5.nl vs (Option.some.inj h2)
    exact ⟨b, u, k1, k2, by rw [upd_ne hb]; exact k3, k4, k5.mono hle⟩
  · exact o.tj i k d e b (set_tab (by intro _ z; cases z) hi).2 (set_tab (by intro _ z; cases z) hk).2 e1 e2
/-- one own list is let go, the others stay -/
theorem run_frz1 {t : TS} {ds : List PyData} (j : Nat) (hj : ρ[j]? = some (.own ds)) (h : Run A t (ρ.set j (.dat (.list ds))) C) : Run A t ρ C := fun G F0 H0 σ F H D o e => by
  obtain ⟨F', o'⟩ := Ok_frz1 o hj
  exact h G F0 H0 σ F' H D o' e
theorem noDs_prs (f : Int × Int → PyData) (hf : ∀ p, noD (f p) = true) : ∀ ls : List (Int × Int), noDs (ls.map f) = true
  | [] => rfl
  | l :: ls => by simp only [List.map_cons, noDs, hf, noDs_prs f hf ls, Bool.and_self]
abbrev prD (p : Int × Int) : PyData := .tuple [.int p.1, .int p.2]
def sortPr (rs : List (Int × Int)) : List (Int × Int) := rs.mergeSort (PySem.W.dataLe false prD)
def lePr (p q : Int × Int) : Prop := p.1 < q.1 ∨ (p.1 = q.1 ∧ p.2 ≤ q.2)
theorem sortPr_perm (rs : List (Int × Int)) : (sortPr rs).Perm rs := List.mergeSort_perm _ _
theorem sortPr_up (rs : List (Int × Int)) : (sortPr rs).Pairwise lePr := by
  have e : PySem.W.dataLe false prD = fun p q : Int × Int => decide (p.1 < q.1 ∨ (p.1 = q.1 ∧ p.2 ≤ q.2)) := PySem.W.dataLe_ii (fun p : Int × Int => p.1) (fun p : Int × Int => p.2)
  unfold sortPr
  rw [e]
  show (rs.mergeSort _).Pairwise fun p q : Int × Int => p.1 < q.1 ∨ (p.1 = q.1 ∧ p.2 ≤ q.2)
  refine (List.pairwise_mergeSort (le := fun p q : Int × Int => decide (p.1 < q.1 ∨ (p.1 = q.1 ∧ p.2 ≤ q.2))) (fun a b c h1 h2 => ?_) (fun a b => ?_) rs).imp fun h => of_decide_eq_true h
  · have h1 := of_decide_eq_true h1
    have h2 := of_decide_eq_true h2
    exact decide_eq_true (by omega)
  · rcases (show (a.1 < b.1 ∨ (a.1 = b.1 ∧ a.2 ≤ b.2)) ∨ (b.1 < a.1 ∨ (b.1 = a.1 ∧ b.2 ≤ a.2)) by omega) with h | h
    · rw [decide_eq_true h]
      rfl
    · rw [decide_eq_true h, Bool.or_true]
theorem el_sortPr {rs : List (Int × Int)} (h : EvD A te ρ (.list (rs.map prD))) : EvL A (tCB (rSortD K) (tCons te tNil)) ρ ((sortPr rs).map prD) := by
  unfold sortPr
  rw [← sortL_map]
  refine el_sorted h (noDs_prs prD (fun _ => rfl) _) (PySem.W.AllAlike.of fun a b => ?_) (.inl fun d hd => ?_) (fun d hd => ?_)
  · simp [PySem.W.alike, PySem.W.alikeAll]
  · obtain ⟨p, _, rfl⟩ := List.mem_map.mp hd
    exact ⟨_, _, rfl⟩
  · obtain ⟨p, _, rfl⟩ := List.mem_map.mp hd
    simp [PyData.depth, PyData.depthAll]
theorem el_sortPrN {N M : List PyData → Prop} (h : EvP A te ρ (fun d => ∃ ds, d = .list ds ∧ N ds)) (hN : ∀ ds, N ds → ∃ rs : List (Int × Int), ds = rs.map prD) (hM : ∀ rs : List (Int × Int), N (rs.map prD) → M ((sortPr rs).map prD)) : EvN A (tCB (rSortD K) (tCons te tNil)) ρ M :=
  evn_cb (N := fun bs => ∃ ds, bs = [.dat (.list ds)] ∧ N ds) (eap_cons h (fun _ _ => ea_nil) (fun x bs ⟨ds, hx, hn⟩ hb => ⟨ds, by rw [hx, hb], hn⟩)) fun bs ⟨ds, hb, hn⟩ => by
    subst hb
    obtain ⟨rs, rfl⟩ := hN ds hn
    intro F H vs p hv Q c
    obtain ⟨v, ev, hv1⟩ := vas1 hv
    subst ev
    have hv := hv1
    obtain ⟨a, xs, rfl, hfa, hx⟩ := da_list.mp hv
    refine ⟨a, xs, rs.map prD, rfl, SqL.of (p.fh _ _ hfa), Das.dp p.fh _ _ (noDs_prs prD (fun _ => rfl) _) hx, PySem.W.AllAlike.of fun a b => ?_, .inl fun d hd => ?_, fun d hd => ?_, fun l hl => c l _ _ F _ (hM rs hn) (Post.new0 p hl) (pre_none p hl) hl upd_same ?_⟩
    · simp [PySem.W.alike, PySem.W.alikeAll]
    · obtain ⟨p, _, rfl⟩ := List.mem_map.mp hd
      exact ⟨_, _, rfl⟩
    · obtain ⟨p, _, rfl⟩ := List.mem_map.mp hd
      simp [PyData.depth, PyData.depthAll]
    · have := das_sort hx
      rw [sortL_map] at this
      exact this
def sortIs (is : List Int) : List Int := is.mergeSort (PySem.W.dataLe false PyData.int)
theorem sortIs_perm (is : List Int) : (sortIs is).Perm is := List.mergeSort_perm _ _
theorem sortIs_up (is : List Int) : (sortIs is).Pairwise (· ≤ ·) := by
  have e : PySem.W.dataLe false PyData.int = fun p q : Int => decide (p ≤ q) := PySem.W.dataLe_int (fun p : Int => p)
  unfold sortIs
  rw [e]
  refine (List.pairwise_mergeSort (fun a b c h1 h2 => ?_) (fun a b => ?_) is).imp fun h => of_decide_eq_true h
  · have h1 := of_decide_eq_true h1
    have h2 := of_decide_eq_true h2
    exact decide_eq_true (by omega)
  · rcases (show a ≤ b ∨ b ≤ a by omega) with h | h
    · rw [decide_eq_true h]
      rfl
    · rw [decide_eq_true h, Bool.or_true]
theorem el_sortIs {is : List Int} (h : EvD A te ρ (.list (is.map .int))) : EvL A (tCB (rSortD K) (tCons te tNil)) ρ ((sortIs is).map .int) := el_sortI h
theorem el_sortIsN {N M : List PyData → Prop} (h : EvP A te ρ (fun d => ∃ ds, d = .list ds ∧ N ds)) (hN : ∀ ds, N ds → ∃ is : List Int, ds = is.map .int) (hM : ∀ is : List Int, N (is.map .int) → M ((sortIs is).map .int)) : EvN A (tCB (rSortD K) (tCons te tNil)) ρ M :=
  evn_cb (N := fun bs => ∃ ds, bs = [.dat (.list ds)] ∧ N ds) (eap_cons h (fun _ _ => ea_nil) (fun x bs ⟨ds, hx, hn⟩ hb => ⟨ds, by rw [hx, hb], hn⟩)) fun bs ⟨ds, hb, hn⟩ => by
    subst hb
    obtain ⟨is, rfl⟩ := hN ds hn
    intro F H vs p hv Q c
    obtain ⟨v, ev, hv1⟩ := vas1 hv
    subst ev
    have hv := hv1
    obtain ⟨a, xs, rfl, hfa, hx⟩ := da_list.mp hv
    refine ⟨a, xs, is.map .int, rfl, SqL.of (p.fh _ _ hfa), Das.dp p.fh _ _ (noDs_ints _) hx, PySem.W.AllAlike.of fun a b => rfl, .inr fun d hd => ?_, fun d hd => ?_, fun l hl => c l _ _ F _ (hM is hn) (Post.new0 p hl) (pre_none p hl) hl upd_same ?_⟩
    · obtain ⟨p, _, rfl⟩ := List.mem_map.mp hd
      exact ⟨(fun z => nomatch z), fun _ z => nomatch z⟩
    · obtain ⟨p, _, rfl⟩ := List.mem_map.mp hd
      exact Nat.zero_le _
    · have := das_sort hx
      rw [sortL_map] at this
      exact this
/-- strictly rising if no two are alike -/
theorem up_strict {is : List Int} (h : is.Pairwise (· ≤ ·)) (hn : is.Nodup) : is.Pairwise (· < ·) := by
  induction is with
  | nil => exact .nil
  | cons a l ih =>
    rw [List.pairwise_cons] at h ⊢
    rw [List.nodup_cons] at hn
    refine ⟨fun b hb => ?_, ih h.2 hn.2⟩
    have := h.1 b hb
    have : a ≠ b := fun e => hn.1 (e ▸ hb)
    omega
def ltPr (p q : Int × Int) : Prop := p.1 < q.1 ∨ (p.1 = q.1 ∧ p.2 < q.2)
instance : DecidableRel ltPr := fun a b => inferInstanceAs (Decidable (a.1 < b.1 ∨ (a.1 = b.1 ∧ a.2 < b.2)))
theorem up_strictP {rs : List (Int × Int)} (h : rs.Pairwise lePr) (hn : rs.Nodup) : rs.Pairwise ltPr := by
  induction rs with
  | nil => exact .nil
  | cons a l ih =>
    rw [List.pairwise_cons] at h ⊢
    rw [List.nodup_cons] at hn
    refine ⟨fun b hb => ?_, ih h.2 hn.2⟩
    have h1 := h.1 b hb
    have h2 : a ≠ b := fun e => hn.1 (e ▸ hb)
    have h3 : ¬ (a.1 = b.1 ∧ a.2 = b.2) := fun z => h2 (Prod.ext z.1 z.2)
    unfold lePr at h1
    unfold ltPr
    omega
theorem er_map {α β : Type} (f : α → β) : ∀ (l : List α) (i : Nat), (l.map f).eraseIdx i = (l.eraseIdx i).map f
  | [], _ => rfl
  | _ :: _, 0 => rfl
  | x :: l, i + 1 => congrArg (f x :: ·) (er_map f l i)
end
end Pu

/-! Each thing once: sorted(dict(..)) against a rising list; chains. -/
namespace Pu
open PySem L2 StX
section
variable {α β : Type} [DecidableEq α] [DecidableEq β]
def firstG (acc l : List α) : List α := l.foldl (fun acc k => if acc.any (fun q => decide (q = k)) = true then acc else acc ++ [k]) acc
theorem any_dec (acc : List α) (k : α) : (acc.any fun q => decide (q = k)) = decide (k ∈ acc) := by
  rw [Bool.eq_iff_iff, List.any_eq_true, decide_eq_true_iff]
  exact ⟨fun ⟨q, h, e⟩ => of_decide_eq_true e ▸ h, fun h => ⟨k, h, decide_eq_true rfl⟩⟩
theorem firstG_cons (acc : List α) (k : α) (l : List α) : firstG acc (k :: l) = firstG (if k ∈ acc then acc else acc ++ [k]) l := by
  unfold firstG
  rw [List.foldl_cons, any_dec]
  congr 1
  by_cases h : k ∈ acc
  · rw [if_pos h, decide_eq_true h, if_pos rfl]
  · rw [if_neg h, decide_eq_false h, if_neg (by decide)]
theorem firstG_mem : ∀ (l acc : List α) (x : α), x ∈ firstG acc l ↔ x ∈ acc ∨ x ∈ l
  | [], acc, x => ⟨.inl, fun h => h.elim id fun z => by cases z⟩
  | k :: l, acc, x => by
    rw [firstG_cons, firstG_mem l]
    by_cases h : k ∈ acc
    · rw [if_pos h, List.mem_cons]
      constructor
      · rintro (h1 | h1)
        · exact .inl h1
        · exact .inr (.inr h1)
      · rintro (h1 | rfl | h1)
        · exact .inl h1
        · exact .inl h
        · exact .inr h1
    · rw [if_neg h, List.mem_append, List.mem_singleton, List.mem_cons, or_assoc]
theorem firstG_nodup : ∀ (l acc : List α), acc.Nodup → (firstG acc l).Nodup
  | [], _, h => h
  | k :: l, acc, h => by
    rw [firstG_cons]
    by_cases hk : k ∈ acc
    · rw [if_pos hk]
      exact firstG_nodup l acc h
    · rw [if_neg hk]
      refine firstG_nodup l _ (List.nodup_append.mpr ⟨h, List.nodup_cons.mpr ⟨(fun z => by cases z), .nil⟩, fun a ha b hb => ?_⟩)
      rw [List.mem_singleton.mp hb]
      exact fun e => hk (e ▸ ha)
theorem firstG_id : ∀ (l acc : List α), (acc ++ l).Nodup → firstG acc l = acc ++ l
  | [], acc, _ => (List.append_nil acc).symm
  | k :: l, acc, h => by
    have hk : k ∉ acc := fun z => (List.nodup_append.mp h).2.2 k z k List.mem_cons_self rfl
    rw [firstG_cons, if_neg hk, firstG_id l _ (by rw [List.append_assoc]; exact h), List.append_assoc]
    rfl
theorem firstG_map (f : α → β) (hf : ∀ a b, f a = f b → a = b) : ∀ (l acc : List α), firstG (acc.map f) (l.map f) = (firstG acc l).map f
  | [], _ => rfl
  | k :: l, acc => by
    rw [List.map_cons, firstG_cons, firstG_cons]
    have e : f k ∈ acc.map f ↔ k ∈ acc := ⟨fun h => by
      obtain ⟨a, ha, e⟩ := List.mem_map.mp h
      exact hf _ _ e ▸ ha, fun h => List.mem_map.mpr ⟨k, h, rfl⟩⟩
    by_cases h : k ∈ acc
    · rw [if_pos h, if_pos (e.mpr h), firstG_map f hf l]
    · rw [if_neg h, if_neg (fun z => h (e.mp z)), ← firstG_map f hf l, List.map_append]
      rfl
end
theorem nodup_up {is : List Int} (h : is.Pairwise (· < ·)) : is.Nodup := h.imp fun h => by omega
theorem nodup_upP {rs : List (Int × Int)} (h : rs.Pairwise ltPr) : rs.Nodup := h.imp fun {a b} h e => by
  subst e
  unfold ltPr at h
  omega
theorem firstI_eq (is : List Int) : firstI [] is = firstG [] is := rfl
/-- sorted and each once: it is the list itself just if that rises -/
theorem sorted_once {is ys : List Int} (hp : ys.Perm (firstI [] is)) (hu : ys.Pairwise (· ≤ ·)) : is = ys ↔ is.Pairwise (· < ·) := by
  rw [firstI_eq] at hp
  constructor
  · intro e
    subst e
    exact up_strict hu (hp.nodup_iff.mpr (firstG_nodup is [] .nil))
  · intro h
    rw [firstG_id is [] (nodup_up h)] at hp
    exact (List.Perm.eq_of_pairwise (fun a b _ _ h1 h2 => by omega) (h.imp fun h => by omega) hu hp.symm)
theorem sorted_onceP (rs : List (Int × Int)) : rs = sortPr (firstG [] rs) ↔ rs.Pairwise ltPr := by
  constructor
  · intro e
    have h1 := sortPr_up (firstG [] rs)
    have h2 : (sortPr (firstG [] rs)).Nodup := (sortPr_perm _).nodup_iff.mpr (firstG_nodup rs [] .nil)
    rw [← e] at h1 h2
    exact up_strictP h1 h2
  · intro h
    have hp := sortPr_perm (firstG [] rs)
    rw [firstG_id rs [] (nodup_upP h)] at hp ⊢
    refine List.Perm.eq_of_pairwise (fun a b _ _ h1 h2 => ?_) (h.imp fun {a b} h => ?_) (sortPr_up _) hp.symm
    · unfold lePr at h1 h2
      exact Prod.ext (by omega) (by omega)
    · unfold ltPr at h
      unfold lePr
      omega
section
variable {A : Am} {ρ : List Ab} {te ta tb : TE} {K : PySem.W.Frag}
theorem keyD2 (a b : Int) : keyD [.inl a, .inl b] = prD (a, b) := rfl
theorem el_sortDictP {rs : List (Int × Int)} (h : EvD A te ρ (.list (rs.map fun r => .tuple [prD r, .int 0]))) (hl : rs.length ≤ 1000) : EvL A (tCB (rSortDO K) (tCons (tCB (rDictO K) (tCons te tNil)) tNil)) ρ ((sortPr (firstG [] rs)).map prD) := by
  let kp : Int × Int → List Key := fun r => [.inl r.1, .inl r.2]
  let ps : List (List Key × PyData) := rs.map fun r => (kp r, .int 0)
  have e1 : ps.map (·.1) = rs.map kp := by
    show (rs.map _).map _ = _
    rw [List.map_map]
    rfl
  have e2 : firstK [] (ps.map (·.1)) = (firstG [] rs).map kp := by
    rw [e1]
    exact firstG_map kp (fun a b e => by
      have e : [Sum.inl a.1, Sum.inl a.2] = ([Sum.inl b.1, Sum.inl b.2] : List Key) := e
      injection e with e3 e4
      injection e4 with e4 _
      exact Prod.ext (Sum.inl.inj e3) (Sum.inl.inj e4)) rs []
  have e3 : (firstK [] (ps.map (·.1))).map keyD = (firstG [] rs).map prD := by
    rw [e2, List.map_map]
    rfl
  have e4 : (ps.map fun p => PyData.tuple [keyD p.1, p.2]) = rs.map fun r => .tuple [prD r, .int 0] := by
    show (rs.map _).map _ = _
    rw [List.map_map]
    rfl
  have := el_sortDict (K := K) (ps := ps) (te := te) (ρ := ρ) (A := A) (by rw [e4]; exact h) (fun p hp => by
    obtain ⟨r, _, rfl⟩ := List.mem_map.mp hp
    rfl) (by show (rs.map _).length ≤ _; rw [List.length_map]; exact hl) (by
    rw [e3]
    exact PySem.W.AllAlike.of fun a b => by simp [PySem.W.alike, PySem.W.alikeAll]) (.inl fun d hd => by
    rw [e3] at hd
    obtain ⟨p, _, rfl⟩ := List.mem_map.mp hd
    exact ⟨_, _, rfl⟩)
  rw [e3, sortL_map] at this
  exact this
/-- list(xs) != sorted(dict(..)) -/
theorem ev_neSD {is : List Int} (ha : EvD A ta ρ (.list (is.map .int))) (hb : EvN A tb ρ (fun ds => ∃ ys : List Int, ds = ys.map .int ∧ ys.Perm (firstI [] is) ∧ ys.Pairwise (· ≤ ·))) (hn : NC (.list (is.map .int))) (hs : ∀ i ∈ is, Nb 40 i) (hl : is.length ≤ 1000) : EvD A (tOp (rNe2 K) ta tb) ρ (.bool (!decide (is.Pairwise (· < ·)))) :=
  evp_op (P1 := fun w => w = .list (is.map .int)) (P2 := fun w => ∃ ys : List Int, w = .list (ys.map .int) ∧ ys.Perm (firstI [] is) ∧ ys.Pairwise (· ≤ ·)) ha (fun _ _ => hb.frz.imp fun d ⟨ds, e, ys, e2, h⟩ => ⟨ys, by rw [e, e2], h⟩) fun x y e ⟨ys, e2, hp, hu⟩ => by
    subst e e2
    have hm : ∀ i ∈ ys, Nb 40 i := fun i hi => hs i (by
      have := hp.mem_iff.mp hi
      rw [firstI_eq] at this
      exact ((firstG_mem is [] i).mp this).elim (fun z => by cases z) id)
    have hly : ys.length ≤ 1000 := by
      have h1 := hp.length_eq
      have h2 := firstI_len is []
      rw [List.length_nil] at h2
      omega
    have hy : NC (.list (ys.map .int)) := NC.list (n := 0) (m := 45) 1000 (by rw [List.length_map]; exact hly) (nc_map fun i hi => (hm i hi).nc) (by decide) (by decide)
    have := r2_r (r := rNe) (r2_ne (A := A) (K := K) hn.nod hy.nod (hn.shaped (by decide)) (hy.shaped (by decide)))
    rw [eqv_lmap eqv_int, decide_eq_decide.mpr (sorted_once hp hu)] at this
    exact this
theorem ei_tI {ds : List PyData} (h : EvD A te ρ (.tuple ds)) : EvI A (iSeq K te) ρ (fun w => w = ds.map fun d => d) := by
  rw [List.map_id']
  exact ei_tup h
theorem ei_lI {ds : List PyData} (h : EvD A te ρ (.list ds)) : EvI A (iSeq K te) ρ (fun w => w = ds.map fun d => d) := by
  rw [List.map_id']
  exact ei_lst h
theorem ea_starL {tas : TA} {bs : List Ab} {ds : List PyData} (h : EvD A te ρ (.list ds)) (hr : EvA A tas ρ (fun w => w = bs)) : EvA A (tStar K te tas) ρ (fun w => w = ds.map Ab.dat ++ bs) := fun σ F H e p Q c =>
  h σ F H e p _ fun v x F1 H1 hx po1 dv => by
    subst hx
    obtain ⟨a, xs, rfl, ha, hx⟩ := da_list.mp dv
    refine ⟨a, xs, rfl, .inr (SqL.of (po1.fh _ _ ha)), hr σ F1 H1 (e.mono po1.ff) (p.next po1) _ fun ws bs' F2 H2 hb po2 hw => ?_⟩
    subst hb
    exact c (xs ++ ws) _ F2 H2 rfl (po1.trans p.am po2) (vas_app (Das.mono po2.ff _ _ hx) hw)
end
/-- the first that a test takes -/
theorem find_at {α : Type} {p : α → Bool} {x : α} : ∀ {l : List α} {k : Nat}, (∀ y ∈ l.take k, p y = false) → l[k]? = some x → p x = true → l.find? p = some x
  | [], k, _, h, _ => by cases h
  | y :: l, 0, _, h, e => by
    cases h
    exact List.find?_cons_of_pos e
  | y :: l, k + 1, h0, h, e => by
    rw [List.take_succ_cons] at h0
    rw [List.find?_cons_of_neg (by rw [h0 y List.mem_cons_self]; decide)]
    exact find_at (fun z hz => h0 z (List.mem_cons_of_mem _ hz)) h e
theorem find_no {α : Type} {p : α → Bool} {l : List α} (h : ∀ y ∈ l.take l.length, p y = false) : l.find? p = none := by
  rw [List.take_length] at h
  exact List.find?_eq_none.mpr fun y hy => by rw [h y hy]; decide
theorem take_step {α : Type} {l : List α} {k : Nat} {x : α} {p : α → Bool} (h : ∀ y ∈ l.take k, p y = false) (hx : l[k]? = some x) (e : p x = false) : ∀ y ∈ l.take (k + 1), p y = false := fun y hy => by
  rw [List.take_succ, hx] at hy
  rcases List.mem_append.mp hy with hy | hy
  · exact h y hy
  · rw [List.mem_singleton.mp (show y ∈ [x] from hy)]
    exact e
/-- step by step in order, so in order -/
theorem chain_all {α : Type} {r : α → α → Prop} (ht : ∀ a b c, r a b → r b c → r a c) : ∀ l : List α, (∀ (k : Nat) (a b : α), l[k]? = some a → l[k + 1]? = some b → r a b) ↔ l.Pairwise r
  | [] => ⟨fun _ => .nil, fun _ k a b h => by cases h⟩
  | [x] => ⟨fun _ => List.pairwise_singleton _ _, fun _ k a b _ h => by cases h⟩
  | x :: y :: l => by
    have ih := chain_all ht (y :: l)
    constructor
    · intro h
      have hp := ih.mp fun k a b h1 h2 => h (k + 1) a b h1 h2
      have hxy : r x y := h 0 x y rfl rfl
      refine List.pairwise_cons.mpr ⟨fun z hz => ?_, hp⟩
      rcases List.mem_cons.mp hz with rfl | hz
      · exact hxy
      · exact ht _ _ _ hxy ((List.pairwise_cons.mp hp).1 z hz)
    · intro h k a b h1 h2
      cases k with
      | zero =>
        cases h1
        cases h2
        exact (List.pairwise_cons.mp h).1 _ List.mem_cons_self
      | succ k => exact ih.mpr (List.pairwise_cons.mp h).2 k a b h1 h2
end Pu

/-! Dicts of a def's own. -/
namespace Pu
open PySem L2
section
variable {κ : Type} [DecidableEq κ]
def getE (xs : List (κ × PyData)) (k : κ) : Option PyData := (xs.find? fun p => decide (p.1 = k)).map (·.2)
def putE (xs : List (κ × PyData)) (k : κ) (d : PyData) : List (κ × PyData) := if (xs.any fun p => decide (p.1 = k)) = true then xs.map (fun p => if p.1 = k then (p.1, d) else p) else xs ++ [(k, d)]
/-- entries and what stands in the heap -/
def DkR (F : Hp) (xs : List (κ × PyData)) (ys : List (κ × V)) : Prop := ys.map (·.1) = xs.map (·.1) ∧ Das F (xs.map (·.2)) (ys.map (·.2))
theorem DkR.nil {F : Hp} : DkR F ([] : List (κ × PyData)) [] := ⟨rfl, .nil⟩
theorem DkR.cons {F : Hp} {k : κ} {d : PyData} {v : V} {xs : List (κ × PyData)} {ys : List (κ × V)} (h : Da F d v) (t : DkR F xs ys) : DkR F ((k, d) :: xs) ((k, v) :: ys) := ⟨by rw [List.map_cons, List.map_cons, t.1], .cons h t.2⟩
theorem DkR.inv {F : Hp} {k : κ} {d : PyData} {xs : List (κ × PyData)} {ys : List (κ × V)} (h : DkR F ((k, d) :: xs) ys) : ∃ v ys', ys = (k, v) :: ys' ∧ Da F d v ∧ DkR F xs ys' := by
  cases ys with
  | nil => cases h.1
  | cons y ys =>
    obtain ⟨k', v⟩ := y
    have h1 := List.cons.inj h.1
    obtain ⟨w, ws, e, d1, d2⟩ := h.2.inv_cons
    have e := List.cons.inj e
    obtain ⟨rfl, rfl⟩ := e
    have hk : k' = k := h1.1
    subst hk
    exact ⟨v, ys, rfl, d1, h1.2, d2⟩
theorem DkR.mono {F F' : Hp} (h : ∀ a o, F a = some o → F' a = some o) {xs : List (κ × PyData)} {ys : List (κ × V)} (t : DkR F xs ys) : DkR F' xs ys := ⟨t.1, t.2.mono h⟩
theorem DkR.len {F : Hp} {xs : List (κ × PyData)} {ys : List (κ × V)} (t : DkR F xs ys) : ys.length = xs.length := by
  have := congrArg List.length t.1
  rwa [List.length_map, List.length_map] at this
theorem DkR.get {F : Hp} {k : κ} : ∀ {xs : List (κ × PyData)} {ys : List (κ × V)}, DkR F xs ys → (getE xs k = none → valV ys k = none) ∧ ∀ d, getE xs k = some d → ∃ v, valV ys k = some v ∧ Da F d v
  | [], ys, t => by
    have : ys = [] := by
      have := t.len
      exact List.eq_nil_of_length_eq_zero this
    subst this
    exact ⟨fun _ => rfl, fun d h => by cases h⟩
  | (j, e) :: xs, ys, t => by
    obtain ⟨v, ys', rfl, hd, t'⟩ := t.inv
    obtain ⟨h1, h2⟩ := DkR.get (k := k) t'
    by_cases hj : j = k
    · subst hj
      have e1 : getE ((j, e) :: xs) j = some e := by simp [getE, List.find?_cons]
      rw [e1]
      refine ⟨(fun z => by cases z), fun d z => ?_⟩
      cases z
      exact ⟨v, valV_pos rfl, hd⟩
    · have e1 : getE ((j, e) :: xs) k = getE xs k := by
        unfold getE
        rw [List.find?_cons_of_neg (by rw [decide_eq_false hj]; decide)]
      rw [e1, valV_neg hj]
      exact ⟨h1, h2⟩
theorem DkR.isSome {F : Hp} {k : κ} {xs : List (κ × PyData)} {ys : List (κ × V)} (t : DkR F xs ys) : (valV ys k).isSome = (getE xs k).isSome := by
  obtain ⟨h1, h2⟩ := t.get (k := k)
  cases e : getE xs k with
  | none => rw [h1 e]; rfl
  | some d =>
    obtain ⟨v, hv, _⟩ := h2 d e
    rw [hv]
    rfl
theorem DkR.any {F : Hp} {k : κ} {xs : List (κ × PyData)} {ys : List (κ × V)} (t : DkR F xs ys) : (ys.any fun p => decide (p.1 = k)) = xs.any fun p => decide (p.1 = k) := by
  have h : ∀ {α : Type} (l : List (κ × α)), (l.any fun p => decide (p.1 = k)) = (l.map (·.1)).any fun j => decide (j = k) := fun l => by
    rw [List.any_map]
    rfl
  rw [h ys, h xs, t.1]
theorem DkR.put {F : Hp} {k : κ} {d : PyData} {v : V} (hd : Da F d v) : ∀ {xs : List (κ × PyData)} {ys : List (κ × V)}, DkR F xs ys → DkR F (putE xs k d) (putK ys k v) := by
  have rep : ∀ {xs : List (κ × PyData)} {ys : List (κ × V)}, DkR F xs ys → DkR F (xs.map fun p => if p.1 = k then (p.1, d) else p) (ys.map fun p => if p.1 = k then (p.1, v) else p) := by
    intro xs
    induction xs with
    | nil =>
      intro ys t
      rw [List.eq_nil_of_length_eq_zero t.len]
      exact .nil
    | cons x xs ih =>
      intro ys t
      obtain ⟨j, e⟩ := x
      obtain ⟨u, ys', rfl, he, t'⟩ := t.inv
      rw [List.map_cons, List.map_cons]
      by_cases hj : j = k
      · rw [if_pos hj, if_pos hj]
        exact .cons hd (ih t')
      · rw [if_neg hj, if_neg hj]
        exact .cons he (ih t')
  intro xs ys t
  unfold putE putK
  rw [t.any]
  split
  · exact rep t
  · refine ⟨by rw [List.map_append, List.map_append, t.1]; rfl, ?_⟩
    rw [List.map_append, List.map_append]
    exact t.2.snoc hd
theorem putE_new {xs : List (κ × PyData)} {k : κ} {d : PyData} (h : getE xs k = none) : putE xs k d = xs ++ [(k, d)] := by
  unfold putE
  rw [if_neg]
  intro z
  obtain ⟨p, hp, e⟩ := List.any_eq_true.mp z
  unfold getE at h
  cases f : xs.find? fun p => decide (p.1 = k) with
  | none => exact (List.find?_eq_none.mp f) p hp e
  | some q => rw [f] at h; cases h
theorem getE_none {xs : List (κ × PyData)} {k : κ} : getE xs k = none ↔ k ∉ xs.map (·.1) := by
  unfold getE
  rw [Option.map_eq_none_iff, List.find?_eq_none]
  constructor
  · intro h z
    obtain ⟨p, hp, e⟩ := List.mem_map.mp z
    exact h p hp (decide_eq_true e)
  · intro h p hp e
    exact h (List.mem_map.mpr ⟨p, hp, of_decide_eq_true e⟩)
theorem getE_isSome {xs : List (κ × PyData)} {k : κ} : (getE xs k).isSome = decide (k ∈ xs.map (·.1)) := by
  by_cases h : k ∈ xs.map (·.1)
  · rw [decide_eq_true h]
    cases e : getE xs k with
    | none => exact absurd h (getE_none.mp e)
    | some d => rfl
  · rw [decide_eq_false h, getE_none.mpr h]
    rfl
theorem putE_len (xs : List (κ × PyData)) (k : κ) (d : PyData) : (putE xs k d).length ≤ xs.length + 1 := by
  unfold putE
  split
  · rw [List.length_map]
    omega
  · rw [List.length_append]
    exact Nat.le_refl _
end
theorem keD_inj {a b : Key} (h : keD a = keD b) : a = b := by
  cases a <;> cases b <;> first | exact congrArg Sum.inl (PyData.int.inj h) | exact congrArg Sum.inr (PyData.str.inj h) | cases h
theorem daK_iff {F : Hp} : ∀ {xs : List (Key × PyData)} {ys : List (Key × V)}, DaK F (xs.map fun p => (keD p.1, p.2)) ys ↔ DkR F xs ys
  | [], ys => by
    simp only [List.map_nil, DaK]
    exact ⟨fun h => by rw [h]; exact .nil, fun h => List.eq_nil_of_length_eq_zero h.len⟩
  | (k, d) :: xs, ys => by
    simp only [List.map_cons, DaK]
    constructor
    · rintro ⟨k', y, ys', rfl, e, h1, h2⟩
      cases keD_inj e
      exact .cons h1 (daK_iff.mp h2)
    · intro h
      obtain ⟨v, ys', rfl, h1, h2⟩ := h.inv
      exact ⟨k, v, ys', rfl, rfl, h1, daK_iff.mpr h2⟩
theorem daT_iff {F : Hp} : ∀ {xs : List (List Key × PyData)} {ys : List (List Key × V)}, DaT F (xs.map fun p => (keyD p.1, p.2)) ys ↔ DkR F xs ys
  | [], ys => by
    simp only [List.map_nil, DaT]
    exact ⟨fun h => by rw [h]; exact .nil, fun h => List.eq_nil_of_length_eq_zero h.len⟩
  | (k, d) :: xs, ys => by
    simp only [List.map_cons, DaT]
    constructor
    · rintro ⟨k', y, ys', rfl, e, h1, h2⟩
      cases keyD_inj e
      exact .cons h1 (daT_iff.mp h2)
    · intro h
      obtain ⟨v, ys', rfl, h1, h2⟩ := h.inv
      exact ⟨k, v, ys', rfl, rfl, h1, daT_iff.mpr h2⟩
theorem daO_k {F : Hp} {xs : List (Key × PyData)} {o : HO} : DaO F (.k xs) o ↔ ∃ ys, o = .dK ys ∧ DkR F xs ys :=
  ⟨fun ⟨ys, e, h⟩ => ⟨ys, e, daK_iff.mp h⟩, fun ⟨ys, e, h⟩ => ⟨ys, e, daK_iff.mpr h⟩⟩
theorem daO_t {F : Hp} {xs : List (List Key × PyData)} {o : HO} : DaO F (.t xs) o ↔ ∃ ys, o = .dT ys ∧ DkR F xs ys :=
  ⟨fun ⟨ys, e, h⟩ => ⟨ys, e, daT_iff.mp h⟩, fun ⟨ys, e, h⟩ => ⟨ys, e, daT_iff.mpr h⟩⟩
theorem da_ke {F : Hp} {k : Key} {v : V} (h : Da F (keD k) v) : v = kV k := by
  cases k with
  | inl i => exact da_int.mp h
  | inr x => exact da_str.mp h
/-- a new dict that nobody else has -/
def EvM (A : Am) (te : TE) (ρ : List Ab) (P : DO → Prop) : Prop :=
  ∀ σ F H, En A F ρ σ → Pre A F H → ∀ Q : VK, (∀ a o d F' H', P d → Post A F H F' H' → F' a = none → H a = none → H' a = some o → DaO F' d o → Q (.ref a) H') → te σ H Q
section
variable {A : Am} {ρ : List Ab} {C : Ct} {te ta tb td ty tv tk : TE} {n m : Nat} {ds : List PyData} {d : PyData} {P1 : PyData → Prop} {K : PySem.W.Frag}
theorem em_newK : EvM A tDNewK ρ (fun d => d = .k []) := fun σ F H e p Q c => fun a ha => c a _ _ F _ rfl (Post.new0 p ha) (pre_none p ha) ha upd_same (daO_k.mpr ⟨[], rfl, .nil⟩)
theorem em_newT : EvM A tDNewT ρ (fun d => d = .t []) := fun σ F H e p Q c => fun a ha => c a _ _ F _ rfl (Post.new0 p ha) (pre_none p ha) ha upd_same (daO_t.mpr ⟨[], rfl, .nil⟩)
/-- {k: d} -/
theorem em_disp1 {k : Key} (hk : EvD A tk ρ (keD k)) (hv : EvD A tv ρ d) : EvM A (tDisp [(tk, tv)]) ρ (fun x => x = .k [(k, d)]) := fun σ F H e p Q c => fun a ha => by
  have po0 := Post.new0 (o := .dK []) p ha
  refine hk σ F _ e (p.next po0) _ fun v x F1 H1 hx po1 dx => ?_
  subst hx
  have p1 := (p.next po0).next po1
  refine hv σ F1 H1 (e.mono po1.ff) p1 _ fun w y F2 H2 hy po2 dy => ?_
  subst hy
  have nd : ¬ A.dom a := fun z => A.tr _ _ p.am z ha
  have h2 : H2 a = some (.dK []) := po2.le _ _ (po1.le _ _ upd_same nd) nd
  have po := (po0.trans p.am po1).trans p.am po2
  have hF2 : F2 a = none := by
    cases e2 : F2 a with
    | none => rfl
    | some x =>
      rcases po2.fr _ _ e2 with z | z
      · rcases po1.fr _ _ z with z | z
        · rw [pre_none p ha] at z
          cases z
        · rw [upd_same] at z
          cases z
      · rw [po1.le _ _ upd_same nd] at z
        cases z
  refine ⟨h2, [(k, w)], by rw [da_ke dx]; rfl, by show 1 ≤ 15; decide, ?_⟩
  have po3 : Post A F H F2 (upd H2 a (.dK [(k, w)])) := ⟨fun b o h n => by rw [upd_ne (ne_of_none h ha)]; exact po.le _ _ h n, po.ff, fun b o h => by
    by_cases hb : b = a
    · subst hb
      rw [hF2] at h
      cases h
    · rw [upd_ne hb]
      exact po.fh _ _ h, po.fr, A.loc H2 _ (fun b o hd hb => by
    by_cases hb2 : b = a
    · subst hb2
      exact absurd hd nd
    · rw [upd_ne hb2]
      exact hb) po.am⟩
  exact c a _ _ F2 _ rfl po3 hF2 ha upd_same (daO_k.mpr ⟨_, rfl, .cons dy .nil⟩)
theorem run_setM {P : DO → Prop} (hi : n < ρ.length) (h : EvM A te ρ P) (hn : ∀ d, P d → C.nx (ρ.set n (.tab d))) : Run A (tAsg te (gName n)) ρ C := fun G F0 H0 σ F H D o e =>
  h σ F H o.en o.pre _ fun a u d F1 H1 hd po f1 h0 ha dv => by
    have o1 := o.step po
    refine e.nx _ _ F1 H1 (hn d hd) (o1.setT n hi ha f1 (none_back o.pre0.am o.post.le o.post.am h0) dv fun j f nj hj z => ?_)
    obtain ⟨b, us, k1, k2, _⟩ := o.tw j f hj
    rw [k1] at z
    cases z
    rw [h0] at k2
    cases k2
/-- d[k] = v, d one's own -/
theorem run_dputK {xs : List (Key × PyData)} {k : Key} (ho : ρ[n]? = some (.tab (.k xs))) (hl : xs.length ≤ 1000000) (hv : EvP A tv ρ P1) (hk : EvD A ty ρ (keD k)) (hn : ∀ d, P1 d → C.nx (ρ.set n (.tab (.k (putE xs k d))))) : Run A (sDPut (tVar n) ty tv) ρ C := fun G F0 H0 σ F H D o e =>
  hv σ F H o.en o.pre _ fun v d F1 H1 hd po dv => by
    have o1 := o.step po
    obtain ⟨a, u, k1, _⟩ := o.tw n _ ho
    refine ⟨_, k1, hk σ F1 H1 o1.en o1.pre _ fun w x F2 H2 hx po2 dw => ?_⟩
    subst hx
    have o2 := o1.step po2
    obtain ⟨a', u', q1, q2, q3, q4, q5⟩ := o2.tw n _ ho
    rw [k1] at q1
    cases q1
    obtain ⟨ys, rfl, hr⟩ := daO_k.mp q5
    refine ⟨a, _, rfl, .inl ⟨ys, k, q2, da_ke dw, by rw [hr.len]; exact lt_line hl, rfl⟩, ?_⟩
    exact e.nx _ σ F2 _ (hn d hd) (o2.chT ho k1 q3 q4 (daO_k.mpr ⟨_, rfl, hr.put (Da.mono po2.ff _ _ dv)⟩))
theorem run_dputT {xs : List (List Key × PyData)} {ks : List Key} (ho : ρ[n]? = some (.tab (.t xs))) (hl : xs.length ≤ 1000000) (hv : EvP A tv ρ P1) (hk : EvD A ty ρ (keyD ks)) (hn : ∀ d, P1 d → C.nx (ρ.set n (.tab (.t (putE xs ks d))))) : Run A (sDPut (tVar n) ty tv) ρ C := fun G F0 H0 σ F H D o e =>
  hv σ F H o.en o.pre _ fun v d F1 H1 hd po dv => by
    have o1 := o.step po
    obtain ⟨a, u, k1, _⟩ := o.tw n _ ho
    refine ⟨_, k1, hk σ F1 H1 o1.en o1.pre _ fun w x F2 H2 hx po2 dw => ?_⟩
    subst hx
    have o2 := o1.step po2
    obtain ⟨a', u', q1, q2, q3, q4, q5⟩ := o2.tw n _ ho
    rw [k1] at q1
    cases q1
    obtain ⟨ys, rfl, hr⟩ := daO_t.mp q5
    obtain ⟨b, rfl, hb⟩ := da_keyD dw
    refine ⟨a, _, rfl, .inr ⟨ys, ks, b, q2, rfl, o2.pre.fh _ _ hb, by rw [hr.len]; exact lt_line hl, rfl⟩, ?_⟩
    exact e.nx _ σ F2 _ (hn d hd) (o2.chT ho k1 q3 q4 (daO_t.mpr ⟨_, rfl, hr.put (Da.mono po2.ff _ _ dv)⟩))
/-- k in d, k not in d, d[k] -/
theorem ev_dinK {xs : List (Key × PyData)} {k : Key} (h : EvD A td ρ (DO.k xs).dat) (hk : EvD A ty ρ (keD k)) : EvD A (tDIn ty td) ρ (.bool (getE xs k).isSome) := fun σ F H e p Q c => hk σ F H e p _ fun v x F1 H1 hx po1 dv => by
  subst hx
  have p1 := p.next po1
  refine h σ F1 H1 (e.mono po1.ff) p1 _ fun w y F2 H2 hy po2 dw => ?_
  subst hy
  obtain ⟨a, o, rfl, ha, ho⟩ := da_DO.mp dw
  obtain ⟨ys, rfl, hr⟩ := daO_k.mp ho
  exact ⟨a, valV ys k, rfl, by rw [da_ke dv]; exact DGet.k (po2.fh _ _ ha), by rw [hr.isSome]; exact c _ _ F2 H2 rfl (po1.trans p.am po2) (da_bool.mpr rfl)⟩
theorem ev_dniK {xs : List (Key × PyData)} {k : Key} (h : EvD A td ρ (DO.k xs).dat) (hk : EvD A ty ρ (keD k)) : EvD A (tDNotIn ty td) ρ (.bool (!(getE xs k).isSome)) := fun σ F H e p Q c => hk σ F H e p _ fun v x F1 H1 hx po1 dv => by
  subst hx
  have p1 := p.next po1
  refine h σ F1 H1 (e.mono po1.ff) p1 _ fun w y F2 H2 hy po2 dw => ?_
  subst hy
  obtain ⟨a, o, rfl, ha, ho⟩ := da_DO.mp dw
  obtain ⟨ys, rfl, hr⟩ := daO_k.mp ho
  exact ⟨a, valV ys k, rfl, by rw [da_ke dv]; exact DGet.k (po2.fh _ _ ha), by rw [hr.isSome]; exact c _ _ F2 H2 rfl (po1.trans p.am po2) (da_bool.mpr rfl)⟩
theorem ev_dgetK {xs : List (Key × PyData)} {k : Key} (h : EvD A td ρ (DO.k xs).dat) (hk : EvD A ty ρ (keD k)) (hg : getE xs k = some d) : EvD A (tDGet td ty) ρ d := fun σ F H e p Q c => h σ F H e p _ fun v x F1 H1 hx po1 dv => by
  subst hx
  have p1 := p.next po1
  refine hk σ F1 H1 (e.mono po1.ff) p1 _ fun w y F2 H2 hy po2 dw => ?_
  subst hy
  obtain ⟨a, o, rfl, ha, ho⟩ := da_DO.mp (Da.mono po2.ff _ _ dv)
  obtain ⟨ys, rfl, hr⟩ := daO_k.mp ho
  obtain ⟨u, e1, e2⟩ := hr.get.2 d hg
  exact ⟨a, u, rfl, by rw [da_ke dw, ← e1]; exact DGet.k (po2.fh _ _ ha), c _ _ F2 H2 rfl (po1.trans p.am po2) e2⟩
theorem ev_dinT {xs : List (List Key × PyData)} {ks : List Key} (h : EvD A td ρ (DO.t xs).dat) (hk : EvD A ty ρ (keyD ks)) : EvD A (tDIn ty td) ρ (.bool (getE xs ks).isSome) := fun σ F H e p Q c => hk σ F H e p _ fun v x F1 H1 hx po1 dv => by
  subst hx
  have p1 := p.next po1
  refine h σ F1 H1 (e.mono po1.ff) p1 _ fun w y F2 H2 hy po2 dw => ?_
  subst hy
  obtain ⟨a, o, rfl, ha, ho⟩ := da_DO.mp dw
  obtain ⟨ys, rfl, hr⟩ := daO_t.mp ho
  obtain ⟨b, rfl, hb⟩ := da_keyD dv
  exact ⟨a, valV ys ks, rfl, DGet.t (po2.fh _ _ ha) (po2.fh _ _ (po2.ff _ _ hb)), by rw [hr.isSome]; exact c _ _ F2 H2 rfl (po1.trans p.am po2) (da_bool.mpr rfl)⟩
theorem ev_dniT {xs : List (List Key × PyData)} {ks : List Key} (h : EvD A td ρ (DO.t xs).dat) (hk : EvD A ty ρ (keyD ks)) : EvD A (tDNotIn ty td) ρ (.bool (!(getE xs ks).isSome)) := fun σ F H e p Q c => hk σ F H e p _ fun v x F1 H1 hx po1 dv => by
  subst hx
  have p1 := p.next po1
  refine h σ F1 H1 (e.mono po1.ff) p1 _ fun w y F2 H2 hy po2 dw => ?_
  subst hy
  obtain ⟨a, o, rfl, ha, ho⟩ := da_DO.mp dw
  obtain ⟨ys, rfl, hr⟩ := daO_t.mp ho
  obtain ⟨b, rfl, hb⟩ := da_keyD dv
  exact ⟨a, valV ys ks, rfl, DGet.t (po2.fh _ _ ha) (po2.fh _ _ (po2.ff _ _ hb)), by rw [hr.isSome]; exact c _ _ F2 H2 rfl (po1.trans p.am po2) (da_bool.mpr rfl)⟩
theorem ev_dgetOT {xs : List (List Key × PyData)} {ks : List Key} (h : EvD A td ρ (DO.t xs).dat) (hk : EvD A ty ρ (keyD ks)) (hg : getE xs ks = some d) : EvD A (tDGet td ty) ρ d := fun σ F H e p Q c => h σ F H e p _ fun v x F1 H1 hx po1 dv => by
  subst hx
  have p1 := p.next po1
  refine hk σ F1 H1 (e.mono po1.ff) p1 _ fun w y F2 H2 hy po2 dw => ?_
  subst hy
  obtain ⟨a, o, rfl, ha, ho⟩ := da_DO.mp (Da.mono po2.ff _ _ dv)
  obtain ⟨ys, rfl, hr⟩ := daO_t.mp ho
  obtain ⟨b, rfl, hb⟩ := da_keyD dw
  obtain ⟨u, e1, e2⟩ := hr.get.2 d hg
  exact ⟨a, u, rfl, by rw [← e1]; exact DGet.t (po2.fh _ _ ha) (po2.fh _ _ hb), c _ _ F2 H2 rfl (po1.trans p.am po2) e2⟩
/-- sorted(d), its keys whole numbers -/
theorem el_sortTab {xs : List (Key × PyData)} {ks : List Int} (h : EvD A te ρ (DO.k xs).dat) (hk : xs.map (·.1) = ks.map Sum.inl) (hl : ks.length < 64) : EvN A (tCB rSortDI (tCons te tNil)) ρ (fun ds => ∃ ys : List Int, ds = ys.map .int ∧ ys.Perm ks ∧ ys.Pairwise (· ≤ ·)) := fun σ F H e p Q c => by
  refine (ea_cons h ea_nil) σ F H e p _ fun vs bs F1 H1 hb po hv => ?_
  subst hb
  obtain ⟨v, ev, hv1⟩ := vas1 hv
  subst ev
  obtain ⟨a, o, rfl, ha, ho⟩ := da_DO.mp hv1
  obtain ⟨us, rfl, hr⟩ := daO_k.mp ho
  have p1 := p.next po
  refine ⟨a, us, ks, rfl, .inl (p1.fh _ _ ha), hr.1.trans hk, hl, fun ys r hy hs hq => ?_⟩
  exact c r _ _ F1 _ ⟨ys, rfl, hy, hs⟩ (po.trans p.am (Post.new0 p1 hq)) (pre_none p1 hq) (none_back p.am po.le po.am hq) upd_same (das_ints ys)
/-- list(d) -/
theorem el_listTab {xs : List (Key × PyData)} (h : EvD A te ρ (DO.k xs).dat) : EvL A (tCB rListD (tCons te tNil)) ρ (xs.map fun p => keD p.1) := fun σ F H e p Q c => by
  refine (ea_cons h ea_nil) σ F H e p _ fun vs bs F1 H1 hb po hv => ?_
  subst hb
  obtain ⟨v, ev, hv1⟩ := vas1 hv
  subst ev
  obtain ⟨a, o, rfl, ha, ho⟩ := da_DO.mp hv1
  obtain ⟨us, rfl, hr⟩ := daO_k.mp ho
  have p1 := p.next po
  refine ⟨a, us, rfl, p1.fh _ _ ha, fun q hq => c q _ _ F1 _ rfl (po.trans p.am (Post.new0 p1 hq)) (pre_none p1 hq) (none_back p.am po.le po.am hq) upd_same ?_⟩
  have e1 : (us.map fun kv => kV kv.1) = (xs.map (·.1)).map kV := by
    rw [← hr.1, List.map_map]
    rfl
  have e2 : (xs.map fun p => keD p.1) = (xs.map (·.1)).map keD := by
    rw [List.map_map]
    rfl
  rw [e1, e2]
  have : ∀ l : List Key, Das F1 (l.map keD) (l.map kV) := fun l => by
    induction l with
    | nil => exact .nil
    | cons k l ih =>
      refine .cons ?_ ih
      cases k with
      | inl i => exact da_int.mpr rfl
      | inr x => exact da_str.mpr rfl
  exact this _
/-- dict([(j, d)]) -/
theorem em_dict1 {j : Int} (h : EvD A te ρ (.list [.tuple [.int j, .int 0]])) : EvM A (tCB (rDictP K) (tCons te tNil)) ρ (fun x => x = .k [(.inl j, .int 0)]) := fun σ F H e p Q c => by
  refine (ea_cons h ea_nil) σ F H e p _ fun vs bs F1 H1 hb po hv => ?_
  subst hb
  obtain ⟨v, ev, hv1⟩ := vas1 hv
  subst ev
  obtain ⟨a, xs, rfl, ha, hx⟩ := da_list.mp hv1
  have p1 := p.next po
  obtain ⟨ps, rfl, hp⟩ := pairs_int (K := K) (ns := [j]) p1.fh hx
  refine ⟨a, ps, _, rfl, SqL.of (p1.fh _ _ ha), hp, fun q hq => ?_⟩
  exact c q _ _ F1 _ rfl (po.trans p.am (Post.new0 p1 hq)) (pre_none p1 hq) (none_back p.am po.le po.am hq) upd_same (daO_k.mpr ⟨[(.inl j, .int 0)], rfl, .cons (da_int.mpr rfl) .nil⟩)
/-- x = xs.pop(), xs one's own -/
theorem run_pop (ho : ρ[n]? = some (.own (ds ++ [d]))) (hn : C.nx ((ρ.set n (.own ds)).set m (.dat d))) : Run A (tAsg (tBM0 K "list" rPop (tVar n)) (gName m)) ρ C := fun G F0 H0 σ F H D o e => by
  have k0 := ho
  obtain ⟨a, us, k1, k2, k3, k4, k5⟩ := o.ow n _ ho
  have hl := k5.len
  rw [List.length_append] at hl
  have hl : us.length = ds.length + 1 := hl
  obtain ⟨v, hv, dv⟩ := k5.get (i := ds.length) (d := d) (by rw [List.getElem?_append_right (Nat.le_refl _), Nat.sub_self]; rfl)
  have h1 := k5.take ds.length
  rw [List.take_left] at h1
  have ed : us.dropLast = us.take ds.length := by rw [List.dropLast_eq_take, hl]; rfl
  refine ⟨_, k1, .inl ⟨rfl, _, .inl (.inl k2)⟩, a, us, v, rfl, rfl, k2, by rw [hl]; exact hv, ?_⟩
  rw [ed]
  have o1 := o.chg (vs := us) k0 k1 k3 k4 h1
  exact e.nx _ _ F _ hn (o1.setD m dv)
end
end Pu

/-! Loops over what an expression gives that changes own lists; statements that are never reached. -/
namespace Pu
open PySem L2
def EvIX (A : Am) (wi : TI) (ρ ρ1 : List Ab) (N : List PyData → Prop) : Prop :=
  ∀ G F0 H0 σ F H, Ok A G F0 H0 ρ σ F H → ∀ R : It → Hp → Prop, (∀ J ds F' H', N ds → Ok A G F0 H0 ρ1 σ F' H' → ItD J F' ds → R J H') → wi σ H R
section
variable {A : Am} {ρ ρ1 : List Ab} {C : Ct} {t : TS} {K : PySem.W.Frag}
theorem run_forX {wi : TI} {g : TG} {N : List PyData → Prop} (hi : EvIX A wi ρ ρ1 N) (I : List PyData → Nat → List Ab → Prop) (h0 : ∀ ds, N ds → I ds 0 ρ1)
    (hs : ∀ (ds : List PyData) (k : Nat) (d : PyData) (ρ' : List Ab), N ds → ds[k]? = some d → I ds k ρ' → ∃ l, TgP g d l ∧ Run A t (setA ρ' l) { nx := I ds (k + 1), ct := I ds (k + 1), bk := C.nx, rt := C.rt })
    (hd : ∀ ds ρ', N ds → I ds ds.length ρ' → C.nx ρ') : Run A (tFor wi g t) ρ C := fun G F0 H0 σ F H D o e => hi G F0 H0 σ F H o _ fun J ds F1 H1 hN o1 it => by
  refine ⟨fun k m σ' H' => m = ds.length - k ∧ k ≤ ds.length ∧ ∃ ρ' F', I ds k ρ' ∧ Ok A G F0 H0 ρ' σ' F' H' ∧ ∀ a x, F1 a = some x → F' a = some x, ⟨ds.length, by simp, Nat.zero_le _, ρ1, F1, h0 ds hN, o1, fun _ _ h => h⟩, ?_⟩
  rintro k m σ' H' ⟨rfl, hk, ρ', F', hI, o', hF⟩
  by_cases hlt : k < ds.length
  · refine .inr ⟨it.go k F' H' hF o'.post.fh hlt, fun σ2 H2 => k + 1 ≤ ds.length ∧ ∃ ρ' F', I ds (k + 1) ρ' ∧ Ok A G F0 H0 ρ' σ2 F' H2 ∧ ∀ a x, F1 a = some x → F' a = some x, fun σ2 H2 h => ⟨ds.length - (k + 1), by omega, rfl, h⟩, fun x H2 hy => ?_⟩
    have hdk : ds[k]? = some ds[k] := List.getElem?_eq_getElem hlt
    obtain ⟨F2, k1, k2, k3, k4, dx⟩ := it.yld k F' H' x H2 _ hF o'.post.fh hy hdk
    have po2 : Post A F' H' F2 H2 := ⟨fun a o h _ => k1 a o h, k2, k3, k4, A.loc _ _ (fun a o _ h => k1 a o h) o'.post.am⟩
    have o2 := o'.step po2
    obtain ⟨l, hg, hr⟩ := hs ds k ds[k] ρ' hN hdk hI
    obtain ⟨vs, d1, d2⟩ := hg F2 H2 x dx o2.post.fh
    refine d2 σ' _ ?_
    have o3 := (o2.sets d1).now
    have up : ∀ {Gx ρx σx Fx Hx}, Gx = F2 → Ok A Gx F0 H0 ρx σx Fx Hx → (∀ a x, F1 a = some x → Fx a = some x) ∧ Ok A G F0 H0 ρx σx Fx Hx := fun {Gx ρx σx Fx Hx} eg ox => by
      subst eg
      exact ⟨fun a x h => ox.gf _ _ (k2 _ _ (hF _ _ h)), ox.weak fun a x h => k2 _ _ (o'.gf _ _ h)⟩
    refine hr F2 F0 H0 _ F2 H2 _ o3 ⟨fun ρ3 σ3 F3 H3 h3 o4 => ?_, fun ρ3 σ3 F3 H3 h3 o4 => e.nx ρ3 σ3 F3 H3 h3 (up rfl o4).2, fun ρ3 σ3 F3 H3 h3 o4 => ?_, e.rt⟩
    · exact ⟨hlt, ρ3, F3, h3, (up rfl o4).2, (up rfl o4).1⟩
    · exact ⟨hlt, ρ3, F3, h3, (up rfl o4).2, (up rfl o4).1⟩
  · have ek : k = ds.length := by omega
    subst ek
    exact .inl ⟨it.stop F' H' hF o'.post.fh, e.nx ρ' σ' F' H' (hd ds ρ' hN hI) o'⟩
/-- for .. in f(x, xs.pop()): xs one's own -/
theorem evix_pop {R : Am → List Ab → (PyData → Prop) → Prop} {E : XK} {i n : Nat} {x d : PyData} {ds : List PyData} {N : List PyData → Prop} (hx : ρ[i]? = some (.dat x)) (ho : ρ[n]? = some (.own (ds ++ [d])))
    {P0 : PyData → Prop} (hR : R A [.dat x, .dat d] P0) (hP : ∀ w, P0 w → ∃ es, (w = .list es ∨ w = .tuple es) ∧ N es) : EvIX A (iSeq K (tCall (spOf 2 R) [] E (tCons (tVar i) (tCons (tBM0 K "list" rPop (tVar n)) tNil)))) ρ (ρ.set n (.own ds)) N := fun G F0 H0 σ F H o Q c => by
  obtain ⟨y, e1, hy⟩ := o.en.at_ i _ hx
  obtain ⟨v, rfl, dv⟩ := hy
  obtain ⟨a, us, k1, k2, k3, k4, k5⟩ := o.ow n _ ho
  have hl := k5.len
  rw [List.length_append] at hl
  have hl : us.length = ds.length + 1 := hl
  obtain ⟨u, hv, du⟩ := k5.get (i := ds.length) (d := d) (by rw [List.getElem?_append_right (Nat.le_refl _), Nat.sub_self]; rfl)
  have h1 := k5.take ds.length
  rw [List.take_left] at h1
  have ed : us.dropLast = us.take ds.length := by rw [List.dropLast_eq_take, hl]; rfl
  refine ⟨v, e1, _, k1, .inl ⟨rfl, _, .inl (.inl k2)⟩, a, us, u, rfl, rfl, k2, by rw [hl]; exact hv, ?_⟩
  rw [ed]
  have o1 := o.chg (vs := us) ho k1 k3 k4 h1
  refine ⟨rfl, A, F, [.dat x, .dat d], _, ⟨v, [u], rfl, dv, u, [], rfl, du, rfl⟩, o1.pre, hR, fun w z F' H' hz0 po dw => ?_⟩
  obtain ⟨es, hz, hn⟩ := hP z hz0
  have o2 := o1.step po
  rcases hz with rfl | rfl
  · obtain ⟨b, ws, rfl, hb, hw⟩ := da_list.mp dw
    exact ⟨b, rfl, .inl ⟨⟨ws, SqL.of (o2.pre.fh _ _ hb)⟩, c _ es F' H' hn o2 (itd_list hb hw)⟩⟩
  · obtain ⟨b, ws, rfl, hb, hw⟩ := da_tup.mp dw
    exact ⟨b, rfl, .inr ⟨⟨ws, SqT.of (o2.pre.fh _ _ hb)⟩, c _ es F' H' hn o2 (itd_tup hb hw)⟩⟩
end
section
variable {A : Am} {ρ : List Ab} {C : Ct} {ta tb te : TE} {n m : Nat} {K : PySem.W.Frag}
/-- xs[:k], k picked -/
theorem evn_sl_toB {N M : List PyData → Prop} {hi : Int} (ha : EvP A ta ρ (fun d => ∃ xs, d = .list xs ∧ N xs)) (h2 : EvP A te ρ (IntIn 0 hi)) (hM : ∀ xs (k : Nat), (k : Int) < hi → N xs → M (xs.take k)) : EvN A (tSl (rSl2 K) ta tNoPart (tPart te)) ρ M := fun σ F H e p Q c =>
  ha σ F H e p _ fun v x F1 H1 ⟨xs, hx, hn⟩ po1 dv => eo_none σ F1 H1 (e.mono po1.ff) (p.next po1) _ fun F2 H2 po2 => h2 σ F2 H2 ((e.mono po1.ff).mono po2.ff) ((p.next po1).next po2) _ fun w y F3 H3 ⟨i, hy, i0, i1⟩ po3 dw => by
    subst hx hy
    refine ⟨i, da_int.mp dw, ?_⟩
    have p3 := ((p.next po1).next po2).next po3
    have po := (po1.trans p.am po2).trans p.am po3
    have hv := Da.mono (fun a o h => po3.ff _ _ (po2.ff _ _ h)) _ _ dv
    obtain ⟨a, us, rfl, ha, hx⟩ := da_list.mp hv
    obtain ⟨k, rfl⟩ : ∃ k : Nat, i = (k : Int) := ⟨i.toNat, by omega⟩
    have e1 : cutD xs none (some (k : Int)) = xs.take (min k xs.length) := by
      unfold cutD
      rw [HT.sIx_none, HT.sIx_nat, List.drop_zero, Nat.sub_zero]
    have hm := hM xs (min k xs.length) (by omega) hn
    rw [← e1] at hm
    exact .inl ⟨a, us, rfl, SqL.of (p3.fh _ _ ha), fun q hq => c q _ _ F3 _ hm (po.trans p.am (Post.new0 p3 hq)) (pre_none p3 hq) (none_back p.am po.le po.am hq) upd_same (das_cut hx)⟩
/-- d, xs = a new dict, a new list -/
theorem run_parMN {P : DO → Prop} {N : List PyData → Prop} (hnm : n ≠ m) (hn0 : n < ρ.length) (hm0 : m < ρ.length) (h : EvM A ta ρ P) (h' : EvN A tb ρ N) (hn : ∀ x y, P x → N y → C.nx ((ρ.set n (.tab x)).set m (.own y))) : Run A (tPar n m (tCons ta (tCons tb tNil))) ρ C := fun G F0 H0 σ F H D o e =>
  h σ F H o.en o.pre _ fun a u x F1 H1 hx po1 f1 h1 ha dv => h' σ F1 H1 (o.en.mono po1.ff) (o.pre.next po1) _ fun b vs ds F2 H2 hy po2 f2 h2 hb dw => by
    have oa := (o.step po1).step po2
    have nd : ¬ A.dom a := fun z => A.tr _ _ o.pre.am z h1
    have ha2 : H2 a = some u := po2.le _ _ ha nd
    have f1' : F2 a = none := by
      cases e2 : F2 a with
      | none => rfl
      | some x =>
        rcases po2.fr _ _ e2 with z | z
        · rw [f1] at z
          cases z
        · rw [ha] at z
          cases z
    have a00 : H0 a = none := none_back o.pre0.am o.post.le o.post.am h1
    have b00 : H0 b = none := none_back o.pre0.am (o.step po1).post.le (o.step po1).post.am h2
    have o1 := oa.setT n hn0 ha2 f1' a00 (dv.mono po2.ff) fun j f nj hj z => by
      obtain ⟨b', us, k1, k2, _⟩ := o.tw j f hj
      rw [k1] at z
      cases z
      rw [h1] at k2
      cases k2
    refine ⟨.ref a, .ref b, rfl, e.nx _ _ F2 H2 (hn x ds hx hy) (o1.setN m (by rw [List.length_set]; exact hm0) hb f2 b00 dw fun j es nj hj z => ?_)⟩
    obtain ⟨nn, hj⟩ := set_own (by intro _ z; cases z) hj
    rw [List.getElem?_set_ne (fun z => nn z.symm)] at z
    obtain ⟨b', us, k1, k2, _⟩ := (o.step po1).ow j es hj
    rw [k1] at z
    cases z
    rw [h2] at k2
    cases k2
end
/-- a dict of whole numbers, each with the same value -/
def tabV (v : PyData) (fs : List Int) : List (Key × PyData) := fs.map fun x => (.inl x, v)
theorem tabV_keys (v : PyData) (fs : List Int) : (tabV v fs).map (·.1) = fs.map Sum.inl := by
  unfold tabV
  rw [List.map_map]
  rfl
theorem tabV_has (v : PyData) (fs : List Int) (y : Int) : (getE (tabV v fs) (.inl y)).isSome = decide (y ∈ fs) := by
  rw [getE_isSome, tabV_keys]
  exact decide_eq_decide.mpr ⟨fun h => by
    obtain ⟨x, hx, e⟩ := List.mem_map.mp h
    exact Sum.inl.inj e ▸ hx, fun h => List.mem_map.mpr ⟨y, h, rfl⟩⟩
theorem tabV_put {v : PyData} {fs : List Int} {y : Int} (h : y ∉ fs) : putE (tabV v fs) (.inl y) v = tabV v (fs ++ [y]) := by
  rw [putE_new]
  · unfold tabV
    rw [List.map_append]
    rfl
  · have := tabV_has v fs y
    rw [decide_eq_false h] at this
    cases e : getE (tabV v fs) (.inl y) with
    | none => rfl
    | some d => rw [e] at this; cases this
/-- a statement that is never reached -/
def tDead : TS := fun _ _ _ => False
theorem ps_dead {X : Cx} {st : Stmt} : PS X st tDead := ⟨fun _ _ _ _ _ _ h => h.elim⟩
theorem kc_listK {X : Cx} (hc : X.calm = true) : CallR X (.type "list") rListD := call_list_dK hc
theorem rgV_das2 {F : Hp} {i j : Int} : Das F ((List.range (j - i).toNat).map fun k : Nat => PyData.int (i + (k : Int))) (rgV i j) := by
  unfold rgV
  generalize List.range (j - i).toNat = l
  induction l with
  | nil => exact .nil
  | cons k l ih => exact Das.cons (da_int.mpr rfl) ih
theorem el_listRg2 {i j : Int} (ha : EvD A ta ρ (.int i)) (hb : EvD A tb ρ (.int j)) (h : 0 ≤ i ∧ i ≤ 1000000 ∧ 0 ≤ j ∧ j ≤ 1000000) : EvL A (tLstRg (tRg2 ta tb)) ρ ((List.range (j - i).toNat).map fun k : Nat => PyData.int (i + (k : Int))) := fun σ F H e p Q c => by
  refine ha σ F H e p _ fun v d F1 H1 hd po dv => ?_
  subst hd
  have p1 := p.next po
  refine hb σ F1 H1 (e.mono po.ff) p1 _ fun u d F2 H2 hd po2 du => ?_
  subst hd
  have p2 := p1.next po2
  refine ⟨i, j, da_int.mp dv, da_int.mp du, ⟨by omega, by omega, by omega, by omega, by omega⟩, fun q hq => ?_⟩
  have poo := po.trans p.am po2
  exact c q (rgV i j) _ F2 (upd H2 q (.lst (rgV i j))) rfl (poo.trans p.am (Post.new0 p2 hq)) (pre_none p2 hq) (none_back p.am poo.le poo.am hq) upd_same rgV_das2
end Pu

namespace K53
open PySem L2 Pu
/-! ### the text -/
def topS (i : Nat) : Stmt := PySem.Challenge.pw_framesheld_k53_parters_of_frames.main.body.getD i (.Pass ⟨0, 0, 0, 0⟩)
abbrev s_is_number : Stmt := topS 5
theorem sc_is_number : FnScope ["value"] ["value"] (defScope s_is_number) := ⟨rfl, rfl, rfl, by decide +kernel, rfl, by decide +kernel, by decide +kernel⟩
abbrev s_is_joint : Stmt := topS 6
theorem sc_is_joint : FnScope ["frame", "value"] ["frame", "value"] (defScope s_is_joint) := ⟨rfl, rfl, rfl, by decide +kernel, rfl, by decide +kernel, by decide +kernel⟩
abbrev s_are_tied : Stmt := topS 7
theorem sc_are_tied : FnScope ["frame", "a", "b"] ["frame", "a", "b"] (defScope s_are_tied) := ⟨rfl, rfl, rfl, by decide +kernel, rfl, by decide +kernel, by decide +kernel⟩
abbrev s_neighbours : Stmt := topS 8
theorem sc_neighbours : FnScope ["frame", "joint", "other"] ["frame", "joint"] (defScope s_neighbours) := ⟨rfl, rfl, rfl, by decide +kernel, rfl, by decide +kernel, by decide +kernel⟩
abbrev s_come_to : Stmt := topS 9
theorem sc_come_to : FnScope ["frame", "joint", "gone", "found", "rest", "other"] ["frame", "joint", "gone"] (defScope s_come_to) := ⟨rfl, rfl, rfl, by decide +kernel, rfl, by decide +kernel, by decide +kernel⟩
abbrev s_pieces_without : Stmt := topS 10
theorem sc_pieces_without : FnScope ["frame", "gone", "found", "joint", "lot"] ["frame", "gone"] (defScope s_pieces_without) := ⟨rfl, rfl, rfl, by decide +kernel, rfl, by decide +kernel, by decide +kernel⟩
abbrev s_is_lot : Stmt := topS 12
theorem sc_is_lot : FnScope ["value", "most", "one", "late"] ["value", "most"] (defScope s_is_lot) := ⟨rfl, rfl, rfl, by decide +kernel, rfl, by decide +kernel, by decide +kernel⟩
abbrev s_first_parter : Stmt := topS 13
theorem sc_first_parter : FnScope ["frame", "a", "b", "some"] ["frame"] (defScope s_first_parter) := ⟨rfl, rfl, rfl, by decide +kernel, rfl, by decide +kernel, by decide +kernel⟩
abbrev s_is_parter : Stmt := topS 14
theorem sc_is_parter : FnScope ["frame", "value", "a", "b", "lot", "others", "joint", "other"] ["frame", "value"] (defScope s_is_parter) := ⟨rfl, rfl, rfl, by decide +kernel, rfl, by decide +kernel, by decide +kernel⟩
abbrev s__law_source : Stmt := topS 16
theorem sc__law_source : FnScope ["script", "mixed", "cell"] ["script"] (defScope s__law_source) := ⟨rfl, rfl, rfl, by decide +kernel, rfl, by decide +kernel, by decide +kernel⟩
abbrev s__law_pick : Stmt := topS 17
theorem sc__law_pick : FnScope ["source", "many", "left", "mixed"] ["source", "many"] (defScope s__law_pick) := ⟨rfl, rfl, rfl, by decide +kernel, rfl, by decide +kernel, by decide +kernel⟩
abbrev s__law_of : Stmt := topS 18
theorem sc__law_of : FnScope ["source", "some"] ["source", "some"] (defScope s__law_of) := ⟨rfl, rfl, rfl, by decide +kernel, rfl, by decide +kernel, by decide +kernel⟩
abbrev s__law_mixed : Stmt := topS 19
theorem sc__law_mixed : FnScope ["source", "things", "rest", "lap"] ["source", "things"] (defScope s__law_mixed) := ⟨rfl, rfl, rfl, by decide +kernel, rfl, by decide +kernel, by decide +kernel⟩
abbrev s__law_pairs : Stmt := topS 20
theorem sc__law_pairs : FnScope ["n", "found", "a", "b"] ["n"] (defScope s__law_pairs) := ⟨rfl, rfl, rfl, by decide +kernel, rfl, by decide +kernel, by decide +kernel⟩
abbrev s__law_frame : Stmt := topS 21
theorem sc__law_frame : FnScope ["source", "least", "most", "n", "share", "pair"] ["source", "least", "most"] (defScope s__law_frame) := ⟨rfl, rfl, rfl, by decide +kernel, rfl, by decide +kernel, by decide +kernel⟩
abbrev s__law_tied : Stmt := topS 24
theorem sc__law_tied : FnScope ["frame", "a", "b"] ["frame", "a", "b"] (defScope s__law_tied) := ⟨rfl, rfl, rfl, by decide +kernel, rfl, by decide +kernel, by decide +kernel⟩
abbrev s__law_come_to : Stmt := topS 25
theorem sc__law_come_to : FnScope ["frame", "joint", "gone", "found", "rest", "here", "other"] ["frame", "joint", "gone"] (defScope s__law_come_to) := ⟨rfl, rfl, rfl, by decide +kernel, rfl, by decide +kernel, by decide +kernel⟩
abbrev s__law_parters : Stmt := topS 26
theorem sc__law_parters : FnScope ["frame", "found", "a", "b", "rest", "joint"] ["frame"] (defScope s__law_parters) := ⟨rfl, rfl, rfl, by decide +kernel, rfl, by decide +kernel, by decide +kernel⟩
abbrev s__law_rod : Stmt := topS 30
theorem sc__law_rod : FnScope ["a", "b"] ["a", "b"] (defScope s__law_rod) := ⟨rfl, rfl, rfl, by decide +kernel, rfl, by decide +kernel, by decide +kernel⟩
abbrev s__law_grown : Stmt := topS 31
theorem sc__law_grown : FnScope ["source", "n", "rods", "many", "a", "b", "c", "joint", "rod", "others", "pair", "names"] ["source", "n"] (defScope s__law_grown) := ⟨rfl, rfl, rfl, by decide +kernel, rfl, by decide +kernel, by decide +kernel⟩
abbrev s__law_drawn : Stmt := topS 32
theorem sc__law_drawn : FnScope ["source", "most", "n", "way", "frame", "gone", "rod", "k", "one", "other", "some", "a", "b", "pair"] ["source", "most"] (defScope s__law_drawn) := ⟨rfl, rfl, rfl, by decide +kernel, rfl, by decide +kernel, by decide +kernel⟩
abbrev s__law_is_lot : Stmt := topS 33
theorem sc__law_is_lot : FnScope ["value", "n", "one", "k"] ["value", "n"] (defScope s__law_is_lot) := ⟨rfl, rfl, rfl, by decide +kernel, rfl, by decide +kernel, by decide +kernel⟩
abbrev s__law_is_parter : Stmt := topS 34
theorem sc__law_is_parter : FnScope ["frame", "value", "n", "a", "b", "lot", "rest", "joint", "other"] ["frame", "value"] (defScope s__law_is_parter) := ⟨rfl, rfl, rfl, by decide +kernel, rfl, by decide +kernel, by decide +kernel⟩
abbrev s__law_near : Stmt := topS 35
theorem sc__law_near : FnScope ["source", "frame", "value", "n", "k", "lot", "a", "b", "odd", "some"] ["source", "frame", "value"] (defScope s__law_near) := ⟨rfl, rfl, rfl, by decide +kernel, rfl, by decide +kernel, by decide +kernel⟩
abbrev s_law : Stmt := topS 36
theorem sc_law : FnScope ["script", "source", "lap", "frame", "some", "held", "told", "due", "a", "b", "rest", "joint", "base", "value", "turn", "shown"] ["script"] (defScope s_law) := ⟨rfl, rfl, rfl, by decide +kernel, rfl, by decide +kernel, by decide +kernel⟩
structure Txt (K : PySem.W.Frag) (mg : Str → Option Value) (a : Nat → Addr) (d : Nat → FuncData) : Prop where
  F_is_number : Fun K "is_number" "is_number" s_is_number (a 0) (d 0)
  b_is_number : Binds K (d 0) ["value"] []
  g_is_number : mg "is_number" = some (.ref (a 0))
  F_is_joint : Fun K "is_joint" "is_joint" s_is_joint (a 1) (d 1)
  b_is_joint : Binds K (d 1) ["frame", "value"] []
  g_is_joint : mg "is_joint" = some (.ref (a 1))
  F_are_tied : Fun K "are_tied" "are_tied" s_are_tied (a 2) (d 2)
  b_are_tied : Binds K (d 2) ["frame", "a", "b"] []
  g_are_tied : mg "are_tied" = some (.ref (a 2))
  F_neighbours : Fun K "neighbours" "neighbours" s_neighbours (a 3) (d 3)
  b_neighbours : Binds K (d 3) ["frame", "joint"] []
  g_neighbours : mg "neighbours" = some (.ref (a 3))
  F_come_to : Fun K "come_to" "come_to" s_come_to (a 4) (d 4)
  b_come_to : Binds K (d 4) ["frame", "joint", "gone"] []
  g_come_to : mg "come_to" = some (.ref (a 4))
  F_pieces_without : Fun K "pieces_without" "pieces_without" s_pieces_without (a 5) (d 5)
  b_pieces_without : Binds K (d 5) ["frame", "gone"] []
  g_pieces_without : mg "pieces_without" = some (.ref (a 5))
  F_is_lot : Fun K "is_lot" "is_lot" s_is_lot (a 6) (d 6)
  b_is_lot : Binds K (d 6) ["value", "most"] []
  g_is_lot : mg "is_lot" = some (.ref (a 6))
  F_first_parter : Fun K "first_parter" "first_parter" s_first_parter (a 7) (d 7)
  b_first_parter : Binds K (d 7) ["frame"] []
  g_first_parter : mg "first_parter" = some (.ref (a 7))
  F_is_parter : Fun K "is_parter" "is_parter" s_is_parter (a 8) (d 8)
  b_is_parter : Binds K (d 8) ["frame", "value"] []
  g_is_parter : mg "is_parter" = some (.ref (a 8))
  F__law_source : Fun K "_law_source" "_law_source" s__law_source (a 9) (d 9)
  b__law_source : Binds K (d 9) ["script"] []
  g__law_source : mg "_law_source" = some (.ref (a 9))
  F__law_pick : Fun K "_law_pick" "_law_pick" s__law_pick (a 10) (d 10)
  b__law_pick : Binds K (d 10) ["source", "many"] []
  g__law_pick : mg "_law_pick" = some (.ref (a 10))
  F__law_of : Fun K "_law_of" "_law_of" s__law_of (a 11) (d 11)
  b__law_of : Binds K (d 11) ["source", "some"] []
  g__law_of : mg "_law_of" = some (.ref (a 11))
  F__law_mixed : Fun K "_law_mixed" "_law_mixed" s__law_mixed (a 12) (d 12)
  b__law_mixed : Binds K (d 12) ["source", "things"] []
  g__law_mixed : mg "_law_mixed" = some (.ref (a 12))
  F__law_pairs : Fun K "_law_pairs" "_law_pairs" s__law_pairs (a 13) (d 13)
  b__law_pairs : Binds K (d 13) ["n"] []
  g__law_pairs : mg "_law_pairs" = some (.ref (a 13))
  F__law_frame : Fun K "_law_frame" "_law_frame" s__law_frame (a 14) (d 14)
  b__law_frame : Binds K (d 14) ["source", "least", "most"] []
  g__law_frame : mg "_law_frame" = some (.ref (a 14))
  F__law_tied : Fun K "_law_tied" "_law_tied" s__law_tied (a 15) (d 15)
  b__law_tied : Binds K (d 15) ["frame", "a", "b"] []
  g__law_tied : mg "_law_tied" = some (.ref (a 15))
  F__law_come_to : Fun K "_law_come_to" "_law_come_to" s__law_come_to (a 16) (d 16)
  b__law_come_to : Binds K (d 16) ["frame", "joint", "gone"] []
  g__law_come_to : mg "_law_come_to" = some (.ref (a 16))
  F__law_parters : Fun K "_law_parters" "_law_parters" s__law_parters (a 17) (d 17)
  b__law_parters : Binds K (d 17) ["frame"] []
  g__law_parters : mg "_law_parters" = some (.ref (a 17))
  F__law_rod : Fun K "_law_rod" "_law_rod" s__law_rod (a 18) (d 18)
  b__law_rod : Binds K (d 18) ["a", "b"] []
  g__law_rod : mg "_law_rod" = some (.ref (a 18))
  F__law_grown : Fun K "_law_grown" "_law_grown" s__law_grown (a 19) (d 19)
  b__law_grown : Binds K (d 19) ["source", "n"] []
  g__law_grown : mg "_law_grown" = some (.ref (a 19))
  F__law_drawn : Fun K "_law_drawn" "_law_drawn" s__law_drawn (a 20) (d 20)
  b__law_drawn : Binds K (d 20) ["source", "most"] []
  g__law_drawn : mg "_law_drawn" = some (.ref (a 20))
  F__law_is_lot : Fun K "_law_is_lot" "_law_is_lot" s__law_is_lot (a 21) (d 21)
  b__law_is_lot : Binds K (d 21) ["value", "n"] []
  g__law_is_lot : mg "_law_is_lot" = some (.ref (a 21))
  F__law_is_parter : Fun K "_law_is_parter" "_law_is_parter" s__law_is_parter (a 22) (d 22)
  b__law_is_parter : Binds K (d 22) ["frame", "value"] []
  g__law_is_parter : mg "_law_is_parter" = some (.ref (a 22))
  F__law_near : Fun K "_law_near" "_law_near" s__law_near (a 23) (d 23)
  b__law_near : Binds K (d 23) ["source", "frame", "value"] []
  g__law_near : mg "_law_near" = some (.ref (a 23))
  F_law : Fun K "law" "law" s_law (a 24) (d 24)
  b_law : Binds K (d 24) ["script"] []
  g_law : mg "law" = some (.ref (a 24))
  z_abs : mg "abs" = none
  z_all : mg "all" = none
  z_any : mg "any" = none
  z_bool : mg "bool" = none
  z_dict : mg "dict" = none
  z_int : mg "int" = none
  z_isinstance : mg "isinstance" = none
  z_len : mg "len" = none
  z_list : mg "list" = none
  z_max : mg "max" = none
  z_min : mg "min" = none
  z_range : mg "range" = none
  z_repr : mg "repr" = none
  z_sorted : mg "sorted" = none
  z_tuple : mg "tuple" = none
  z_zip : mg "zip" = none
section
abbrev R__law_pick := R_pick
abbrev R__law_of := R_of
abbrev R__law_mixed := R_mixed
@[reducible] def natsI (ks : List Nat) : List Int := ks.map fun k : Nat => (k : Int)
theorem natsI_map (ks : List Nat) : (natsI ks).map PyData.int = ks.map fun k : Nat => PyData.int (k : Int) := by
  unfold natsI
  rw [List.map_map]
  rfl
def numB : PyData → Bool
  | .int i => decide (0 ≤ i)
  | _ => false
theorem numB_int {v : PyData} (h : numB v = true) : ∃ i : Int, v = .int i ∧ 0 ≤ i := by
  cases v with
  | int i => exact ⟨i, rfl, of_decide_eq_true h⟩
  | _ => cases h
def R_is_number : Am → List Ab → (PyData → Prop) → Prop := fun _ bs P => ∃ v : PyData, bs = [.dat v] ∧ P = fun w => w = .bool (numB v)
def R_is_joint : Am → List Ab → (PyData → Prop) → Prop := fun _ bs P => ∃ (n : Nat) (rods : List (Int × Int)) (i : Int), bs = [.dat (encF n rods), .dat (.int i)] ∧ P = fun w => w = .bool (decide (0 ≤ i) && decide (i < n))
def tiedB (rods : List (Int × Int)) (a b : Int) : Bool := decide ((a, b) ∈ rods) || decide ((b, a) ∈ rods)
def R_are_tied : Am → List Ab → (PyData → Prop) → Prop := fun _ bs P => ∃ (n : Nat) (rods : List (Int × Int)) (a b : Int), bs = [.dat (encF n rods), .dat (.int a), .dat (.int b)] ∧ Rods n rods ∧ (0 ≤ a ∧ a ≤ 100) ∧ (0 ≤ b ∧ b ≤ 100) ∧ P = fun w => w = .bool (tiedB rods a b)
abbrev R__law_tied := R_are_tied
def nbI (n : Nat) (rods : List (Int × Int)) (j : Int) : List Int := natsI ((List.range n).filter fun i : Nat => tiedB rods j (i : Int))
def R_neighbours : Am → List Ab → (PyData → Prop) → Prop := fun _ bs P => ∃ (n : Nat) (rods : List (Int × Int)) (j : Int), bs = [.dat (encF n rods), .dat (.int j)] ∧ Rods n rods ∧ (0 ≤ j ∧ j < n) ∧ P = fun w => w = encI (nbI n rods j)
/-- joints to which one comes from one, some being gone -/
inductive Conn (n : Nat) (rods : List (Int × Int)) (gone : List Int) (j : Int) : Int → Prop
  | here : Conn n rods gone j j
  | step {x y : Int} : Conn n rods gone j x → 0 ≤ y → y < n → tiedB rods x y = true → y ∉ gone → Conn n rods gone j y
open Classical in
noncomputable def reachI (n : Nat) (rods : List (Int × Int)) (gone : List Int) (j : Int) : List Int := natsI ((List.range n).filter fun i : Nat => decide (Conn n rods gone j (i : Int)))
structure Few (lot : List Int) : Prop where
  len : lot.length ≤ 24
  sm : ∀ i ∈ lot, 0 ≤ i ∧ i ≤ 100
def R_come_to : Am → List Ab → (PyData → Prop) → Prop := fun _ bs P => ∃ (n : Nat) (rods : List (Int × Int)) (j : Int) (gone : List Int), bs = [.dat (encF n rods), .dat (.int j), .dat (encI gone)] ∧ Rods n rods ∧ (0 ≤ j ∧ j < n) ∧ Few gone ∧ P = fun w => w = encI (reachI n rods gone j)
def R__law_come_to : Am → List Ab → (PyData → Prop) → Prop := fun _ bs P => ∃ (n : Nat) (rods : List (Int × Int)) (j : Int) (gone : List Int), bs = [.dat (encF n rods), .dat (.int j), .dat (encI gone)] ∧ Rods n rods ∧ (0 ≤ j ∧ j < n) ∧ Few gone ∧ P = fun w => w = encL (reachI n rods gone j)
/-- the joints that are not gone -/
def restI (n : Nat) (gone : List Int) : List Int := natsI ((List.range n).filter fun i : Nat => !decide ((i : Int) ∈ gone))
def R_pieces_without : Am → List Ab → (PyData → Prop) → Prop := fun _ bs P => ∃ (n : Nat) (rods : List (Int × Int)) (gone : List Int), bs = [.dat (encF n rods), .dat (encI gone)] ∧ Rods n rods ∧ Few gone ∧ P = fun w => ∃ lots : List (List Int), w = .tuple (lots.map encI) ∧ lots.length ≤ n ∧
  (restI n gone = [] → lots = []) ∧ ∀ r rs, restI n gone = r :: rs → ∃ ls, lots = reachI n rods gone r :: ls ∧ (ls = [] ↔ ∀ j ∈ r :: rs, j ∈ reachI n rods gone r)
/-- rising whole numbers from 0 below m -/
def Rise (m : Int) (is : List Int) : Prop := (∀ i ∈ is, 0 ≤ i ∧ i < m) ∧ is.Pairwise (· < ·)
open Classical in
noncomputable def lotD (v : PyData) (m : Int) : Bool := decide (∃ is : List Int, v = encI is ∧ Rise m is)
def R_is_lot : Am → List Ab → (PyData → Prop) → Prop := fun _ bs P => ∃ (v : PyData) (m : Int), bs = [.dat v, .dat (.int m)] ∧ Hc 3 v ∧ P = fun w => w = .bool (lotD v m)
abbrev R__law_is_lot := R_is_lot
/-- two joints part a frame -/
noncomputable def partB (n : Nat) (rods : List (Int × Int)) (r : Int × Int) : Bool := match restI n [r.1, r.2] with
  | [] => false
  | x :: xs => decide ((reachI n rods [r.1, r.2] x).length < (x :: xs).length)
def R__law_pairs : Am → List Ab → (PyData → Prop) → Prop := fun _ bs P => ∃ n : Int, bs = [.dat (.int n)] ∧ 0 ≤ n ∧ n ≤ 24 ∧ P = fun w => w = .list ((pairsI n).map encP)
def R__law_parters : Am → List Ab → (PyData → Prop) → Prop := fun _ bs P => ∃ (n : Nat) (rods : List (Int × Int)), bs = [.dat (encF n rods)] ∧ Rods n rods ∧ P = fun w => w = .list (((pairsI n).filter (partB n rods)).map encP)
noncomputable def parD (n : Nat) (rods : List (Int × Int)) : Option (Int × Int) → PyData
  | none => .none
  | some r => .tuple [.int r.1, .int r.2, encI (reachI n rods [r.1, r.2] ((restI n [r.1, r.2]).headD 0))]
def R_first_parter : Am → List Ab → (PyData → Prop) → Prop := fun _ bs P => ∃ (n : Nat) (rods : List (Int × Int)), bs = [.dat (encF n rods)] ∧ Rods n rods ∧ P = fun w => w = parD n rods ((pairsI n).find? (partB n rods))
def othersI (n : Nat) (a b : Int) (lot : List Int) : List Int := natsI ((List.range n).filter fun i : Nat => !decide ((i : Int) ∈ a :: b :: lot))
def IsPar (n : Nat) (rods : List (Int × Int)) (v : PyData) : Prop := ∃ (a b : Int) (lot : List Int), v = .tuple [.int a, .int b, encI lot] ∧ Rise n [a, b] ∧ Rise n lot ∧ lot ≠ [] ∧ a ∉ lot ∧ b ∉ lot ∧ othersI n a b lot ≠ [] ∧ ∀ j ∈ lot, ∀ o ∈ othersI n a b lot, tiedB rods j o = false
open Classical in
noncomputable def parV (n : Nat) (rods : List (Int × Int)) (v : PyData) : Bool := decide (IsPar n rods v)
def R_is_parter : Am → List Ab → (PyData → Prop) → Prop := fun _ bs P => ∃ (n : Nat) (rods : List (Int × Int)) (v : PyData), bs = [.dat (encF n rods), .dat v] ∧ Rods n rods ∧ Hc 3 v ∧ P = fun w => w = .bool (parV n rods v)
abbrev R__law_is_parter := R_is_parter
def R__law_frame : Am → List Ab → (PyData → Prop) → Prop := fun M bs P => IsSrc M ∧ ∃ n : Int, bs = [.src, .dat (.int n), .dat (.int n)] ∧ (4 ≤ n ∧ n ≤ 8) ∧ P = fun w => ∃ (m : Nat) (rods : List (Int × Int)), w = encF m rods ∧ Rods m rods ∧ (4 ≤ m ∧ m ≤ 8)
def swP (x y : Int) : Int × Int := (min x y, max x y)
def R__law_rod : Am → List Ab → (PyData → Prop) → Prop := fun _ bs P => ∃ a b : Int, bs = [.dat (.int a), .dat (.int b)] ∧ P = fun w => w = encP (swP a b)
def R__law_grown : Am → List Ab → (PyData → Prop) → Prop := fun M bs P => IsSrc M ∧ ∃ n : Nat, bs = [.src, .dat (.int (n : Int))] ∧ (4 ≤ n ∧ n ≤ 8) ∧ P = fun w => ∃ rods : List (Int × Int), w = encF n rods ∧ Rods n rods ∧ rods ≠ []
def R__law_drawn : Am → List Ab → (PyData → Prop) → Prop := fun M bs P => IsSrc M ∧ bs = [.src, .dat (.int 8)] ∧ P = fun w => ∃ (m : Nat) (rods : List (Int × Int)), w = encF m rods ∧ Rods m rods ∧ (4 ≤ m ∧ m ≤ 8)
def R__law_near : Am → List Ab → (PyData → Prop) → Prop := fun M bs P => IsSrc M ∧ ∃ (n : Nat) (rods : List (Int × Int)) (a b : Int) (lot : List Int), bs = [.src, .dat (encF n rods), .dat (.tuple [.int a, .int b, encI lot])] ∧ (4 ≤ n ∧ n ≤ 8) ∧ (0 ≤ a ∧ a ≤ 100) ∧ (0 ≤ b ∧ b ≤ 100) ∧ Few lot ∧ lot.length ≤ 8 ∧ P = fun w => Hc 3 w
end
end K53

namespace K53
open PySem L2 Pu
local macro_rules | `(tactic| walk_at "pr") => `(tactic| first | with_reducible assumption | ((with_reducible apply Nb.up); (walk_at "nb"); decide) | omega | ((with_reducible apply_assumption) <;> with_reducible assumption) | ((with_reducible apply is_eq); first | exact atI_map (by with_reducible assumption) | exact rfl) | ((simp only [List.length_cons, List.length_nil]) <;> omega) | exact Or.inl rfl | exact Or.inr (Or.inl rfl) | exact Or.inr (Or.inr (Or.inl rfl)) | exact Or.inr (Or.inr (Or.inr (Or.inl rfl))) | exact Or.inr (Or.inr (Or.inr (Or.inr (Or.inl rfl)))) | exact Or.inr (Or.inr (Or.inr (Or.inr (Or.inr rfl)))) | (fail_if_success (with_reducible apply is_at)))
local macro_rules | `(tactic| walk_at "sd") => `(tactic| first | ((with_reducible refine is_pr ?_); walk_at "pr") | (fail_if_success (with_reducible refine is_pr ?_)))
local macro_rules | `(tactic| walk_at "cl") => `(tactic| first | ((with_reducible apply_assumption) <;> with_reducible assumption) | fail)
local macro_rules | `(tactic| walk_at "no") => `(tactic| (fail_if_success (first | with_reducible apply is_evp | with_reducible apply is_evn | with_reducible apply is_evb | with_reducible apply is_evi | with_reducible apply is_eva | with_reducible apply is_evas | with_reducible apply is_evo | with_reducible apply is_tg | with_reducible apply is_tgs)))
local macro_rules | `(tactic| walk_at "wk") => `(tactic| first | exact Wk.nil | (apply Wk.same; walk_at "wk") | (apply Wk.no; walk_at "wk"))
local macro_rules | `(tactic| walk_at "nb") => `(tactic| first | with_reducible assumption | exact Nb.two | exact Nb.one | exact Nb.zero | ((with_reducible apply Nb.mul) <;> walk_at "nb") | ((with_reducible apply Nb.add) <;> walk_at "nb") | ((with_reducible apply Nb.sub) <;> walk_at "nb") | ((with_reducible apply Nb.neg) <;> walk_at "nb"))
local macro_rules | `(tactic| walk_at "bd") => `(tactic| first | ((with_reducible intro _); walk_at "bd") | ((with_reducible apply EvT.to) <;> walk_at "ev") | ((with_reducible apply EvD.to) <;> walk_at "ev") | walk_at "ev")
local macro_rules | `(tactic| walk_at "ev") => `(tactic| first
  | with_reducible exact ev_int | with_reducible exact ev_bl | with_reducible exact ev_str | with_reducible exact ev_non
  | ((with_reducible apply ev_var); exact rfl)
  | ((with_reducible apply ev_addI) <;> walk_at "ev")
  | ((with_reducible apply ev_sub) <;> walk_at "ev")
  | ((with_reducible apply ev_mulW) <;> walk_at "ev")
  | ((with_reducible apply ev_mod) <;> walk_at "ev")
  | ((with_reducible apply ev_fdiv) <;> walk_at "ev")
  | ((with_reducible apply ev_sqW) <;> walk_at "ev")
  | ((with_reducible apply ev_neg) <;> walk_at "ev")
  | ((with_reducible apply ev_abs) <;> walk_at "ev")
  | ((with_reducible apply ev_max2) <;> walk_at "ev")
  | ((with_reducible apply ev_min2) <;> walk_at "ev")
  | ((with_reducible apply ev_lt) <;> walk_at "ev")
  | ((with_reducible apply ev_le) <;> walk_at "ev")
  | ((with_reducible apply ev_gt) <;> walk_at "ev")
  | ((with_reducible apply ev_ge) <;> walk_at "ev")
  | ((with_reducible apply ev_eqI2) <;> walk_at "ev")
  | ((with_reducible apply ev_neI2) <;> walk_at "ev")
  | ((with_reducible apply ev_neS2) <;> walk_at "ev")
  | ((with_reducible apply ev_eqS2) <;> walk_at "ev")
  | ((with_reducible apply ev_eqN) <;> walk_at "ev")
  | ((with_reducible apply ev_neN) <;> walk_at "ev")
  | ((with_reducible apply ev_in_lN) <;> walk_at "ev")
  | ((with_reducible apply ev_in_tN) <;> walk_at "ev")
  | ((with_reducible apply ev_ni_lN) <;> walk_at "ev")
  | ((with_reducible apply ev_ni_tN) <;> walk_at "ev")
  | ((with_reducible apply ev_reprN) <;> walk_at "ev")
  | ((with_reducible apply ev_isN) <;> walk_at "ev")
  | ((with_reducible apply ev_notN) <;> walk_at "ev")
  | ((with_reducible apply ev_andV) <;> walk_at "ev")
  | ((with_reducible apply ev_orV) <;> walk_at "ev")
  | ((with_reducible apply ev_notV) <;> walk_at "ev")
  | ((with_reducible apply ev_if) <;> walk_at "ev")
  | ((with_reducible apply ev_ix_t) <;> walk_at "ev")
  | ((with_reducible apply ev_ix_l) <;> walk_at "ev")
  | ((with_reducible apply ev_len_t) <;> walk_at "ev")
  | ((with_reducible apply ev_len_l) <;> walk_at "ev")
  | ((with_reducible apply ev_tuple_l) <;> walk_at "ev")
  | ((with_reducible apply ev_tuple_t) <;> walk_at "ev")
  | ((with_reducible apply ev_isi) <;> walk_at "ev")
  | ((with_reducible apply ev_addTM) <;> walk_at "ev")
  | ((with_reducible apply ev_tup0) <;> walk_at "ev")
  | ((with_reducible apply ev_tup1) <;> walk_at "ev")
  | ((with_reducible apply ev_tup2) <;> walk_at "ev")
  | ((with_reducible apply ev_tupM) <;> walk_at "ev")
  | ((with_reducible apply ev_any) <;> walk_at "ev")
  | ((with_reducible apply ev_all) <;> walk_at "ev")
  | ((with_reducible apply ev_sum) <;> walk_at "ev")
  | ((with_reducible apply ev_int1) <;> walk_at "ev")
  | ((with_reducible apply ev_intb) <;> walk_at "ev")
  | ((with_reducible apply ev_call) <;> walk_at "ev")
  | ((with_reducible apply ev_chain) <;> walk_at "ev")
  | ((with_reducible apply ev_chain3) <;> walk_at "ev")
  | ((with_reducible apply ev_empL) <;> walk_at "ev")
  | ((with_reducible apply ev_empT) <;> walk_at "ev")
  | ((with_reducible apply ev_dict0) <;> walk_at "ev")
  | ((with_reducible apply ev_sl_t) <;> walk_at "ev")
  | ((with_reducible apply ev_rev_t) <;> walk_at "ev")
  | ((with_reducible apply el_frz) <;> walk_at "ev")
  | ((with_reducible apply el_lst0) <;> walk_at "ev")
  | ((with_reducible apply el_lst1) <;> walk_at "ev")
  | ((with_reducible apply el_lst2) <;> walk_at "ev")
  | ((with_reducible apply el_lst3) <;> walk_at "ev")
  | ((with_reducible apply el_lstM) <;> walk_at "ev")
  | ((with_reducible apply el_list_l) <;> walk_at "ev")
  | ((with_reducible apply el_list_t) <;> walk_at "ev")
  | ((with_reducible apply el_addLM) <;> walk_at "ev")
  | ((with_reducible apply el_mulLM) <;> walk_at "ev")
  | ((with_reducible apply el_lc1M) <;> walk_at "ev")
  | ((with_reducible apply el_lcM) <;> walk_at "ev")
  | ((with_reducible apply el_sl_l) <;> walk_at "ev")
  | ((with_reducible apply el_rev_l) <;> walk_at "ev")
  | ((with_reducible apply et_yes) <;> walk_at "ev")
  | ((with_reducible apply et_test) <;> walk_at "ev")
  | ((with_reducible apply et_B) <;> walk_at "ev")
  | ((with_reducible apply et_not) <;> walk_at "ev")
  | ((with_reducible apply et_and) <;> walk_at "ev")
  | ((with_reducible apply et_or) <;> walk_at "ev")
  | ((with_reducible apply ei_t) <;> walk_at "ev")
  | ((with_reducible apply ei_l) <;> walk_at "ev")
  | ((with_reducible apply ei_r1M) <;> walk_at "ev")
  | ((with_reducible apply ei_r2M) <;> walk_at "ev")
  | ((with_reducible apply ei_en_t) <;> walk_at "ev")
  | ((with_reducible apply ei_en_l) <;> walk_at "ev")
  | ((with_reducible apply ea_nil) <;> walk_at "ev")
  | ((with_reducible apply ea_cons) <;> walk_at "ev")
  | ((with_reducible apply EvAs.nil) <;> walk_at "ev")
  | ((with_reducible apply EvAs.cons) <;> walk_at "ev")
  | ((with_reducible apply eo_none) <;> walk_at "ev")
  | ((with_reducible apply eo_some) <;> walk_at "ev")
  | ((with_reducible apply tg_name) <;> walk_at "ev")
  | ((with_reducible apply tg_tup) <;> walk_at "ev")
  | ((with_reducible apply tgs_nil) <;> walk_at "ev")
  | ((with_reducible apply tgs_cons) <;> walk_at "ev")
  | ((with_reducible apply r2_lt) <;> walk_at "ev")
  | ((with_reducible apply r2_le) <;> walk_at "ev")
  | ((with_reducible intro _); walk_at "bd")
  | walk_at "cl"
  | (walk_at "no"; walk_at "sd"))
local macro_rules | `(tactic| walk_at "hl") => `(tactic| first | decide | ((simp only [List.length_cons, List.length_nil, List.length_append, List.length_map, List.length_take, List.length_drop]) <;> omega))
local macro_rules | `(tactic| walk_at "ha") => `(tactic| first | exact hall0 | with_reducible assumption | ((with_reducible refine hallC ?_ ?_) <;> first | walk_at "ha" | walk_at "hc") | ((with_reducible refine hallA ?_ ?_) <;> walk_at "ha") | ((with_reducible refine hallM ?_); (with_reducible intro _ _); walk_at "hc"))
local macro_rules | `(tactic| walk_at "hc") => `(tactic| first
  | with_reducible assumption | exact Hc.non | exact Hc.bool
  | ((with_reducible refine Hc.int ?_); first | with_reducible assumption | (unfold Nb; omega))
  | ((with_reducible apply_assumption) <;> with_reducible assumption)
  | ((with_reducible refine Hc.str ?_); exact Nc.str (by decide +kernel) (by decide +kernel))
  | ((with_reducible refine Hc.tup ?_ ?_); (walk_at "hl"); (walk_at "ha"))
  | ((with_reducible refine Hc.lst ?_ ?_); (walk_at "hl"); (walk_at "ha")))
section
variable {P : Program} {w : World} {K : PySem.W.Frag} {mg : Str → Option Value} {base : Heap} {a : Nat → Addr} {d : Nat → FuncData}
theorem mem_natsI {ks : List Nat} {i : Int} : i ∈ natsI ks ↔ ∃ k ∈ ks, (k : Int) = i := List.mem_map
theorem mem_rangeI {n : Nat} {p : Nat → Bool} {i : Int} : i ∈ natsI ((List.range n).filter p) ↔ (0 ≤ i ∧ i < n) ∧ p i.toNat = true := by
  rw [mem_natsI]
  constructor
  · rintro ⟨k, hk, rfl⟩
    obtain ⟨h1, h2⟩ := List.mem_filter.mp hk
    have := List.mem_range.mp h1
    exact ⟨by omega, h2⟩
  · rintro ⟨⟨h0, h1⟩, h2⟩
    exact ⟨i.toNat, List.mem_filter.mpr ⟨List.mem_range.mpr (by omega), h2⟩, Int.toNat_of_nonneg h0⟩
theorem natsI_up {n : Nat} {p : Nat → Bool} : (natsI ((List.range n).filter p)).Pairwise (· < ·) := by
  unfold natsI
  rw [List.pairwise_map]
  exact (List.pairwise_lt_range.filter _).imp fun h => by omega
theorem natsI_len {n : Nat} {p : Nat → Bool} : (natsI ((List.range n).filter p)).length ≤ n := by
  unfold natsI
  rw [List.length_map]
  have := List.length_filter_le p (List.range n)
  rwa [List.length_range] at this
theorem mem_nb {n : Nat} {rods : List (Int × Int)} {j i : Int} : i ∈ nbI n rods j ↔ (0 ≤ i ∧ i < n) ∧ tiedB rods j i = true := by
  unfold nbI
  rw [mem_rangeI]
  constructor
  · rintro ⟨h, e⟩
    rw [Int.toNat_of_nonneg h.1] at e
    exact ⟨h, e⟩
  · rintro ⟨h, e⟩
    exact ⟨h, by rw [Int.toNat_of_nonneg h.1]; exact e⟩
theorem mem_rest {n : Nat} {gone : List Int} {i : Int} : i ∈ restI n gone ↔ (0 ≤ i ∧ i < n) ∧ i ∉ gone := by
  unfold restI
  rw [mem_rangeI]
  constructor
  · rintro ⟨h, e⟩
    rw [Int.toNat_of_nonneg h.1, Bool.not_eq_true', decide_eq_false_iff_not] at e
    exact ⟨h, e⟩
  · rintro ⟨h, e⟩
    exact ⟨h, by rw [Int.toNat_of_nonneg h.1, Bool.not_eq_true', decide_eq_false_iff_not]; exact e⟩
theorem Conn.rng {n : Nat} {rods : List (Int × Int)} {gone : List Int} {j x : Int} (hj : 0 ≤ j ∧ j < n) (h : Conn n rods gone j x) : 0 ≤ x ∧ x < n := by
  cases h with
  | here => exact hj
  | step _ h0 h1 _ _ => exact ⟨h0, h1⟩
theorem Conn.out {n : Nat} {rods : List (Int × Int)} {gone : List Int} {j x : Int} (hj : j ∉ gone) (h : Conn n rods gone j x) : x ∉ gone := by
  cases h with
  | here => exact hj
  | step _ _ _ _ h => exact h
open Classical in
theorem mem_reach {n : Nat} {rods : List (Int × Int)} {gone : List Int} {j x : Int} (hj : 0 ≤ j ∧ j < n) : x ∈ reachI n rods gone j ↔ Conn n rods gone j x := by
  unfold reachI
  rw [mem_rangeI]
  constructor
  · rintro ⟨h, e⟩
    rw [decide_eq_true_iff, Int.toNat_of_nonneg h.1] at e
    exact e
  · intro h
    exact ⟨h.rng hj, by rw [decide_eq_true_iff, Int.toNat_of_nonneg (h.rng hj).1]; exact h⟩
theorem sorted_same {xs ys : List Int} (hx : xs.Pairwise (· < ·)) (hy : ys.Pairwise (· < ·)) (h : ∀ i, i ∈ xs ↔ i ∈ ys) : xs = ys := by
  have p : xs.Perm ys := (List.perm_ext_iff_of_nodup (nodup_up hx) (nodup_up hy)).mpr h
  exact List.Perm.eq_of_pairwise (le := fun a b : Int => a ≤ b) (fun a b _ _ h1 h2 => by omega) (hx.imp fun h => by omega) (hy.imp fun h => by omega) p
/-- a search: found joints fs, those from which it is still to be looked on -/
structure Se (n : Nat) (rods : List (Int × Int)) (gone : List Int) (j : Int) (fs rest : List Int) : Prop where
  nod : fs.Nodup
  js : j ∈ fs
  sub : ∀ x ∈ rest, x ∈ fs
  con : ∀ x ∈ fs, Conn n rods gone j x ∧ 0 ≤ x ∧ x < n
  clo : ∀ x ∈ fs, x ∉ rest → ∀ y : Int, 0 ≤ y → y < n → tiedB rods x y = true → y ∉ gone → y ∈ fs
structure Si (n : Nat) (rods : List (Int × Int)) (gone : List Int) (j x : Int) (ys : List Int) (fs rest : List Int) : Prop where
  nod : fs.Nodup
  js : j ∈ fs
  sub : ∀ x ∈ rest, x ∈ fs
  con : ∀ x ∈ fs, Conn n rods gone j x ∧ 0 ≤ x ∧ x < n
  xs : x ∈ fs
  clo : ∀ z ∈ fs, z ∉ rest → z ≠ x → ∀ y : Int, 0 ≤ y → y < n → tiedB rods z y = true → y ∉ gone → y ∈ fs
  part : ∀ y ∈ ys, 0 ≤ y → y < n → tiedB rods x y = true → y ∉ gone → y ∈ fs
def meas (n : Nat) (fs rest : List Int) : Nat := 2 * (n - fs.length) + rest.length
theorem Se.len {n : Nat} {rods : List (Int × Int)} {gone : List Int} {j : Int} {fs rest : List Int} (h : Se n rods gone j fs rest) : fs.length ≤ n := by
  have : fs.length ≤ (natsI (List.range n)).length := h.nod.length_le_of_subset fun x hx => by
    have := (h.con x hx).2
    exact mem_natsI.mpr ⟨x.toNat, List.mem_range.mpr (by omega), Int.toNat_of_nonneg this.1⟩
  rwa [List.length_map, List.length_range] at this
theorem Si.len {n : Nat} {rods : List (Int × Int)} {gone : List Int} {j x : Int} {ys fs rest : List Int} (h : Si n rods gone j x ys fs rest) : fs.length ≤ n := by
  have : fs.length ≤ (natsI (List.range n)).length := h.nod.length_le_of_subset fun x hx => by
    have := (h.con x hx).2
    exact mem_natsI.mpr ⟨x.toNat, List.mem_range.mpr (by omega), Int.toNat_of_nonneg this.1⟩
  rwa [List.length_map, List.length_range] at this
theorem Se.start {n : Nat} {rods : List (Int × Int)} {gone : List Int} {j : Int} (hj : 0 ≤ j ∧ j < n) : Se n rods gone j [j] [j] := ⟨by simp, by simp, fun x h => h, fun x h => by rw [List.mem_singleton.mp h]; exact ⟨.here, hj⟩, fun x h h2 => absurd h h2⟩
theorem Se.pop {n : Nat} {rods : List (Int × Int)} {gone : List Int} {j x : Int} {fs rest : List Int} (h : Se n rods gone j fs (rest ++ [x])) : Si n rods gone j x [] fs rest :=
  ⟨h.nod, h.js, fun z hz => h.sub z (List.mem_append_left _ hz), h.con, h.sub x (by simp), fun z hz h1 h2 => h.clo z hz (fun hm => by
    rcases List.mem_append.mp hm with hm | hm
    · exact h1 hm
    · exact h2 (List.mem_singleton.mp hm)), fun y hy => by cases hy⟩
theorem Si.skip {n : Nat} {rods : List (Int × Int)} {gone : List Int} {j x y : Int} {ys fs rest : List Int} (h : Si n rods gone j x ys fs rest) (hy : y ∈ fs ∨ y ∈ gone ∨ tiedB rods x y = false) : Si n rods gone j x (ys ++ [y]) fs rest :=
  ⟨h.nod, h.js, h.sub, h.con, h.xs, h.clo, fun z hz h0 h1 h2 h3 => by
    rcases List.mem_append.mp hz with hz | hz
    · exact h.part z hz h0 h1 h2 h3
    · have hz := List.mem_singleton.mp hz
      subst hz
      rcases hy with hy | hy | hy
      · exact hy
      · exact absurd hy h3
      · rw [hy] at h2; cases h2⟩
theorem Si.add {n : Nat} {rods : List (Int × Int)} {gone : List Int} {j x y : Int} {ys fs rest : List Int} (h : Si n rods gone j x ys fs rest) (hf : y ∉ fs) (hg : y ∉ gone) (ht : tiedB rods x y = true) (hy : 0 ≤ y ∧ y < n) : Si n rods gone j x (ys ++ [y]) (fs ++ [y]) (rest ++ [y]) :=
  ⟨List.nodup_append.mpr ⟨h.nod, by simp, fun a ha b hb e => by rw [List.mem_singleton.mp hb] at e; exact hf (e ▸ ha)⟩, List.mem_append_left _ h.js, fun z hz => by
    rcases List.mem_append.mp hz with hz | hz
    · exact List.mem_append_left _ (h.sub z hz)
    · exact List.mem_append_right _ hz, fun z hz => by
    rcases List.mem_append.mp hz with hz | hz
    · exact h.con z hz
    · rw [List.mem_singleton.mp hz]
      exact ⟨(h.con x h.xs).1.step hy.1 hy.2 ht hg, hy⟩, List.mem_append_left _ h.xs, fun z hz h1 h2 w h3 h4 h5 h6 => by
    rcases List.mem_append.mp hz with hz | hz
    · exact List.mem_append_left _ (h.clo z hz (fun hm => h1 (List.mem_append_left _ hm)) h2 w h3 h4 h5 h6)
    · exact absurd (List.mem_append_right _ hz) h1, fun z hz h0 h1 h2 h3 => by
    rcases List.mem_append.mp hz with hz | hz
    · exact List.mem_append_left _ (h.part z hz h0 h1 h2 h3)
    · exact List.mem_append_right _ hz⟩
theorem Si.done {n : Nat} {rods : List (Int × Int)} {gone : List Int} {j x : Int} {ys fs rest : List Int} (h : Si n rods gone j x ys fs rest) (hy : ∀ y : Int, 0 ≤ y → y < n → tiedB rods x y = true → y ∈ ys) : Se n rods gone j fs rest :=
  ⟨h.nod, h.js, h.sub, h.con, fun z hz h1 y h2 h3 h4 h5 => by
    by_cases e : z = x
    · subst e
      exact h.part y (hy y h2 h3 h4) h2 h3 h4 h5
    · exact h.clo z hz h1 e y h2 h3 h4 h5⟩
theorem Se.all {n : Nat} {rods : List (Int × Int)} {gone : List Int} {j : Int} {fs : List Int} (h : Se n rods gone j fs []) (x : Int) : x ∈ fs ↔ Conn n rods gone j x := by
  constructor
  · exact fun hx => (h.con x hx).1
  · intro hx
    induction hx with
    | here => exact h.js
    | step _ h0 h1 h2 h3 ih => exact h.clo _ ih (by simp) _ h0 h1 h2 h3
theorem Se.sorted {n : Nat} {rods : List (Int × Int)} {gone : List Int} {j : Int} {fs ys : List Int} (hj : 0 ≤ j ∧ j < n) (h : Se n rods gone j fs []) (hp : ys.Perm fs) (hu : ys.Pairwise (· ≤ ·)) : ys = reachI n rods gone j := by
  refine sorted_same (up_strict hu (hp.nodup_iff.mpr h.nod)) natsI_up fun i => ?_
  rw [hp.mem_iff, h.all, mem_reach hj]
theorem tied_law {n : Nat} {rods : List (Int × Int)} (h : Rods n rods) (a b : Int) : decide (swP a b ∈ rods) = tiedB rods a b := by
  unfold tiedB swP
  by_cases hab : a ≤ b
  · rw [Int.min_eq_left hab, Int.max_eq_right hab]
    have : (b, a) ∈ rods → (a, b) ∈ rods := fun z => by
      have := (h.ok _ z).2.1
      simp only at this
      omega
    by_cases h1 : (a, b) ∈ rods
    · rw [decide_eq_true h1, Bool.true_or]
    · rw [decide_eq_false h1, decide_eq_false (fun z => h1 (this z))]
      rfl
  · rw [Int.min_eq_right (by omega), Int.max_eq_left (by omega)]
    have : (a, b) ∈ rods → (b, a) ∈ rods := fun z => by
      have := (h.ok _ z).2.1
      simp only at this
      omega
    by_cases h1 : (b, a) ∈ rods
    · rw [decide_eq_true h1, Bool.or_true]
    · rw [decide_eq_false h1, decide_eq_false (fun z => h1 (this z))]
      rfl
theorem in_lot (lot : List Int) (a : Int) : ((lot.map PyData.int).any fun z => PyData.eqv z (.int a)) = decide (a ∈ lot) := Pu.any_ints
theorem in_rods (rods : List (Int × Int)) (r : Int × Int) : ((rods.map encP).any fun z => PyData.eqv z (encP r)) = decide (r ∈ rods) := (any_map_eqv (f := encP) (fun p q => eqv_pair p.1 p.2 q.1 q.2) rods r).trans (decide_eq_decide.mpr Iff.rfl)
theorem nc_small {i : Int} (h : 0 ≤ i ∧ i ≤ 100) : NC (.int i) := (Nc.int (Nat.lt_of_lt_of_le (show i.natAbs < 1000 by omega) (by decide))).up
theorem nc_encP4 {p : Int × Int} (h : (0 ≤ p.1 ∧ p.1 ≤ 100) ∧ 0 ≤ p.2 ∧ p.2 ≤ 100) : NC (encP p) := (nc_encP (k := 4) ⟨nb_small (by omega), nb_small (by omega)⟩ (by decide)).up
theorem nc_lot {lot : List Int} (h : Few lot) : NC (encI lot) := NC.tuple (n := 0) (m := 45) 24 (by rw [List.length_map]; exact h.len) (nc_map fun i hi => (Nc.int (Nat.lt_of_lt_of_le (show i.natAbs < 1000 by have := h.sm i hi; omega) (by decide)))) (by decide) (by decide)
theorem nc_rods {n : Nat} {rods : List (Int × Int)} (h : Rods n rods) : NC (encPs rods) := (nc_pts (k := 4) h.le h.nb (by decide)).up
theorem few_reach {n : Nat} {rods : List (Int × Int)} {gone : List Int} {j : Int} (hn : n ≤ 24) : Few (reachI n rods gone j) := ⟨Nat.le_trans natsI_len hn, fun i hi => by
  have := (mem_rangeI.mp hi).1
  omega⟩
theorem restI_step (k : Nat) (gone : List Int) : restI (k + 1) gone = if (k : Int) ∈ gone then restI k gone else restI k gone ++ [(k : Int)] := by
  unfold restI natsI
  rw [List.range_succ, List.filter_append, List.map_append, List.filter_cons]
  by_cases h : (k : Int) ∈ gone
  · rw [if_pos h, decide_eq_true h]
    simp
  · rw [if_neg h, decide_eq_false h]
    simp
/-- the pieces found with the joints below k -/
structure Pcs (n : Nat) (rods : List (Int × Int)) (gone : List Int) (k : Nat) (lots : List (List Int)) : Prop where
  len : lots.length ≤ k
  few : ∀ lot ∈ lots, Few lot
  none : restI k gone = [] → lots = []
  some : ∀ r rs, restI k gone = r :: rs → ∃ ls, lots = reachI n rods gone r :: ls ∧ (ls = [] ↔ ∀ j ∈ r :: rs, j ∈ reachI n rods gone r)
theorem Pcs.start {n : Nat} {rods : List (Int × Int)} {gone : List Int} : Pcs n rods gone 0 [] := ⟨by decide, fun lot h => (by cases h), fun _ => rfl, fun r rs h => (by cases h)⟩
theorem Pcs.skip {n : Nat} {rods : List (Int × Int)} {gone : List Int} {k : Nat} {lots : List (List Int)} (h : Pcs n rods gone k lots) (hk : (k : Int) ∈ gone ∨ ∃ lot ∈ lots, (k : Int) ∈ lot) : Pcs n rods gone (k + 1) lots := by
  by_cases hg : (k : Int) ∈ gone
  · have e : restI (k + 1) gone = restI k gone := by rw [restI_step, if_pos hg]
    exact ⟨by have := h.len; omega, h.few, fun z => h.none (e ▸ z), fun r rs z => h.some r rs (e ▸ z)⟩
  · have e : restI (k + 1) gone = restI k gone ++ [(k : Int)] := by rw [restI_step, if_neg hg]
    obtain ⟨lot, hlot, hin⟩ := hk.resolve_left hg
    refine ⟨by have := h.len; omega, h.few, fun z => ?_, fun r rs z => ?_⟩
    · rw [e] at z
      simp at z
    · rw [e] at z
      cases hr : restI k gone with
      | nil =>
        rw [h.none hr] at hlot
        cases hlot
      | cons x xs =>
        rw [hr, List.cons_append] at z
        injection z with z1 z2
        subst z1 z2
        obtain ⟨ls, hl, hi⟩ := h.some _ _ hr
        refine ⟨ls, hl, fun hn j hj => ?_, fun hall => hi.mpr fun j hj => hall j ?_⟩
        · rcases List.mem_cons.mp hj with rfl | hj
          · exact hi.mp hn _ (by simp)
          · rcases List.mem_append.mp hj with hj | hj
            · exact hi.mp hn _ (List.mem_cons_of_mem _ hj)
            · rw [List.mem_singleton.mp hj]
              rw [hl, hn] at hlot
              rw [List.mem_singleton.mp hlot] at hin
              exact hin
        · rcases List.mem_cons.mp hj with rfl | hj
          · simp
          · simp [hj]
theorem Pcs.add {n : Nat} {rods : List (Int × Int)} {gone : List Int} {k : Nat} {lots : List (List Int)} (hn : n ≤ 24) (hkn : k < n) (h : Pcs n rods gone k lots) (hg : (k : Int) ∉ gone) (hno : ∀ lot ∈ lots, (k : Int) ∉ lot) : Pcs n rods gone (k + 1) (lots ++ [reachI n rods gone k]) := by
  have e : restI (k + 1) gone = restI k gone ++ [(k : Int)] := by rw [restI_step, if_neg hg]
  refine ⟨by have := h.len; rw [List.length_append]; show _ + 1 ≤ _; omega, fun lot hl => ?_, fun z => ?_, fun r rs z => ?_⟩
  · rcases List.mem_append.mp hl with hl | hl
    · exact h.few _ hl
    · rw [List.mem_singleton.mp hl]
      exact few_reach hn
  · rw [e] at z
    simp at z
  · rw [e] at z
    cases hr : restI k gone with
    | nil =>
      rw [hr] at z
      rw [h.none hr]
      injection z with z1 z2
      subst z1 z2
      exact ⟨[], rfl, ⟨fun _ j hj => by
        rw [List.mem_singleton.mp hj]
        exact (mem_reach (by omega)).mpr .here, fun _ => rfl⟩⟩
    | cons x xs =>
      rw [hr, List.cons_append] at z
      injection z with z1 z2
      subst z1 z2
      obtain ⟨ls, hl, hi⟩ := h.some _ _ hr
      refine ⟨ls ++ [reachI n rods gone k], by rw [hl]; rfl, fun hx => by simp at hx, fun hall => ?_⟩
      exact absurd (hall k (by simp)) (hno _ (by rw [hl]; simp))
theorem eq_lots {lots : List (List Int)} {ds : List PyData} {i : Nat} {d : PyData} (h : ds = lots.map encI) (hk : ds[i]? = some d) : ∃ lot, lots[i]? = some lot ∧ d = encI lot := by
  rw [h, List.getElem?_map] at hk
  cases hx : lots[i]? with
  | none => rw [hx] at hk; cases hk
  | some lot => rw [hx] at hk; exact ⟨lot, rfl, (Option.some.inj hk).symm⟩
theorem G__law_source (T : Txt K mg a d) : FnG P w K mg base CX0 1 (a 9) (d 9) ["script"] (spSource K) := by
  refine fng_of T.F__law_source sc__law_source (fun vs H Q E h => by obtain ⟨x, ns, rfl, _⟩ := h; rfl) (fun cdv A outer s H vs Q E hgu hr h => ?_)
  obtain ⟨x, ns, rfl, hS, hn, hSy, q⟩ := h
  exact ⟨_, PSs.nox (pss_cons (ps_set (i := 1) sc__law_source.nd rfl (Or.inl rfl) pe_int)
      (pss_cons (ps_for PassesOwn.never rfl (kpi_seq K (pv 0)) (pg_name (i := 2) sc__law_source.nd rfl (Or.inl rfl)) (pss_one (ps_set (i := 1) sc__law_source.nd rfl (Or.inl rfl) (pe_op op_mod (pe_callTy c_int (by rfl) T.z_int (by decide +kernel) (pa_cons (pe_op (k_add K) (pe_op (k_add K) (pe_op o_mul (pv 1) pe_int) (pe_op o_mul (pv 2) pe_int)) pe_int) pa_nil)) pe_int))))
      (pss_one (ps_ret (pe_disp (pps_cons pe_str (pe_revL (pe_lc (own := [("cell", 2)]) (g := (gName 2)) (tt := tYes) rfl sc__law_source.nd (kpi_seq K (pv 0)) (blkOk_by (N := ["script", "mixed", "cell"]) (sc := defScope s__law_source) (by decide +kernel)) (fun _ _ _ _ _ => (pg_name (i := 2) sc__law_source.nd rfl (Or.inl rfl))) (fun _ _ _ _ _ => pts_nil) (fun _ _ _ _ _ => (pe_callB c_abs (by rfl) T.z_abs (by decide +kernel) (pa_cons (pv 2) pa_nil))))) (pps_cons pe_str pe_int (pps_cons pe_str (pv 1) (pps_cons pe_str pe_int pps_nil)))) rfl rfl (by decide) (by decide)))))), src_read hS hn hSy q _ rfl⟩
theorem G__law_pick (T : Txt K mg a d) : FnG P w K mg base CX0 1 (a 10) (d 10) ["source", "many"] (spOf 2 R__law_pick) := by
  refine fn_run T.F__law_pick sc__law_pick rfl (fun cdv A outer s H E hgu hr => ?_)
  have hgu := hgu_of hgu (env := PyProof.Rows.envOfC "_law_pick" (defScope s__law_pick) s.heap.objs.size (a 10) cdv)
  have hu64 := hr.units; have hu65 := hu65_of hr; have hrep := hrep_of hr; have hu1 := hu_of hr
  refine ⟨_, (pss_cons (ps_while PassesOwn.never (PW.pt (pw_and (pt_cmpR op_gt (pv 1) pe_int (by rfl)) (pw_and (pt_cmpR op_lt (pe_dget hu1 (pv 0) pe_str (fun _ _ => rfl)) pe_int (by rfl)) (pw_and1 (pt_cmpR op_gt (pe_callB (kc_len K) (by rfl) T.z_len (by decide +kernel) (pa_cons (pe_dget hu1 (pv 0) pe_str (fun _ _ => rfl)) pa_nil)) pe_int (by rfl)))))) (pss_one (ps_dput hu1 (pv 0) pe_str (pe_bm0 PySem.F.plainAttrs_list PySem.F.slot_list_pop PySem.F.type_list_pop mt_pop (pe_dget hu1 (pv 0) pe_str (fun _ _ => rfl))) rfl)))
      (pss_cons (ps_set (i := 2) sc__law_pick.nd rfl (Or.inl rfl) (pe_dget hu1 (pv 0) pe_str (fun _ _ => rfl)))
      (pss_cons (ps_if (PW.pt (pw_or (pt_cmpR op_lt (pv 1) pe_int (by rfl)) (pw_or1 (pt_cmpR op_gt (pv 2) pe_int (by rfl))))) (pss_cons (ps_dput hu1 (pv 0) pe_str (pe_op op_fdivW (pv 2) (pe_callB (c_max2 rfl) (by rfl) T.z_max (by decide +kernel) (pa_cons pe_int (pa_cons (pv 1) pa_nil)))) rfl)
      (pss_one (ps_ret (pe_op op_mod (pe_callTy c_int (by rfl) T.z_int (by decide +kernel) (pa_cons (pv 2) pa_nil)) (pe_callB (c_max2 rfl) (by rfl) T.z_max (by decide +kernel) (pa_cons pe_int (pa_cons (pv 1) pa_nil))))))) pss_nil)
      (pss_cons (ps_dput hu1 (pv 0) pe_str (pe_op (k_add K) (pe_dget hu1 (pv 0) pe_str (fun _ _ => rfl)) pe_int) rfl)
      (pss_cons (ps_set (i := 3) sc__law_pick.nd rfl (Or.inl rfl) (pe_op op_mod (pe_callTy c_int (by rfl) T.z_int (by decide +kernel) (pa_cons (pe_op (k_add K) (pe_dget hu1 (pv 0) pe_str (fun _ _ => rfl)) (pe_op o_mul (pe_dget hu1 (pv 0) pe_str (fun _ _ => rfl)) pe_int)) pa_nil)) pe_int))
      (pss_cons (ps_set (i := 3) sc__law_pick.nd rfl (Or.inl rfl) (pe_op op_mod (pe_callTy c_int (by rfl) T.z_int (by decide +kernel) (pa_cons (pe_op (k_add K) (pe_op o_mul (pv 3) (pv 3)) (pe_op o_mul (pe_dget hu1 (pv 0) pe_str (fun _ _ => rfl)) pe_int)) pa_nil)) pe_int))
      (pss_cons (ps_dput hu1 (pv 0) pe_str (pv 3) rfl)
      (pss_one (ps_ret (pe_op op_mod (pe_callTy c_int (by rfl) T.z_int (by decide +kernel) (pa_cons (pe_op op_fdivW (pv 3) pe_int) pa_nil)) (pv 1))))))))))), fun M bs Q hR hl => ?_⟩
  exact run_pick hR
theorem G__law_of (T : Txt K mg a d) : FnG P w K mg base CX0 2 (a 11) (d 11) ["source", "some"] (spOf 2 R__law_of) := by
  refine fn_run T.F__law_of sc__law_of rfl (fun cdv A outer s H E hgu hr => ?_)
  have hgu := hgu_of hgu (env := PyProof.Rows.envOfC "_law_of" (defScope s__law_of) s.heap.objs.size (a 11) cdv)
  have hu64 := hr.units; have hu65 := hu65_of hr; have hrep := hrep_of hr; have hu1 := hu_of hr
  refine ⟨_, (pss_one (ps_ret (pe_ix (k_ix K) (pv 1) (pe_callG (G__law_pick T) hgu (hr.mono (by decide)) (by rfl) T.g__law_pick T.F__law_pick.kp T.b__law_pick .nil pass0 (pa_cons (pv 0) (pa_cons (pe_callB (kc_len K) (by rfl) T.z_len (by decide +kernel) (pa_cons (pv 1) pa_nil)) pa_nil))) (fun _ _ => rfl)))), fun M bs Q hR hl => ?_⟩
  change Pu.Run M _ (bs ++ []) _
  rw [List.append_nil]
  exact run_of rfl hR rfl
theorem G__law_mixed (T : Txt K mg a d) : FnG P w K mg base CX0 2 (a 12) (d 12) ["source", "things"] (spOf 2 R__law_mixed) := by
  refine fn_run T.F__law_mixed sc__law_mixed rfl (fun cdv A outer s H E hgu hr => ?_)
  have hgu := hgu_of hgu (env := PyProof.Rows.envOfC "_law_mixed" (defScope s__law_mixed) s.heap.objs.size (a 12) cdv)
  have hu64 := hr.units; have hu65 := hu65_of hr; have hrep := hrep_of hr; have hu1 := hu_of hr
  refine ⟨_, (pss_cons (ps_set (i := 2) sc__law_mixed.nd rfl (Or.inr rfl) (pe_callTy (kc_list K) (by rfl) T.z_list (by decide +kernel) (pa_cons (pv 1) pa_nil)))
      (pss_one (ps_ret (pe_lc (own := [("lap", 3)]) (g := (gName 3)) (tt := tYes) rfl sc__law_mixed.nd (pi_range1 (by rfl) T.z_range (pa_cons (pe_callB (kc_len K) (by rfl) T.z_len (by decide +kernel) (pa_cons (pv 2) pa_nil)) pa_nil)) (blkOk_by (N := ["source", "things", "rest", "lap"]) (sc := defScope s__law_mixed) (by decide +kernel)) (fun _ _ _ _ _ => (pg_name (i := 3) sc__law_mixed.nd rfl (Or.inl rfl))) (fun _ _ _ _ _ => pts_nil) (fun _ _ _ _ _ => (kpe_bm K PySem.F.plainAttrs_list PySem.F.slot_list_pop PySem.F.type_list_pop mt_popAt (pv 2) (pa_cons (pe_callG (G__law_pick T) hgu (hr.mono (by decide)) (by rfl) T.g__law_pick T.F__law_pick.kp T.b__law_pick .nil pass0 (pa_cons (pv 0) (pa_cons (pe_callB (kc_len K) (by rfl) T.z_len (by decide +kernel) (pa_cons (pv 2) pa_nil)) pa_nil))) pa_nil))))))), fun M bs Q hR hl => ?_⟩
  obtain ⟨hM, x, ds, rfl, hx, hl, rfl⟩ := hR
  refine run_seq (run_setL (ds := ds) (by show 2 < 4; decide) ?_ ?_)
  · rcases hx with rfl | rfl
    · exact el_list_l (by walk_at "ev")
    · exact el_list_t (by walk_at "ev")
  exact run_mixedL hM hl (fun es h => ⟨es, rfl, h⟩)
theorem G_is_number (T : Txt K mg a d) : FnG P w K mg base CX0 1 (a 0) (d 0) ["value"] (spOf 1 R_is_number) := by
  refine fn_run T.F_is_number sc_is_number rfl (fun cdv A outer s H E hgu hr => ?_)
  have hgu := hgu_of hgu (env := PyProof.Rows.envOfC "is_number" (defScope s_is_number) s.heap.objs.size (a 0) cdv)
  have hu64 := hr.units; have hu65 := hu65_of hr; have hrep := hrep_of hr; have hu1 := hu_of hr
  refine ⟨_, (pss_one (ps_ret (pe_and (pe_callB (kc_isi K) (by rfl) T.z_isinstance (by decide +kernel) (pa_cons (pv 0) (pa_cons (pe_bltn (v := .ty "int") (u := .type "int") (by rfl) T.z_int (by decide +kernel) rfl) pa_nil))) (pe_and (pe_not (pe_callB (kc_isi K) (by rfl) T.z_isinstance (by decide +kernel) (pa_cons (pv 0) (pa_cons (pe_bltn (v := .ty "bool") (u := .type "bool") (by rfl) T.z_bool (by decide +kernel) rfl) pa_nil)))) (pe_one (pe_cmpR op_ge (pv 0) pe_int (by rfl))))))), fun M bs Q hR hl => ?_⟩
  obtain ⟨v, rfl, rfl⟩ := hR
  refine run_retD (d := .bool (numB v)) ?_ rfl
  by_cases h : isI v = true
  · obtain ⟨i, rfl⟩ := isI_int h
    have e : numB (.int i) = (isT "int" (.int i) && (!isT "bool" (.int i) && decide (0 ≤ i))) := by
      have := isI_eq (.int i)
      rw [← Bool.and_assoc, this]
      rfl
    rw [e]
    exact ev_andV (ev_isi (.inl rfl) (ev_var rfl)) (fun _ => ev_andV (ev_notV (ev_isi (.inr (.inl rfl)) (ev_var rfl))) (fun _ => ev_ge (ev_var rfl) ev_int))
  · have e : numB v = (isT "int" v && (!isT "bool" v && true)) := by
      rw [Bool.and_true, isI_eq, Bool.eq_false_iff.mpr h]
      cases v with
      | int i => exact absurd rfl h
      | _ => rfl
    rw [e]
    refine ev_andV (ev_isi (.inl rfl) (ev_var rfl)) (fun z1 => ev_andV (ev_notV (ev_isi (.inr (.inl rfl)) (ev_var rfl))) (fun z2 => ?_))
    exact absurd (by rw [← isI_eq, z1, z2]; rfl) h
theorem G_is_joint (T : Txt K mg a d) : FnG P w K mg base CX0 2 (a 1) (d 1) ["frame", "value"] (spOf 2 R_is_joint) := by
  refine fn_run T.F_is_joint sc_is_joint rfl (fun cdv A outer s H E hgu hr => ?_)
  have hgu := hgu_of hgu (env := PyProof.Rows.envOfC "is_joint" (defScope s_is_joint) s.heap.objs.size (a 1) cdv)
  have hu64 := hr.units; have hu65 := hu65_of hr; have hrep := hrep_of hr; have hu1 := hu_of hr
  refine ⟨_, (pss_one (ps_ret (pe_and (pe_callG (G_is_number T) hgu (hr.mono (by decide)) (by rfl) T.g_is_number T.F_is_number.kp T.b_is_number .nil pass0 (pa_cons (pv 1) pa_nil)) (pe_one (pe_cmpR op_lt (pv 1) (pe_ix (k_ix K) (pv 0) pe_int (fun _ _ => rfl)) (by rfl)))))), fun M bs Q hR hl => ?_⟩
  obtain ⟨n, rods, i, rfl, rfl⟩ := hR
  have c1 : R_is_number M [.dat (.int i)] (fun w => w = .bool (decide (0 ≤ i))) := ⟨.int i, rfl, rfl⟩
  exact run_retD (d := .bool (decide (0 ≤ i) && decide (i < (n : Int)))) (ev_andV (ev_call (ea_cons (ev_var rfl) ea_nil) rfl c1) (fun _ => ev_lt (ev_var rfl) (ev_ix_t (xs := [PyData.int (n : Int), encPs rods]) (i := 0) (ev_var rfl) ev_int rfl))) rfl
theorem G_are_tied (T : Txt K mg a d) : FnG P w K mg base CX0 1 (a 2) (d 2) ["frame", "a", "b"] (spOf 3 R_are_tied) := by
  refine fn_run T.F_are_tied sc_are_tied rfl (fun cdv A outer s H E hgu hr => ?_)
  have hgu := hgu_of hgu (env := PyProof.Rows.envOfC "are_tied" (defScope s_are_tied) s.heap.objs.size (a 2) cdv)
  have hu64 := hr.units; have hu65 := hu65_of hr; have hrep := hrep_of hr; have hu1 := hu_of hr
  refine ⟨_, (pss_one (ps_ret (pe_or (pe_cmpR (k_in K hu65) (pe_tup (pa_cons (pv 1) (pa_cons (pv 2) pa_nil))) (pe_ix (k_ix K) (pv 0) pe_int (fun _ _ => rfl)) (by rfl)) (pe_one (pe_cmpR (k_in K hu65) (pe_tup (pa_cons (pv 2) (pa_cons (pv 1) pa_nil))) (pe_ix (k_ix K) (pv 0) pe_int (fun _ _ => rfl)) (by rfl)))))), fun M bs Q hR hl => ?_⟩
  obtain ⟨n, rods, a, b, rfl, h, ha, hb, rfl⟩ := hR
  have nR := nc_rods h
  refine run_retD (d := .bool (tiedB rods a b)) (ev_orV ((ev_in_tN (ev_tup2 (ev_var rfl) (ev_var rfl)) (ev_ix_t (xs := [PyData.int (n : Int), encPs rods]) (i := 1) (ev_var rfl) ev_int rfl) (nc_encP4 (p := (a, b)) ⟨ha, hb⟩) nR).to (congrArg PyData.bool (in_rods rods (a, b)))) (fun _ => (ev_in_tN (ev_tup2 (ev_var rfl) (ev_var rfl)) (ev_ix_t (xs := [PyData.int (n : Int), encPs rods]) (i := 1) (ev_var rfl) ev_int rfl) (nc_encP4 (p := (b, a)) ⟨hb, ha⟩) nR).to (congrArg PyData.bool (in_rods rods (b, a))))) rfl
theorem G__law_tied (T : Txt K mg a d) : FnG P w K mg base CX0 1 (a 15) (d 15) ["frame", "a", "b"] (spOf 3 R__law_tied) := by
  refine fn_run T.F__law_tied sc__law_tied rfl (fun cdv A outer s H E hgu hr => ?_)
  have hgu := hgu_of hgu (env := PyProof.Rows.envOfC "_law_tied" (defScope s__law_tied) s.heap.objs.size (a 15) cdv)
  have hu64 := hr.units; have hu65 := hu65_of hr; have hrep := hrep_of hr; have hu1 := hu_of hr
  refine ⟨_, (pss_one (ps_ret (pe_cmpR (k_in K hu65) (pe_tup (pa_cons (pe_callB (c_min2 rfl) (by rfl) T.z_min (by decide +kernel) (pa_cons (pv 1) (pa_cons (pv 2) pa_nil))) (pa_cons (pe_callB (c_max2 rfl) (by rfl) T.z_max (by decide +kernel) (pa_cons (pv 1) (pa_cons (pv 2) pa_nil))) pa_nil))) (pe_ix (k_ix K) (pv 0) pe_int (fun _ _ => rfl)) (by rfl)))), fun M bs Q hR hl => ?_⟩
  obtain ⟨n, rods, a, b, rfl, h, ha, hb, rfl⟩ := hR
  have nR := nc_rods h
  rw [← tied_law h a b]
  refine run_retD (d := .bool (decide (swP a b ∈ rods))) ((ev_in_tN (x := encP (swP a b)) ?_ (ev_ix_t (xs := [PyData.int (n : Int), encPs rods]) (i := 1) (ev_var rfl) ev_int rfl) (nc_encP4 (by unfold swP; simp only; omega)) nR).to (congrArg PyData.bool (in_rods rods (swP a b)))) rfl
  refine ev_tup2 ((ev_min2 (ev_var rfl) (ev_var rfl)).to ?_) ((ev_max2 (ev_var rfl) (ev_var rfl)).to ?_)
  · congr 1
    unfold swP
    simp only
    split <;> omega
  · congr 1
    unfold swP
    simp only
    split <;> omega
theorem G_neighbours (T : Txt K mg a d) : FnG P w K mg base CX0 3 (a 3) (d 3) ["frame", "joint"] (spOf 2 R_neighbours) := by
  refine fn_run T.F_neighbours sc_neighbours rfl (fun cdv A outer s H E hgu hr => ?_)
  have hgu := hgu_of hgu (env := PyProof.Rows.envOfC "neighbours" (defScope s_neighbours) s.heap.objs.size (a 3) cdv)
  have hu64 := hr.units; have hu65 := hu65_of hr; have hrep := hrep_of hr; have hu1 := hu_of hr
  refine ⟨_, (pss_cons (ps_if (pt_not (pt_val (pe_callG (G_is_joint T) hgu (hr.mono (by decide)) (by rfl) T.g_is_joint T.F_is_joint.kp T.b_is_joint .nil pass0 (pa_cons (pv 0) (pa_cons (pv 1) pa_nil))))) (pss_one ps_dead) pss_nil)
      (pss_one (ps_ret (pe_callTy (kc_tuple K) (by rfl) T.z_tuple (by decide +kernel) (pa_cons (pe_lc (own := [("other", 2)]) (g := (gName 2)) rfl sc_neighbours.nd (pi_range1 (by rfl) T.z_range (pa_cons (pe_ix (k_ix K) (pv 0) pe_int (fun _ _ => rfl)) pa_nil)) (blkOk_by (N := ["frame", "joint", "other"]) (sc := defScope s_neighbours) (by decide +kernel)) (fun _ _ _ _ _ => (pg_name (i := 2) sc_neighbours.nd rfl (Or.inl rfl))) (fun _ _ _ _ _ => (pts_one (pt_val (pe_callG (G_are_tied T) hgu (hr.mono (by decide)) (by rfl) T.g_are_tied T.F_are_tied.kp T.b_are_tied .nil pass0 (pa_cons (pv 0) (pa_cons (pv 1) (pa_cons (pv 2) pa_nil))))))) (fun _ _ _ _ _ => (pv 2))) pa_nil))))), fun M bs Q hR hl => ?_⟩
  obtain ⟨n, rods, j, rfl, h, hj, rfl⟩ := hR
  have hn := h.n2
  have c1 : R_is_joint M [.dat (encF n rods), .dat (.int j)] (fun w => w = .bool (decide (0 ≤ j) && decide (j < (n : Int)))) := ⟨n, rods, j, rfl, rfl⟩
  refine run_seq (run_ifD (b := false) ((et_not (et_B (ev_call (ea_cons (ev_var rfl) (ea_cons (ev_var rfl) ea_nil)) rfl c1))).to (by rw [decide_eq_true hj.1, decide_eq_true hj.2]; rfl)) (fun z => by cases z) (fun _ => run_next ?_))
  refine run_retD (d := encI (nbI n rods j)) ((ev_tuple_l (el_frz (el_lcM (as := List.range n) (en := fun i : Nat => PyData.int (i : Int)) (l := fun i => [(2, .int (i : Int))]) (p := fun i : Nat => tiedB rods j (i : Int)) (f := fun i : Nat => .int (i : Int)) (ei_r1M (j := (n : Int)) (ev_ix_t (xs := [PyData.int (n : Int), encPs rods]) (i := 0) (ev_var rfl) ev_int rfl) (by omega)) (fun _ _ => tg_name) (fun _ _ => rfl) (fun i hi => ?_) (fun _ _ _ => ev_var rfl) (by rw [List.length_range]; omega)))).to ?_) rfl
  · have hi := List.mem_range.mp hi
    have c2 : R_are_tied M [.dat (encF n rods), .dat (.int j), .dat (.int (i : Int))] (fun w => w = .bool (tiedB rods j (i : Int))) := ⟨n, rods, j, i, rfl, h, by omega, by omega, rfl⟩
    exact et_B (ev_call (ea_cons (ev_var rfl) (ea_cons (ev_var rfl) (ea_cons (ev_var rfl) ea_nil))) rfl c2)
  · show PyData.tuple _ = .tuple _
    unfold nbI
    rw [natsI_map]
end
end K53

namespace K53
open PySem L2 Pu
local macro_rules | `(tactic| walk_at "pr") => `(tactic| first | with_reducible assumption | ((with_reducible apply Nb.up); (walk_at "nb"); decide) | omega | ((with_reducible apply_assumption) <;> with_reducible assumption) | ((with_reducible apply is_eq); first | exact atI_map (by with_reducible assumption) | exact rfl) | ((simp only [List.length_cons, List.length_nil]) <;> omega) | exact Or.inl rfl | exact Or.inr (Or.inl rfl) | exact Or.inr (Or.inr (Or.inl rfl)) | exact Or.inr (Or.inr (Or.inr (Or.inl rfl))) | exact Or.inr (Or.inr (Or.inr (Or.inr (Or.inl rfl)))) | exact Or.inr (Or.inr (Or.inr (Or.inr (Or.inr rfl)))) | (fail_if_success (with_reducible apply is_at)))
local macro_rules | `(tactic| walk_at "sd") => `(tactic| first | ((with_reducible refine is_pr ?_); walk_at "pr") | (fail_if_success (with_reducible refine is_pr ?_)))
local macro_rules | `(tactic| walk_at "cl") => `(tactic| first | ((with_reducible apply_assumption) <;> with_reducible assumption) | fail)
local macro_rules | `(tactic| walk_at "no") => `(tactic| (fail_if_success (first | with_reducible apply is_evp | with_reducible apply is_evn | with_reducible apply is_evb | with_reducible apply is_evi | with_reducible apply is_eva | with_reducible apply is_evas | with_reducible apply is_evo | with_reducible apply is_tg | with_reducible apply is_tgs)))
local macro_rules | `(tactic| walk_at "wk") => `(tactic| first | exact Wk.nil | (apply Wk.same; walk_at "wk") | (apply Wk.no; walk_at "wk"))
local macro_rules | `(tactic| walk_at "nb") => `(tactic| first | with_reducible assumption | exact Nb.two | exact Nb.one | exact Nb.zero | ((with_reducible apply Nb.mul) <;> walk_at "nb") | ((with_reducible apply Nb.add) <;> walk_at "nb") | ((with_reducible apply Nb.sub) <;> walk_at "nb") | ((with_reducible apply Nb.neg) <;> walk_at "nb"))
local macro_rules | `(tactic| walk_at "bd") => `(tactic| first | ((with_reducible intro _); walk_at "bd") | ((with_reducible apply EvT.to) <;> walk_at "ev") | ((with_reducible apply EvD.to) <;> walk_at "ev") | walk_at "ev")
local macro_rules | `(tactic| walk_at "ev") => `(tactic| first
  | with_reducible exact ev_int | with_reducible exact ev_bl | with_reducible exact ev_str | with_reducible exact ev_non
  | ((with_reducible apply ev_var); exact rfl)
  | ((with_reducible apply ev_addI) <;> walk_at "ev")
  | ((with_reducible apply ev_sub) <;> walk_at "ev")
  | ((with_reducible apply ev_mulW) <;> walk_at "ev")
  | ((with_reducible apply ev_mod) <;> walk_at "ev")
  | ((with_reducible apply ev_fdiv) <;> walk_at "ev")
  | ((with_reducible apply ev_sqW) <;> walk_at "ev")
  | ((with_reducible apply ev_neg) <;> walk_at "ev")
  | ((with_reducible apply ev_abs) <;> walk_at "ev")
  | ((with_reducible apply ev_max2) <;> walk_at "ev")
  | ((with_reducible apply ev_min2) <;> walk_at "ev")
  | ((with_reducible apply ev_lt) <;> walk_at "ev")
  | ((with_reducible apply ev_le) <;> walk_at "ev")
  | ((with_reducible apply ev_gt) <;> walk_at "ev")
  | ((with_reducible apply ev_ge) <;> walk_at "ev")
  | ((with_reducible apply ev_eqI2) <;> walk_at "ev")
  | ((with_reducible apply ev_neI2) <;> walk_at "ev")
  | ((with_reducible apply ev_neS2) <;> walk_at "ev")
  | ((with_reducible apply ev_eqS2) <;> walk_at "ev")
  | ((with_reducible apply ev_eqN) <;> walk_at "ev")
  | ((with_reducible apply ev_neN) <;> walk_at "ev")
  | ((with_reducible apply ev_in_lN) <;> walk_at "ev")
  | ((with_reducible apply ev_in_tN) <;> walk_at "ev")
  | ((with_reducible apply ev_ni_lN) <;> walk_at "ev")
  | ((with_reducible apply ev_ni_tN) <;> walk_at "ev")
  | ((with_reducible apply ev_reprN) <;> walk_at "ev")
  | ((with_reducible apply ev_isN) <;> walk_at "ev")
  | ((with_reducible apply ev_notN) <;> walk_at "ev")
  | ((with_reducible apply ev_andV) <;> walk_at "ev")
  | ((with_reducible apply ev_orV) <;> walk_at "ev")
  | ((with_reducible apply ev_notV) <;> walk_at "ev")
  | ((with_reducible apply ev_if) <;> walk_at "ev")
  | ((with_reducible apply ev_ix_t) <;> walk_at "ev")
  | ((with_reducible apply ev_ix_l) <;> walk_at "ev")
  | ((with_reducible apply ev_len_t) <;> walk_at "ev")
  | ((with_reducible apply ev_len_l) <;> walk_at "ev")
  | ((with_reducible apply ev_tuple_l) <;> walk_at "ev")
  | ((with_reducible apply ev_tuple_t) <;> walk_at "ev")
  | ((with_reducible apply ev_isi) <;> walk_at "ev")
  | ((with_reducible apply ev_addTM) <;> walk_at "ev")
  | ((with_reducible apply ev_tup0) <;> walk_at "ev")
  | ((with_reducible apply ev_tup1) <;> walk_at "ev")
  | ((with_reducible apply ev_tup2) <;> walk_at "ev")
  | ((with_reducible apply ev_tupM) <;> walk_at "ev")
  | ((with_reducible apply ev_any) <;> walk_at "ev")
  | ((with_reducible apply ev_all) <;> walk_at "ev")
  | ((with_reducible apply ev_sum) <;> walk_at "ev")
  | ((with_reducible apply ev_int1) <;> walk_at "ev")
  | ((with_reducible apply ev_intb) <;> walk_at "ev")
  | ((with_reducible apply ev_call) <;> walk_at "ev")
  | ((with_reducible apply ev_chain) <;> walk_at "ev")
  | ((with_reducible apply ev_chain3) <;> walk_at "ev")
  | ((with_reducible apply ev_empL) <;> walk_at "ev")
  | ((with_reducible apply ev_empT) <;> walk_at "ev")
  | ((with_reducible apply ev_dict0) <;> walk_at "ev")
  | ((with_reducible apply ev_sl_t) <;> walk_at "ev")
  | ((with_reducible apply ev_rev_t) <;> walk_at "ev")
  | ((with_reducible apply el_frz) <;> walk_at "ev")
  | ((with_reducible apply el_lst0) <;> walk_at "ev")
  | ((with_reducible apply el_lst1) <;> walk_at "ev")
  | ((with_reducible apply el_lst2) <;> walk_at "ev")
  | ((with_reducible apply el_lst3) <;> walk_at "ev")
  | ((with_reducible apply el_lstM) <;> walk_at "ev")
  | ((with_reducible apply el_list_l) <;> walk_at "ev")
  | ((with_reducible apply el_list_t) <;> walk_at "ev")
  | ((with_reducible apply el_addLM) <;> walk_at "ev")
  | ((with_reducible apply el_mulLM) <;> walk_at "ev")
  | ((with_reducible apply el_lc1M) <;> walk_at "ev")
  | ((with_reducible apply el_lcM) <;> walk_at "ev")
  | ((with_reducible apply el_sl_l) <;> walk_at "ev")
  | ((with_reducible apply el_rev_l) <;> walk_at "ev")
  | ((with_reducible apply et_yes) <;> walk_at "ev")
  | ((with_reducible apply et_test) <;> walk_at "ev")
  | ((with_reducible apply et_B) <;> walk_at "ev")
  | ((with_reducible apply et_not) <;> walk_at "ev")
  | ((with_reducible apply et_and) <;> walk_at "ev")
  | ((with_reducible apply et_or) <;> walk_at "ev")
  | ((with_reducible apply ei_t) <;> walk_at "ev")
  | ((with_reducible apply ei_l) <;> walk_at "ev")
  | ((with_reducible apply ei_r1M) <;> walk_at "ev")
  | ((with_reducible apply ei_r2M) <;> walk_at "ev")
  | ((with_reducible apply ei_en_t) <;> walk_at "ev")
  | ((with_reducible apply ei_en_l) <;> walk_at "ev")
  | ((with_reducible apply ea_nil) <;> walk_at "ev")
  | ((with_reducible apply ea_cons) <;> walk_at "ev")
  | ((with_reducible apply EvAs.nil) <;> walk_at "ev")
  | ((with_reducible apply EvAs.cons) <;> walk_at "ev")
  | ((with_reducible apply eo_none) <;> walk_at "ev")
  | ((with_reducible apply eo_some) <;> walk_at "ev")
  | ((with_reducible apply tg_name) <;> walk_at "ev")
  | ((with_reducible apply tg_tup) <;> walk_at "ev")
  | ((with_reducible apply tgs_nil) <;> walk_at "ev")
  | ((with_reducible apply tgs_cons) <;> walk_at "ev")
  | ((with_reducible apply r2_lt) <;> walk_at "ev")
  | ((with_reducible apply r2_le) <;> walk_at "ev")
  | ((with_reducible intro _); walk_at "bd")
  | walk_at "cl"
  | (walk_at "no"; walk_at "sd"))
local macro_rules | `(tactic| walk_at "hl") => `(tactic| first | decide | ((simp only [List.length_cons, List.length_nil, List.length_append, List.length_map, List.length_take, List.length_drop]) <;> omega))
local macro_rules | `(tactic| walk_at "ha") => `(tactic| first | exact hall0 | with_reducible assumption | ((with_reducible refine hallC ?_ ?_) <;> first | walk_at "ha" | walk_at "hc") | ((with_reducible refine hallA ?_ ?_) <;> walk_at "ha") | ((with_reducible refine hallM ?_); (with_reducible intro _ _); walk_at "hc"))
local macro_rules | `(tactic| walk_at "hc") => `(tactic| first
  | with_reducible assumption | exact Hc.non | exact Hc.bool
  | ((with_reducible refine Hc.int ?_); first | with_reducible assumption | (unfold Nb; omega))
  | ((with_reducible apply_assumption) <;> with_reducible assumption)
  | ((with_reducible refine Hc.str ?_); exact Nc.str (by decide +kernel) (by decide +kernel))
  | ((with_reducible refine Hc.tup ?_ ?_); (walk_at "hl"); (walk_at "ha"))
  | ((with_reducible refine Hc.lst ?_ ?_); (walk_at "hl"); (walk_at "ha")))
section
variable {P : Program} {w : World} {K : PySem.W.Frag} {mg : Str → Option Value} {base : Heap} {a : Nat → Addr} {d : Nat → FuncData}
theorem G_come_to (T : Txt K mg a d) : FnG P w K mg base CX0 4 (a 4) (d 4) ["frame", "joint", "gone"] (spOf 3 R_come_to) := by
  refine fn_run T.F_come_to sc_come_to rfl (fun cdv A outer s H E hgu hr => ?_)
  have hgu := hgu_of hgu (env := PyProof.Rows.envOfC "come_to" (defScope s_come_to) s.heap.objs.size (a 4) cdv)
  have hu64 := hr.units; have hu65 := hu65_of hr; have hrep := hrep_of hr; have hu1 := hu_of hr
  refine ⟨_, (pss_cons (ps_par (i := 3) (j := 4) rfl sc_come_to.nd rfl rfl (by decide) rfl rfl (pa_cons (pe_disp (pps_cons (pv 1) pe_bl pps_nil) rfl rfl (by decide) (by decide)) (pa_cons (pe_lst (pa_cons (pv 1) pa_nil)) pa_nil)) rfl)
      (pss_cons (ps_while PassesOwn.never (pt_cmpR (op_neE hu64) (pv 4) (pe_lst pa_nil) (by rfl)) (pss_one (ps_for PassesOwn.never rfl (kpi_seq K (pe_callG (G_neighbours T) hgu (hr.mono (by decide)) (by rfl) T.g_neighbours T.F_neighbours.kp T.b_neighbours .nil pass0 (pa_cons (pv 0) (pa_cons (pe_bm0 PySem.F.plainAttrs_list PySem.F.slot_list_pop PySem.F.type_list_pop mt_pop (pv 4)) pa_nil)))) (pg_name (i := 5) sc_come_to.nd rfl (Or.inl rfl)) (pss_one (ps_if (PW.pt (pw_and (pt_cmp (pc_dnotin hu1 (pv 5) (pv 3))) (pw_and1 (pt_cmpR (k_notIn K hu65) (pv 5) (pv 2) (by rfl))))) (pss_cons (ps_dput hu1 (pv 3) (pv 5) pe_bl rfl)
      (pss_one (ps_expr (pe_bm PySem.F.plainAttrs_list PySem.F.slot_list_append PySem.F.type_list_append mt_append (pv 4) (pa_cons (pv 5) pa_nil))))) pss_nil)))))
      (pss_one (ps_ret (pe_callTy (kc_tuple K) (by rfl) T.z_tuple (by decide +kernel) (pa_cons (pe_callB (cr_sortDI) (by rfl) T.z_sorted (by decide +kernel) (pa_cons (pv 3) pa_nil)) pa_nil)))))), fun M bs Q hR hl => ?_⟩
  obtain ⟨n, rods, j, gone, rfl, h, hj, hg, rfl⟩ := hR
  have hn := h.n2
  have hgl := hg.len
  refine run_seq (run_parMN (by decide) (by show 3 < 6; decide) (by show 4 < 6; decide) (em_disp1 (k := .inl j) (ev_var rfl) ev_bl) (el_lst1 (ev_var rfl)) ?_)
  rintro _ _ rfl rfl
  refine run_seq (run_while (fun k ρ' => ∃ fs rest : List Int, Se n rods gone j fs rest ∧ k = meas n fs rest ∧ meas n fs rest ≤ 2 * n ∧ ∃ b5 : Ab, ρ' = [.dat (encF n rods), .dat (.int j), .dat (encI gone), .tab (.k (tabV (.bool true) fs)), .own (rest.map .int), b5]) ⟨_, [j], [j], .start hj, rfl, by show 2 * (n - 1) + 1 ≤ 2 * n; omega, .no, rfl⟩ ?_)
  rintro k ρ' ⟨fs, rest, hS, rfl, hm2, b5, rfl⟩
  refine ⟨_, et_test (ev_empL (xs := rest.map .int) (ev_var rfl) (el_frz el_lst0)), fun hne => ?_, fun hem => ?_⟩
  · have hne : rest ≠ [] := fun z => by
      subst z
      cases hne
    obtain ⟨rs, x, rfl⟩ : ∃ rs x, rest = rs ++ [x] := ⟨_, _, (List.dropLast_concat_getLast hne).symm⟩
    rw [List.map_append]
    have hxj := (hS.con x (hS.sub x (by simp))).2
    have c1 : R_neighbours M [.dat (encF n rods), .dat (.int x)] (fun w => w = encI (nbI n rods x)) := ⟨n, rods, x, rfl, h, hxj, rfl⟩
    have hpop := hS.pop
    refine run_forX (N := fun ds => ds = (nbI n rods x).map PyData.int) (evix_pop (ds := rs.map .int) (d := .int x) rfl rfl c1 (fun w e => ⟨_, .inr e, rfl⟩)) (fun _ i ρ' => ∃ fs' rest' : List Int, Si n rods gone j x ((nbI n rods x).take i) fs' rest' ∧ meas n fs' rest' ≤ meas n fs rs ∧ ∃ b5 : Ab, ρ' = [.dat (encF n rods), .dat (.int j), .dat (encI gone), .tab (.k (tabV (.bool true) fs')), .own (rest'.map .int), b5]) (fun _ _ => ⟨fs, rs, by rw [List.take_zero]; exact hpop, Nat.le_refl _, _, rfl⟩) ?_ ?_
    · rintro ds i dd ρ' hN hdd ⟨fs', rest', hI, hme, b5, rfl⟩
      subst hN
      obtain ⟨y, hy, hym, rfl⟩ := mem_of_dd hdd
      obtain ⟨hyr, hyt⟩ := mem_nb.mp hym
      have et : (nbI n rods x).take (i + 1) = (nbI n rods x).take i ++ [y] := by
        rw [List.take_succ, hy]
        rfl
      have hlen := hI.len
      refine ⟨_, tg_name, ?_⟩
      show Pu.Run M _ [.dat (encF n rods), .dat (.int j), .dat (encI gone), .tab (.k (tabV (.bool true) fs')), .own (rest'.map .int), .dat (.int y)] _
      refine run_ifD (b := !decide (y ∈ fs') && !decide (y ∈ gone)) (et_and ((et_B (ev_dniK (xs := tabV (.bool true) fs') (k := .inl y) (ev_var rfl) (ev_var rfl))).to (by rw [tabV_has])) (fun _ => (et_test (ev_ni_tN (ev_var rfl) (ev_var rfl) (nc_small (by omega)) (nc_lot hg))).to (by rw [in_lot]))) (fun z => ?_) (fun z => run_next ?_)
      · rw [Bool.and_eq_true, Bool.not_eq_true', Bool.not_eq_true', decide_eq_false_iff_not, decide_eq_false_iff_not] at z
        have hadd := hI.add z.1 z.2 hyt hyr
        have hl2 := hadd.len
        have hnew := tabV_put (v := .bool true) z.1
        refine run_seq (run_dputK (P1 := fun w => w = .bool true) (k := .inl y) rfl (by unfold tabV; rw [List.length_map]; omega) ev_bl (ev_var rfl) ?_)
        rintro _ rfl
        rw [hnew]
        have hml : rest'.length ≤ 1000 := by
          unfold meas at hme
          unfold meas at hm2
          rw [List.length_append] at hm2
          omega
        refine run_app (P := fun w => w = .int y) rfl rfl rfl (by rw [List.length_map]; exact lt_line (by omega)) (ev_var rfl) ?_
        rintro _ rfl
        refine ⟨fs' ++ [y], rest' ++ [y], by rw [et]; exact hadd, ?_, _, by rw [List.map_append]; rfl⟩
        unfold meas at hme ⊢
        rw [List.length_append] at hl2 ⊢
        rw [List.length_append]
        have e1 : ([y] : List Int).length = 1 := rfl
        rw [e1] at hl2 ⊢
        omega
      · have hsk : y ∈ fs' ∨ y ∈ gone ∨ tiedB rods x y = false := by
          by_cases h1 : y ∈ fs'
          · exact .inl h1
          · by_cases h2 : y ∈ gone
            · exact .inr (.inl h2)
            · rw [decide_eq_false h1, decide_eq_false h2] at z
              cases z
        exact ⟨fs', rest', by rw [et]; exact hI.skip hsk, hme, _, rfl⟩
    · rintro ds ρ' hN ⟨fs', rest', hI, hme, b5, rfl⟩
      subst hN
      rw [List.length_map, List.take_length] at hI
      have hlt : meas n fs' rest' < meas n fs (rs ++ [x]) := by
        unfold meas at hme ⊢
        rw [List.length_append]
        show _ < _ + (_ + 1)
        omega
      exact ⟨_, hlt, fs', rest', hI.done fun y h0 h1 h2 => mem_nb.mpr ⟨⟨h0, h1⟩, h2⟩, rfl, by omega, b5, rfl⟩
  · have hre : rest = [] := by
      cases rest with
      | nil => rfl
      | cons x r => cases hem
    subst hre
    have hl := hS.len
    refine run_ret (P := fun w => w = encI (reachI n rods gone j)) (evp_tuple (N := fun ds => ds = (reachI n rods gone j).map .int) (EvP.imp (EvN.frz (el_sortTab (xs := tabV (.bool true) fs) (ev_var rfl) (tabV_keys _ _) (by omega))) ?_) |>.imp ?_) (fun d e => e)
    · rintro d ⟨ds, rfl, ys, rfl, hp, hu⟩
      exact ⟨_, .inl rfl, by rw [hS.sorted hj hp hu]⟩
    · rintro d ⟨ds, rfl, rfl⟩
      rfl
end
end K53

namespace K53
open PySem L2 Pu
local macro_rules | `(tactic| walk_at "pr") => `(tactic| first | with_reducible assumption | ((with_reducible apply Nb.up); (walk_at "nb"); decide) | omega | ((with_reducible apply_assumption) <;> with_reducible assumption) | ((with_reducible apply is_eq); first | exact atI_map (by with_reducible assumption) | exact rfl) | ((simp only [List.length_cons, List.length_nil]) <;> omega) | exact Or.inl rfl | exact Or.inr (Or.inl rfl) | exact Or.inr (Or.inr (Or.inl rfl)) | exact Or.inr (Or.inr (Or.inr (Or.inl rfl))) | exact Or.inr (Or.inr (Or.inr (Or.inr (Or.inl rfl)))) | exact Or.inr (Or.inr (Or.inr (Or.inr (Or.inr rfl)))) | (fail_if_success (with_reducible apply is_at)))
local macro_rules | `(tactic| walk_at "sd") => `(tactic| first | ((with_reducible refine is_pr ?_); walk_at "pr") | (fail_if_success (with_reducible refine is_pr ?_)))
local macro_rules | `(tactic| walk_at "cl") => `(tactic| first | ((with_reducible apply_assumption) <;> with_reducible assumption) | fail)
local macro_rules | `(tactic| walk_at "no") => `(tactic| (fail_if_success (first | with_reducible apply is_evp | with_reducible apply is_evn | with_reducible apply is_evb | with_reducible apply is_evi | with_reducible apply is_eva | with_reducible apply is_evas | with_reducible apply is_evo | with_reducible apply is_tg | with_reducible apply is_tgs)))
local macro_rules | `(tactic| walk_at "wk") => `(tactic| first | exact Wk.nil | (apply Wk.same; walk_at "wk") | (apply Wk.no; walk_at "wk"))
local macro_rules | `(tactic| walk_at "nb") => `(tactic| first | with_reducible assumption | exact Nb.two | exact Nb.one | exact Nb.zero | ((with_reducible apply Nb.mul) <;> walk_at "nb") | ((with_reducible apply Nb.add) <;> walk_at "nb") | ((with_reducible apply Nb.sub) <;> walk_at "nb") | ((with_reducible apply Nb.neg) <;> walk_at "nb"))
local macro_rules | `(tactic| walk_at "bd") => `(tactic| first | ((with_reducible intro _); walk_at "bd") | ((with_reducible apply EvT.to) <;> walk_at "ev") | ((with_reducible apply EvD.to) <;> walk_at "ev") | walk_at "ev")
local macro_rules | `(tactic| walk_at "ev") => `(tactic| first
  | with_reducible exact ev_int | with_reducible exact ev_bl | with_reducible exact ev_str | with_reducible exact ev_non
  | ((with_reducible apply ev_var); exact rfl)
  | ((with_reducible apply ev_addI) <;> walk_at "ev")
  | ((with_reducible apply ev_sub) <;> walk_at "ev")
  | ((with_reducible apply ev_mulW) <;> walk_at "ev")
  | ((with_reducible apply ev_mod) <;> walk_at "ev")
  | ((with_reducible apply ev_fdiv) <;> walk_at "ev")
  | ((with_reducible apply ev_sqW) <;> walk_at "ev")
  | ((with_reducible apply ev_neg) <;> walk_at "ev")
  | ((with_reducible apply ev_abs) <;> walk_at "ev")
  | ((with_reducible apply ev_max2) <;> walk_at "ev")
  | ((with_reducible apply ev_min2) <;> walk_at "ev")
  | ((with_reducible apply ev_lt) <;> walk_at "ev")
  | ((with_reducible apply ev_le) <;> walk_at "ev")
  | ((with_reducible apply ev_gt) <;> walk_at "ev")
  | ((with_reducible apply ev_ge) <;> walk_at "ev")
  | ((with_reducible apply ev_eqI2) <;> walk_at "ev")
  | ((with_reducible apply ev_neI2) <;> walk_at "ev")
  | ((with_reducible apply ev_neS2) <;> walk_at "ev")
  | ((with_reducible apply ev_eqS2) <;> walk_at "ev")
  | ((with_reducible apply ev_eqN) <;> walk_at "ev")
  | ((with_reducible apply ev_neN) <;> walk_at "ev")
  | ((with_reducible apply ev_in_lN) <;> walk_at "ev")
  | ((with_reducible apply ev_in_tN) <;> walk_at "ev")
  | ((with_reducible apply ev_ni_lN) <;> walk_at "ev")
  | ((with_reducible apply ev_ni_tN) <;> walk_at "ev")
  | ((with_reducible apply ev_reprN) <;> walk_at "ev")
  | ((with_reducible apply ev_isN) <;> walk_at "ev")
  | ((with_reducible apply ev_notN) <;> walk_at "ev")
  | ((with_reducible apply ev_andV) <;> walk_at "ev")
  | ((with_reducible apply ev_orV) <;> walk_at "ev")
  | ((with_reducible apply ev_notV) <;> walk_at "ev")
  | ((with_reducible apply ev_if) <;> walk_at "ev")
  | ((with_reducible apply ev_ix_t) <;> walk_at "ev")
  | ((with_reducible apply ev_ix_l) <;> walk_at "ev")
  | ((with_reducible apply ev_len_t) <;> walk_at "ev")
  | ((with_reducible apply ev_len_l) <;> walk_at "ev")
  | ((with_reducible apply ev_tuple_l) <;> walk_at "ev")
  | ((with_reducible apply ev_tuple_t) <;> walk_at "ev")
  | ((with_reducible apply ev_isi) <;> walk_at "ev")
  | ((with_reducible apply ev_addTM) <;> walk_at "ev")
  | ((with_reducible apply ev_tup0) <;> walk_at "ev")
  | ((with_reducible apply ev_tup1) <;> walk_at "ev")
  | ((with_reducible apply ev_tup2) <;> walk_at "ev")
  | ((with_reducible apply ev_tupM) <;> walk_at "ev")
  | ((with_reducible apply ev_any) <;> walk_at "ev")
  | ((with_reducible apply ev_all) <;> walk_at "ev")
  | ((with_reducible apply ev_sum) <;> walk_at "ev")
  | ((with_reducible apply ev_int1) <;> walk_at "ev")
  | ((with_reducible apply ev_intb) <;> walk_at "ev")
  | ((with_reducible apply ev_call) <;> walk_at "ev")
  | ((with_reducible apply ev_chain) <;> walk_at "ev")
  | ((with_reducible apply ev_chain3) <;> walk_at "ev")
  | ((with_reducible apply ev_empL) <;> walk_at "ev")
  | ((with_reducible apply ev_empT) <;> walk_at "ev")
  | ((with_reducible apply ev_dict0) <;> walk_at "ev")
  | ((with_reducible apply ev_sl_t) <;> walk_at "ev")
  | ((with_reducible apply ev_rev_t) <;> walk_at "ev")
  | ((with_reducible apply el_frz) <;> walk_at "ev")
  | ((with_reducible apply el_lst0) <;> walk_at "ev")
  | ((with_reducible apply el_lst1) <;> walk_at "ev")
  | ((with_reducible apply el_lst2) <;> walk_at "ev")
  | ((with_reducible apply el_lst3) <;> walk_at "ev")
  | ((with_reducible apply el_lstM) <;> walk_at "ev")
  | ((with_reducible apply el_list_l) <;> walk_at "ev")
  | ((with_reducible apply el_list_t) <;> walk_at "ev")
  | ((with_reducible apply el_addLM) <;> walk_at "ev")
  | ((with_reducible apply el_mulLM) <;> walk_at "ev")
  | ((with_reducible apply el_lc1M) <;> walk_at "ev")
  | ((with_reducible apply el_lcM) <;> walk_at "ev")
  | ((with_reducible apply el_sl_l) <;> walk_at "ev")
  | ((with_reducible apply el_rev_l) <;> walk_at "ev")
  | ((with_reducible apply et_yes) <;> walk_at "ev")
  | ((with_reducible apply et_test) <;> walk_at "ev")
  | ((with_reducible apply et_B) <;> walk_at "ev")
  | ((with_reducible apply et_not) <;> walk_at "ev")
  | ((with_reducible apply et_and) <;> walk_at "ev")
  | ((with_reducible apply et_or) <;> walk_at "ev")
  | ((with_reducible apply ei_t) <;> walk_at "ev")
  | ((with_reducible apply ei_l) <;> walk_at "ev")
  | ((with_reducible apply ei_r1M) <;> walk_at "ev")
  | ((with_reducible apply ei_r2M) <;> walk_at "ev")
  | ((with_reducible apply ei_en_t) <;> walk_at "ev")
  | ((with_reducible apply ei_en_l) <;> walk_at "ev")
  | ((with_reducible apply ea_nil) <;> walk_at "ev")
  | ((with_reducible apply ea_cons) <;> walk_at "ev")
  | ((with_reducible apply EvAs.nil) <;> walk_at "ev")
  | ((with_reducible apply EvAs.cons) <;> walk_at "ev")
  | ((with_reducible apply eo_none) <;> walk_at "ev")
  | ((with_reducible apply eo_some) <;> walk_at "ev")
  | ((with_reducible apply tg_name) <;> walk_at "ev")
  | ((with_reducible apply tg_tup) <;> walk_at "ev")
  | ((with_reducible apply tgs_nil) <;> walk_at "ev")
  | ((with_reducible apply tgs_cons) <;> walk_at "ev")
  | ((with_reducible apply r2_lt) <;> walk_at "ev")
  | ((with_reducible apply r2_le) <;> walk_at "ev")
  | ((with_reducible intro _); walk_at "bd")
  | walk_at "cl"
  | (walk_at "no"; walk_at "sd"))
local macro_rules | `(tactic| walk_at "hl") => `(tactic| first | decide | ((simp only [List.length_cons, List.length_nil, List.length_append, List.length_map, List.length_take, List.length_drop]) <;> omega))
local macro_rules | `(tactic| walk_at "ha") => `(tactic| first | exact hall0 | with_reducible assumption | ((with_reducible refine hallC ?_ ?_) <;> first | walk_at "ha" | walk_at "hc") | ((with_reducible refine hallA ?_ ?_) <;> walk_at "ha") | ((with_reducible refine hallM ?_); (with_reducible intro _ _); walk_at "hc"))
local macro_rules | `(tactic| walk_at "hc") => `(tactic| first
  | with_reducible assumption | exact Hc.non | exact Hc.bool
  | ((with_reducible refine Hc.int ?_); first | with_reducible assumption | (unfold Nb; omega))
  | ((with_reducible apply_assumption) <;> with_reducible assumption)
  | ((with_reducible refine Hc.str ?_); exact Nc.str (by decide +kernel) (by decide +kernel))
  | ((with_reducible refine Hc.tup ?_ ?_); (walk_at "hl"); (walk_at "ha"))
  | ((with_reducible refine Hc.lst ?_ ?_); (walk_at "hl"); (walk_at "ha")))
section
variable {P : Program} {w : World} {K : PySem.W.Frag} {mg : Str → Option Value} {base : Heap} {a : Nat → Addr} {d : Nat → FuncData}
theorem G__law_come_to (T : Txt K mg a d) : FnG P w K mg base CX0 2 (a 16) (d 16) ["frame", "joint", "gone"] (spOf 3 R__law_come_to) := by
  refine fn_run T.F__law_come_to sc__law_come_to rfl (fun cdv A outer s H E hgu hr => ?_)
  have hgu := hgu_of hgu (env := PyProof.Rows.envOfC "_law_come_to" (defScope s__law_come_to) s.heap.objs.size (a 16) cdv)
  have hu64 := hr.units; have hu65 := hu65_of hr; have hrep := hrep_of hr; have hu1 := hu_of hr
  refine ⟨_, (pss_cons (ps_par (i := 3) (j := 4) rfl sc__law_come_to.nd rfl rfl (by decide) rfl rfl (pa_cons (pe_callTy (kc_dictP K) (by rfl) T.z_dict (by decide +kernel) (pa_cons (pe_lst (pa_cons (pe_tup (pa_cons (pv 1) (pa_cons pe_int pa_nil))) pa_nil)) pa_nil)) (pa_cons (pe_lst (pa_cons (pv 1) pa_nil)) pa_nil)) rfl)
      (pss_cons (ps_while PassesOwn.never (pt_cmpR (op_neE hu64) (pv 4) (pe_lst pa_nil) (by rfl)) (pss_cons (ps_set (i := 5) sc__law_come_to.nd rfl (Or.inl rfl) (pe_bm0 PySem.F.plainAttrs_list PySem.F.slot_list_pop PySem.F.type_list_pop mt_pop (pv 4)))
      (pss_one (ps_for PassesOwn.never rfl (pi_range1 (by rfl) T.z_range (pa_cons (pe_ix (k_ix K) (pv 0) pe_int (fun _ _ => rfl)) pa_nil)) (pg_name (i := 6) sc__law_come_to.nd rfl (Or.inl rfl)) (pss_one (ps_if (PW.pt (pw_and (pt_cmp (pc_dnotin hu1 (pv 6) (pv 3))) (pw_and (pt_cmpR (k_notIn K hu65) (pv 6) (pv 2) (by rfl)) (pw_and (pt_cmpR (k_ne K hu64) (pv 6) (pv 5) (by rfl)) (pw_and1 (pt_val (pe_callG (G__law_tied T) hgu (hr.mono (by decide)) (by rfl) T.g__law_tied T.F__law_tied.kp T.b__law_tied .nil pass0 (pa_cons (pv 0) (pa_cons (pv 5) (pa_cons (pv 6) pa_nil)))))))))) (pss_cons (ps_dput hu1 (pv 3) (pv 6) pe_int rfl)
      (pss_one (ps_expr (pe_bm PySem.F.plainAttrs_list PySem.F.slot_list_append PySem.F.type_list_append mt_append (pv 4) (pa_cons (pv 6) pa_nil))))) pss_nil))))))
      (pss_one (ps_ret (pe_callB (cr_sortD K hrep) (by rfl) T.z_sorted (by decide +kernel) (pa_cons (pe_callTy (kc_listK rfl) (by rfl) T.z_list (by decide +kernel) (pa_cons (pv 3) pa_nil)) pa_nil)))))), fun M bs Q hR hl => ?_⟩
  obtain ⟨n, rods, j, gone, rfl, h, hj, hg, rfl⟩ := hR
  have hn := h.n2
  have hgl := hg.len
  refine run_seq (run_parMN (by decide) (by show 3 < 7; decide) (by show 4 < 7; decide) (em_dict1 (j := j) (el_lst1 (ev_tup2 (ev_var rfl) ev_int)).frz) (el_lst1 (ev_var rfl)) ?_)
  rintro _ _ rfl rfl
  refine run_seq (run_while (fun k ρ' => ∃ fs rest : List Int, Se n rods gone j fs rest ∧ k = meas n fs rest ∧ meas n fs rest ≤ 2 * n ∧ ∃ b5 b6 : Ab, ρ' = [.dat (encF n rods), .dat (.int j), .dat (encI gone), .tab (.k (tabV (.int 0) fs)), .own (rest.map .int), b5, b6]) ⟨_, [j], [j], .start hj, rfl, by show 2 * (n - 1) + 1 ≤ 2 * n; omega, .no, .no, rfl⟩ ?_)
  rintro k ρ' ⟨fs, rest, hS, rfl, hm2, b5, b6, rfl⟩
  refine ⟨_, et_test (ev_empL (xs := rest.map .int) (ev_var rfl) (el_frz el_lst0)), fun hne => ?_, fun hem => ?_⟩
  · have hne : rest ≠ [] := fun z => by
      subst z
      cases hne
    obtain ⟨rs, x, rfl⟩ : ∃ rs x, rest = rs ++ [x] := ⟨_, _, (List.dropLast_concat_getLast hne).symm⟩
    rw [List.map_append]
    have hxj := (hS.con x (hS.sub x (by simp))).2
    have hpop := hS.pop
    refine run_seq (run_pop (ds := rs.map .int) (d := .int x) rfl ?_)
    refine run_for (N := fun w => w = (List.range n).map fun i : Nat => PyData.int (i : Int)) (ei_r1M (j := (n : Int)) (ev_ix_t (xs := [PyData.int (n : Int), encPs rods]) (i := 0) (ev_var rfl) ev_int rfl) (by omega)) (fun _ i ρ' => ∃ fs' rest' : List Int, Si n rods gone j x (natsI (List.range i)) fs' rest' ∧ meas n fs' rest' ≤ meas n fs rs ∧ ∃ b6 : Ab, ρ' = [.dat (encF n rods), .dat (.int j), .dat (encI gone), .tab (.k (tabV (.int 0) fs')), .own (rest'.map .int), .dat (.int x), b6]) (fun _ _ => ⟨fs, rs, hpop, Nat.le_refl _, _, rfl⟩) ?_ ?_
    · rintro ds i dd ρ' rfl hk ⟨fs', rest', hI, hme, b6, rfl⟩
      rw [List.getElem?_map] at hk
      have hi3 : i < n := by
        rcases Nat.lt_or_ge i n with q | q
        · exact q
        · rw [List.getElem?_eq_none (by rw [List.length_range]; exact q)] at hk
          cases hk
      rw [List.getElem?_range hi3] at hk
      obtain rfl : PyData.int (i : Int) = dd := Option.some.inj hk
      have hi2 : (i : Int) < n := by omega
      have et : natsI (List.range (i + 1)) = natsI (List.range i) ++ [(i : Int)] := by
        unfold natsI
        rw [List.range_succ, List.map_append]
        rfl
      have hlen := hI.len
      refine ⟨_, tg_name, ?_⟩
      show Pu.Run M _ [.dat (encF n rods), .dat (.int j), .dat (encI gone), .tab (.k (tabV (.int 0) fs')), .own (rest'.map .int), .dat (.int x), .dat (.int (i : Int))] _
      have cl : R__law_tied M [.dat (encF n rods), .dat (.int x), .dat (.int (i : Int))] (fun w => w = .bool (tiedB rods x i)) := ⟨n, rods, x, i, rfl, h, by omega, by omega, rfl⟩
      refine run_ifD (b := !decide ((i : Int) ∈ fs') && (!decide ((i : Int) ∈ gone) && (!decide ((i : Int) = x) && tiedB rods x i))) (et_and ((et_B (ev_dniK (xs := tabV (.int 0) fs') (k := .inl (i : Int)) (ev_var rfl) (ev_var rfl))).to (by rw [tabV_has])) (fun _ => et_and ((et_test (ev_ni_tN (ev_var rfl) (ev_var rfl) (nc_small (by omega)) (nc_lot hg))).to (by rw [in_lot])) (fun _ => et_and (et_B (ev_neI2 (ev_var rfl) (ev_var rfl))) (fun _ => et_B (ev_call (ea_cons (ev_var rfl) (ea_cons (ev_var rfl) (ea_cons (ev_var rfl) ea_nil))) rfl cl))))) (fun z => ?_) (fun z => run_next ?_)
      · rw [Bool.and_eq_true, Bool.not_eq_true', decide_eq_false_iff_not, Bool.and_eq_true, Bool.not_eq_true', decide_eq_false_iff_not, Bool.and_eq_true] at z
        have hadd := hI.add z.1 z.2.1 z.2.2.2 ⟨by omega, hi2⟩
        have hl2 := hadd.len
        have hnew := tabV_put (v := .int 0) z.1
        refine run_seq (run_dputK (P1 := fun w => w = .int 0) (k := .inl (i : Int)) rfl (by unfold tabV; rw [List.length_map]; omega) ev_int (ev_var rfl) ?_)
        rintro _ rfl
        rw [hnew]
        have hml : rest'.length ≤ 1000 := by
          unfold meas at hme
          unfold meas at hm2
          rw [List.length_append] at hm2
          omega
        refine run_app (P := fun w => w = .int (i : Int)) rfl rfl rfl (by rw [List.length_map]; exact lt_line (by omega)) (ev_var rfl) ?_
        rintro _ rfl
        refine ⟨fs' ++ [(i : Int)], rest' ++ [(i : Int)], by rw [et]; exact hadd, ?_, _, by rw [List.map_append]; rfl⟩
        unfold meas at hme ⊢
        rw [List.length_append] at hl2 ⊢
        rw [List.length_append]
        have e1 : ([(i : Int)] : List Int).length = 1 := rfl
        rw [e1] at hl2 ⊢
        omega
      · have hsk : (i : Int) ∈ fs' ∨ (i : Int) ∈ gone ∨ tiedB rods x i = false := by
          by_cases h1 : (i : Int) ∈ fs'
          · exact .inl h1
          · by_cases h2 : (i : Int) ∈ gone
            · exact .inr (.inl h2)
            · by_cases h3 : (i : Int) = x
              · exact .inl (h3 ▸ hI.xs)
              · rw [decide_eq_false h1, decide_eq_false h2, decide_eq_false h3] at z
                exact .inr (.inr z)
        exact ⟨fs', rest', by rw [et]; exact hI.skip hsk, hme, _, rfl⟩
    · rintro ds ρ' rfl ⟨fs', rest', hI, hme, b6, rfl⟩
      rw [List.length_map, List.length_range] at hI
      have hlt : meas n fs' rest' < meas n fs (rs ++ [x]) := by
        unfold meas at hme ⊢
        rw [List.length_append]
        show _ < _ + (_ + 1)
        omega
      exact ⟨_, hlt, fs', rest', hI.done fun y h0 h1 h2 => mem_natsI.mpr ⟨y.toNat, List.mem_range.mpr (by omega), Int.toNat_of_nonneg h0⟩, rfl, by omega, _, b6, rfl⟩
  · have hre : rest = [] := by
      cases rest with
      | nil => rfl
      | cons x r => cases hem
    subst hre
    have hl := hS.len
    have eqr : sortIs fs = reachI n rods gone j := hS.sorted hj (sortIs_perm fs) (sortIs_up fs)
    refine run_ret (P := fun w => w = encL (reachI n rods gone j)) (EvD.imp ((el_sortIs (is := fs) (EvL.frz ?_)).frz.to (by rw [eqr])) rfl) (fun d e => e)
    have := el_listTab (A := M) (xs := tabV (.int 0) fs) (te := tVar 3) (ρ := List.map fz [.dat (encF n rods), .dat (.int j), .dat (encI gone), .tab (.k (tabV (.int 0) fs)), .own (([] : List Int).map .int), b5, b6]) (ev_var rfl)
    refine EvN.imp this fun ds e => e.trans ?_
    unfold tabV
    rw [List.map_map]
    rfl
end
end K53

namespace K53
open PySem L2 Pu
local macro_rules | `(tactic| walk_at "pr") => `(tactic| first | with_reducible assumption | ((with_reducible apply Nb.up); (walk_at "nb"); decide) | omega | ((with_reducible apply_assumption) <;> with_reducible assumption) | ((with_reducible apply is_eq); first | exact atI_map (by with_reducible assumption) | exact rfl) | ((simp only [List.length_cons, List.length_nil]) <;> omega) | exact Or.inl rfl | exact Or.inr (Or.inl rfl) | exact Or.inr (Or.inr (Or.inl rfl)) | exact Or.inr (Or.inr (Or.inr (Or.inl rfl))) | exact Or.inr (Or.inr (Or.inr (Or.inr (Or.inl rfl)))) | exact Or.inr (Or.inr (Or.inr (Or.inr (Or.inr rfl)))) | (fail_if_success (with_reducible apply is_at)))
local macro_rules | `(tactic| walk_at "sd") => `(tactic| first | ((with_reducible refine is_pr ?_); walk_at "pr") | (fail_if_success (with_reducible refine is_pr ?_)))
local macro_rules | `(tactic| walk_at "cl") => `(tactic| first | ((with_reducible apply_assumption) <;> with_reducible assumption) | fail)
local macro_rules | `(tactic| walk_at "no") => `(tactic| (fail_if_success (first | with_reducible apply is_evp | with_reducible apply is_evn | with_reducible apply is_evb | with_reducible apply is_evi | with_reducible apply is_eva | with_reducible apply is_evas | with_reducible apply is_evo | with_reducible apply is_tg | with_reducible apply is_tgs)))
local macro_rules | `(tactic| walk_at "wk") => `(tactic| first | exact Wk.nil | (apply Wk.same; walk_at "wk") | (apply Wk.no; walk_at "wk"))
local macro_rules | `(tactic| walk_at "nb") => `(tactic| first | with_reducible assumption | exact Nb.two | exact Nb.one | exact Nb.zero | ((with_reducible apply Nb.mul) <;> walk_at "nb") | ((with_reducible apply Nb.add) <;> walk_at "nb") | ((with_reducible apply Nb.sub) <;> walk_at "nb") | ((with_reducible apply Nb.neg) <;> walk_at "nb"))
local macro_rules | `(tactic| walk_at "bd") => `(tactic| first | ((with_reducible intro _); walk_at "bd") | ((with_reducible apply EvT.to) <;> walk_at "ev") | ((with_reducible apply EvD.to) <;> walk_at "ev") | walk_at "ev")
local macro_rules | `(tactic| walk_at "ev") => `(tactic| first
  | with_reducible exact ev_int | with_reducible exact ev_bl | with_reducible exact ev_str | with_reducible exact ev_non
  | ((with_reducible apply ev_var); exact rfl)
  | ((with_reducible apply ev_addI) <;> walk_at "ev")
  | ((with_reducible apply ev_sub) <;> walk_at "ev")
  | ((with_reducible apply ev_mulW) <;> walk_at "ev")
  | ((with_reducible apply ev_mod) <;> walk_at "ev")
  | ((with_reducible apply ev_fdiv) <;> walk_at "ev")
  | ((with_reducible apply ev_sqW) <;> walk_at "ev")
  | ((with_reducible apply ev_neg) <;> walk_at "ev")
  | ((with_reducible apply ev_abs) <;> walk_at "ev")
  | ((with_reducible apply ev_max2) <;> walk_at "ev")
  | ((with_reducible apply ev_min2) <;> walk_at "ev")
  | ((with_reducible apply ev_lt) <;> walk_at "ev")
  | ((with_reducible apply ev_le) <;> walk_at "ev")
  | ((with_reducible apply ev_gt) <;> walk_at "ev")
  | ((with_reducible apply ev_ge) <;> walk_at "ev")
  | ((with_reducible apply ev_eqI2) <;> walk_at "ev")
  | ((with_reducible apply ev_neI2) <;> walk_at "ev")
  | ((with_reducible apply ev_neS2) <;> walk_at "ev")
  | ((with_reducible apply ev_eqS2) <;> walk_at "ev")
  | ((with_reducible apply ev_eqN) <;> walk_at "ev")
  | ((with_reducible apply ev_neN) <;> walk_at "ev")
  | ((with_reducible apply ev_in_lN) <;> walk_at "ev")
  | ((with_reducible apply ev_in_tN) <;> walk_at "ev")
  | ((with_reducible apply ev_ni_lN) <;> walk_at "ev")
  | ((with_reducible apply ev_ni_tN) <;> walk_at "ev")
  | ((with_reducible apply ev_reprN) <;> walk_at "ev")
  | ((with_reducible apply ev_isN) <;> walk_at "ev")
  | ((with_reducible apply ev_notN) <;> walk_at "ev")
  | ((with_reducible apply ev_andV) <;> walk_at "ev")
  | ((with_reducible apply ev_orV) <;> walk_at "ev")
  | ((with_reducible apply ev_notV) <;> walk_at "ev")
  | ((with_reducible apply ev_if) <;> walk_at "ev")
  | ((with_reducible apply ev_ix_t) <;> walk_at "ev")
  | ((with_reducible apply ev_ix_l) <;> walk_at "ev")
  | ((with_reducible apply ev_len_t) <;> walk_at "ev")
  | ((with_reducible apply ev_len_l) <;> walk_at "ev")
  | ((with_reducible apply ev_tuple_l) <;> walk_at "ev")
  | ((with_reducible apply ev_tuple_t) <;> walk_at "ev")
  | ((with_reducible apply ev_isi) <;> walk_at "ev")
  | ((with_reducible apply ev_addTM) <;> walk_at "ev")
  | ((with_reducible apply ev_tup0) <;> walk_at "ev")
  | ((with_reducible apply ev_tup1) <;> walk_at "ev")
  | ((with_reducible apply ev_tup2) <;> walk_at "ev")
  | ((with_reducible apply ev_tupM) <;> walk_at "ev")
  | ((with_reducible apply ev_any) <;> walk_at "ev")
  | ((with_reducible apply ev_all) <;> walk_at "ev")
  | ((with_reducible apply ev_sum) <;> walk_at "ev")
  | ((with_reducible apply ev_int1) <;> walk_at "ev")
  | ((with_reducible apply ev_intb) <;> walk_at "ev")
  | ((with_reducible apply ev_call) <;> walk_at "ev")
  | ((with_reducible apply ev_chain) <;> walk_at "ev")
  | ((with_reducible apply ev_chain3) <;> walk_at "ev")
  | ((with_reducible apply ev_empL) <;> walk_at "ev")
  | ((with_reducible apply ev_empT) <;> walk_at "ev")
  | ((with_reducible apply ev_dict0) <;> walk_at "ev")
  | ((with_reducible apply ev_sl_t) <;> walk_at "ev")
  | ((with_reducible apply ev_rev_t) <;> walk_at "ev")
  | ((with_reducible apply el_frz) <;> walk_at "ev")
  | ((with_reducible apply el_lst0) <;> walk_at "ev")
  | ((with_reducible apply el_lst1) <;> walk_at "ev")
  | ((with_reducible apply el_lst2) <;> walk_at "ev")
  | ((with_reducible apply el_lst3) <;> walk_at "ev")
  | ((with_reducible apply el_lstM) <;> walk_at "ev")
  | ((with_reducible apply el_list_l) <;> walk_at "ev")
  | ((with_reducible apply el_list_t) <;> walk_at "ev")
  | ((with_reducible apply el_addLM) <;> walk_at "ev")
  | ((with_reducible apply el_mulLM) <;> walk_at "ev")
  | ((with_reducible apply el_lc1M) <;> walk_at "ev")
  | ((with_reducible apply el_lcM) <;> walk_at "ev")
  | ((with_reducible apply el_sl_l) <;> walk_at "ev")
  | ((with_reducible apply el_rev_l) <;> walk_at "ev")
  | ((with_reducible apply et_yes) <;> walk_at "ev")
  | ((with_reducible apply et_test) <;> walk_at "ev")
  | ((with_reducible apply et_B) <;> walk_at "ev")
  | ((with_reducible apply et_not) <;> walk_at "ev")
  | ((with_reducible apply et_and) <;> walk_at "ev")
  | ((with_reducible apply et_or) <;> walk_at "ev")
  | ((with_reducible apply ei_t) <;> walk_at "ev")
  | ((with_reducible apply ei_l) <;> walk_at "ev")
  | ((with_reducible apply ei_r1M) <;> walk_at "ev")
  | ((with_reducible apply ei_r2M) <;> walk_at "ev")
  | ((with_reducible apply ei_en_t) <;> walk_at "ev")
  | ((with_reducible apply ei_en_l) <;> walk_at "ev")
  | ((with_reducible apply ea_nil) <;> walk_at "ev")
  | ((with_reducible apply ea_cons) <;> walk_at "ev")
  | ((with_reducible apply EvAs.nil) <;> walk_at "ev")
  | ((with_reducible apply EvAs.cons) <;> walk_at "ev")
  | ((with_reducible apply eo_none) <;> walk_at "ev")
  | ((with_reducible apply eo_some) <;> walk_at "ev")
  | ((with_reducible apply tg_name) <;> walk_at "ev")
  | ((with_reducible apply tg_tup) <;> walk_at "ev")
  | ((with_reducible apply tgs_nil) <;> walk_at "ev")
  | ((with_reducible apply tgs_cons) <;> walk_at "ev")
  | ((with_reducible apply r2_lt) <;> walk_at "ev")
  | ((with_reducible apply r2_le) <;> walk_at "ev")
  | ((with_reducible intro _); walk_at "bd")
  | walk_at "cl"
  | (walk_at "no"; walk_at "sd"))
local macro_rules | `(tactic| walk_at "hl") => `(tactic| first | decide | ((simp only [List.length_cons, List.length_nil, List.length_append, List.length_map, List.length_take, List.length_drop]) <;> omega))
local macro_rules | `(tactic| walk_at "ha") => `(tactic| first | exact hall0 | with_reducible assumption | ((with_reducible refine hallC ?_ ?_) <;> first | walk_at "ha" | walk_at "hc") | ((with_reducible refine hallA ?_ ?_) <;> walk_at "ha") | ((with_reducible refine hallM ?_); (with_reducible intro _ _); walk_at "hc"))
local macro_rules | `(tactic| walk_at "hc") => `(tactic| first
  | with_reducible assumption | exact Hc.non | exact Hc.bool
  | ((with_reducible refine Hc.int ?_); first | with_reducible assumption | (unfold Nb; omega))
  | ((with_reducible apply_assumption) <;> with_reducible assumption)
  | ((with_reducible refine Hc.str ?_); exact Nc.str (by decide +kernel) (by decide +kernel))
  | ((with_reducible refine Hc.tup ?_ ?_); (walk_at "hl"); (walk_at "ha"))
  | ((with_reducible refine Hc.lst ?_ ?_); (walk_at "hl"); (walk_at "ha")))
section
variable {P : Program} {w : World} {K : PySem.W.Frag} {mg : Str → Option Value} {base : Heap} {a : Nat → Addr} {d : Nat → FuncData}
theorem G_pieces_without (T : Txt K mg a d) : FnG P w K mg base CX0 5 (a 5) (d 5) ["frame", "gone"] (spOf 2 R_pieces_without) := by
  refine fn_run T.F_pieces_without sc_pieces_without rfl (fun cdv A outer s H E hgu hr => ?_)
  have hgu := hgu_of hgu (env := PyProof.Rows.envOfC "pieces_without" (defScope s_pieces_without) s.heap.objs.size (a 5) cdv)
  have hu64 := hr.units; have hu65 := hu65_of hr; have hrep := hrep_of hr; have hu1 := hu_of hr
  refine ⟨_, (pss_cons (ps_set (i := 2) sc_pieces_without.nd rfl (Or.inl rfl) (pe_lst pa_nil))
      (pss_cons (ps_for PassesOwn.never rfl (pi_range1 (by rfl) T.z_range (pa_cons (pe_ix (k_ix K) (pv 0) pe_int (fun _ _ => rfl)) pa_nil)) (pg_name (i := 3) sc_pieces_without.nd rfl (Or.inr rfl)) (pss_one (ps_if (PW.pt (pw_and (pt_cmpR (k_notIn K hu65) (pv 3) (pv 1) (by rfl)) (pw_and1 (pt_not (pt_val (pe_callB (kc_any K rfl) (by rfl) T.z_any (by decide +kernel) (pa_cons (pe_lc (own := [("lot", 4)]) (g := (gName 4)) (tt := tYes) rfl sc_pieces_without.nd (kpi_seq K (pv 2)) (blkOk_by (N := ["frame", "gone", "found", "joint", "lot"]) (sc := defScope s_pieces_without) (by decide +kernel)) (fun _ _ _ _ _ => (pg_name (i := 4) sc_pieces_without.nd rfl (Or.inl rfl))) (fun _ _ _ _ _ => pts_nil) (fun _ _ _ _ _ => (pe_cmpR (k_in K hu65) (pv 3) (pv 4) (by rfl)))) pa_nil))))))) (pss_one (ps_expr (pe_bm PySem.F.plainAttrs_list PySem.F.slot_list_append PySem.F.type_list_append mt_append (pv 2) (pa_cons (pe_callG (G_come_to T) hgu (hr.mono (by decide)) (by rfl) T.g_come_to T.F_come_to.kp T.b_come_to .nil pass0 (pa_cons (pv 0) (pa_cons (pv 3) (pa_cons (pv 1) pa_nil)))) pa_nil)))) pss_nil)))
      (pss_one (ps_ret (pe_callTy (kc_tuple K) (by rfl) T.z_tuple (by decide +kernel) (pa_cons (pv 2) pa_nil)))))), fun M bs Q hR hl => ?_⟩
  obtain ⟨n, rods, gone, rfl, h, hg, rfl⟩ := hR
  have hn := h.n2
  have hgl := hg.len
  refine run_seq (run_setL (by show 2 < 5; decide) el_lst0 ?_)
  refine run_seq (run_for (N := fun w => w = (List.range n).map fun i : Nat => PyData.int (i : Int)) (ei_r1M (j := (n : Int)) (ev_ix_t (xs := [PyData.int (n : Int), encPs rods]) (i := 0) (ev_var rfl) ev_int rfl) (by omega)) (fun _ i ρ' => ∃ lots : List (List Int), Pcs n rods gone i lots ∧ ∃ b3 : Ab, ρ' = [.dat (encF n rods), .dat (encI gone), .own (lots.map encI), b3, .no]) (fun _ _ => ⟨[], .start, _, rfl⟩) ?_ ?_)
  · rintro ds i dd ρ' rfl hk ⟨lots, hP, b3, rfl⟩
    rw [List.getElem?_map] at hk
    have hi3 : i < n := by
      rcases Nat.lt_or_ge i n with q | q
      · exact q
      · rw [List.getElem?_eq_none (by rw [List.length_range]; exact q)] at hk
        cases hk
    rw [List.getElem?_range hi3] at hk
    obtain rfl : PyData.int (i : Int) = dd := Option.some.inj hk
    refine ⟨_, tg_name, ?_⟩
    show Pu.Run M _ [.dat (encF n rods), .dat (encI gone), .own (lots.map encI), .dat (.int (i : Int)), .no] _
    have hlen := hP.len
    refine run_ifD (b := !decide ((i : Int) ∈ gone) && !lots.any fun lot => decide ((i : Int) ∈ lot)) (et_and ((et_test (ev_ni_tN (ev_var rfl) (ev_var rfl) (nc_small (by omega)) (nc_lot hg))).to (by rw [in_lot])) (fun _ => et_not (et_B (ev_anyM (as := lots) (g := fun lot => decide ((i : Int) ∈ lot)) (el_frz (el_lc1M (as := lots) (en := encI) (l := fun lot => [(4, encI lot)]) (f := fun lot => .bool (decide ((i : Int) ∈ lot))) (ei_l (ev_var rfl)) (fun _ _ => tg_name) (fun _ _ => rfl) (fun lot hl => (ev_in_tN (ev_var rfl) (ev_var rfl) (nc_small (by omega)) (nc_lot (hP.few lot hl))).to (congrArg PyData.bool (in_lot lot i))) (by omega))))))) (fun z => ?_) (fun z => run_next ?_)
    · rw [Bool.and_eq_true, Bool.not_eq_true', Bool.not_eq_true', decide_eq_false_iff_not] at z
      have hno : ∀ lot ∈ lots, (i : Int) ∉ lot := fun lot hl hi => by
        have := List.any_eq_false.mp z.2 lot hl
        exact this (decide_eq_true hi)
      have c1 : R_come_to M [.dat (encF n rods), .dat (.int (i : Int)), .dat (encI gone)] (fun w => w = encI (reachI n rods gone i)) := ⟨n, rods, i, gone, rfl, h, by omega, hg, rfl⟩
      refine run_app (P := fun w => w = encI (reachI n rods gone i)) rfl rfl rfl (by rw [List.length_map]; exact lt_line (by omega)) (ev_call (ea_cons (ev_var rfl) (ea_cons (ev_var rfl) (ea_cons (ev_var rfl) ea_nil))) rfl c1) ?_
      rintro _ rfl
      exact ⟨lots ++ [reachI n rods gone i], hP.add hn hi3 z.1 hno, _, by rw [List.map_append]; rfl⟩
    · refine ⟨lots, hP.skip ?_, _, rfl⟩
      by_cases h1 : (i : Int) ∈ gone
      · exact .inl h1
      · rw [decide_eq_false h1] at z
        obtain ⟨lot, hl, hi⟩ := List.any_eq_true.mp ((Bool.not_eq_false' ..).mp z)
        exact .inr ⟨lot, hl, of_decide_eq_true hi⟩
  · rintro ds ρ' rfl ⟨lots, hP, b3, rfl⟩
    rw [List.length_map, List.length_range] at hP
    exact run_retD (d := .tuple (lots.map encI)) (ev_tuple_l (ev_var rfl)) ⟨lots, rfl, hP.len, hP.none, hP.some⟩
end
end K53

namespace K53
open PySem L2 Pu
local macro_rules | `(tactic| walk_at "pr") => `(tactic| first | with_reducible assumption | ((with_reducible apply Nb.up); (walk_at "nb"); decide) | omega | ((with_reducible apply_assumption) <;> with_reducible assumption) | ((with_reducible apply is_eq); first | exact atI_map (by with_reducible assumption) | exact rfl) | ((simp only [List.length_cons, List.length_nil]) <;> omega) | exact Or.inl rfl | exact Or.inr (Or.inl rfl) | exact Or.inr (Or.inr (Or.inl rfl)) | exact Or.inr (Or.inr (Or.inr (Or.inl rfl))) | exact Or.inr (Or.inr (Or.inr (Or.inr (Or.inl rfl)))) | exact Or.inr (Or.inr (Or.inr (Or.inr (Or.inr rfl)))) | (fail_if_success (with_reducible apply is_at)))
local macro_rules | `(tactic| walk_at "sd") => `(tactic| first | ((with_reducible refine is_pr ?_); walk_at "pr") | (fail_if_success (with_reducible refine is_pr ?_)))
local macro_rules | `(tactic| walk_at "cl") => `(tactic| first | ((with_reducible apply_assumption) <;> with_reducible assumption) | fail)
local macro_rules | `(tactic| walk_at "no") => `(tactic| (fail_if_success (first | with_reducible apply is_evp | with_reducible apply is_evn | with_reducible apply is_evb | with_reducible apply is_evi | with_reducible apply is_eva | with_reducible apply is_evas | with_reducible apply is_evo | with_reducible apply is_tg | with_reducible apply is_tgs)))
local macro_rules | `(tactic| walk_at "wk") => `(tactic| first | exact Wk.nil | (apply Wk.same; walk_at "wk") | (apply Wk.no; walk_at "wk"))
local macro_rules | `(tactic| walk_at "nb") => `(tactic| first | with_reducible assumption | exact Nb.two | exact Nb.one | exact Nb.zero | ((with_reducible apply Nb.mul) <;> walk_at "nb") | ((with_reducible apply Nb.add) <;> walk_at "nb") | ((with_reducible apply Nb.sub) <;> walk_at "nb") | ((with_reducible apply Nb.neg) <;> walk_at "nb"))
local macro_rules | `(tactic| walk_at "bd") => `(tactic| first | ((with_reducible intro _); walk_at "bd") | ((with_reducible apply EvT.to) <;> walk_at "ev") | ((with_reducible apply EvD.to) <;> walk_at "ev") | walk_at "ev")
local macro_rules | `(tactic| walk_at "ev") => `(tactic| first
  | with_reducible exact ev_int | with_reducible exact ev_bl | with_reducible exact ev_str | with_reducible exact ev_non
  | ((with_reducible apply ev_var); exact rfl)
  | ((with_reducible apply ev_addI) <;> walk_at "ev")
  | ((with_reducible apply ev_sub) <;> walk_at "ev")
  | ((with_reducible apply ev_mulW) <;> walk_at "ev")
  | ((with_reducible apply ev_mod) <;> walk_at "ev")
  | ((with_reducible apply ev_fdiv) <;> walk_at "ev")
  | ((with_reducible apply ev_sqW) <;> walk_at "ev")
  | ((with_reducible apply ev_neg) <;> walk_at "ev")
  | ((with_reducible apply ev_abs) <;> walk_at "ev")
  | ((with_reducible apply ev_max2) <;> walk_at "ev")
  | ((with_reducible apply ev_min2) <;> walk_at "ev")
  | ((with_reducible apply ev_lt) <;> walk_at "ev")
  | ((with_reducible apply ev_le) <;> walk_at "ev")
  | ((with_reducible apply ev_gt) <;> walk_at "ev")
  | ((with_reducible apply ev_ge) <;> walk_at "ev")
  | ((with_reducible apply ev_eqI2) <;> walk_at "ev")
  | ((with_reducible apply ev_neI2) <;> walk_at "ev")
  | ((with_reducible apply ev_neS2) <;> walk_at "ev")
  | ((with_reducible apply ev_eqS2) <;> walk_at "ev")
  | ((with_reducible apply ev_eqN) <;> walk_at "ev")
  | ((with_reducible apply ev_neN) <;> walk_at "ev")
  | ((with_reducible apply ev_in_lN) <;> walk_at "ev")
  | ((with_reducible apply ev_in_tN) <;> walk_at "ev")
  | ((with_reducible apply ev_ni_lN) <;> walk_at "ev")
  | ((with_reducible apply ev_ni_tN) <;> walk_at "ev")
  | ((with_reducible apply ev_reprN) <;> walk_at "ev")
  | ((with_reducible apply ev_isN) <;> walk_at "ev")
  | ((with_reducible apply ev_notN) <;> walk_at "ev")
  | ((with_reducible apply ev_andV) <;> walk_at "ev")
  | ((with_reducible apply ev_orV) <;> walk_at "ev")
  | ((with_reducible apply ev_notV) <;> walk_at "ev")
  | ((with_reducible apply ev_if) <;> walk_at "ev")
  | ((with_reducible apply ev_ix_t) <;> walk_at "ev")
  | ((with_reducible apply ev_ix_l) <;> walk_at "ev")
  | ((with_reducible apply ev_len_t) <;> walk_at "ev")
  | ((with_reducible apply ev_len_l) <;> walk_at "ev")
  | ((with_reducible apply ev_tuple_l) <;> walk_at "ev")
  | ((with_reducible apply ev_tuple_t) <;> walk_at "ev")
  | ((with_reducible apply ev_isi) <;> walk_at "ev")
  | ((with_reducible apply ev_addTM) <;> walk_at "ev")
  | ((with_reducible apply ev_tup0) <;> walk_at "ev")
  | ((with_reducible apply ev_tup1) <;> walk_at "ev")
  | ((with_reducible apply ev_tup2) <;> walk_at "ev")
  | ((with_reducible apply ev_tupM) <;> walk_at "ev")
  | ((with_reducible apply ev_any) <;> walk_at "ev")
  | ((with_reducible apply ev_all) <;> walk_at "ev")
  | ((with_reducible apply ev_sum) <;> walk_at "ev")
  | ((with_reducible apply ev_int1) <;> walk_at "ev")
  | ((with_reducible apply ev_intb) <;> walk_at "ev")
  | ((with_reducible apply ev_call) <;> walk_at "ev")
  | ((with_reducible apply ev_chain) <;> walk_at "ev")
  | ((with_reducible apply ev_chain3) <;> walk_at "ev")
  | ((with_reducible apply ev_empL) <;> walk_at "ev")
  | ((with_reducible apply ev_empT) <;> walk_at "ev")
  | ((with_reducible apply ev_dict0) <;> walk_at "ev")
  | ((with_reducible apply ev_sl_t) <;> walk_at "ev")
  | ((with_reducible apply ev_rev_t) <;> walk_at "ev")
  | ((with_reducible apply el_frz) <;> walk_at "ev")
  | ((with_reducible apply el_lst0) <;> walk_at "ev")
  | ((with_reducible apply el_lst1) <;> walk_at "ev")
  | ((with_reducible apply el_lst2) <;> walk_at "ev")
  | ((with_reducible apply el_lst3) <;> walk_at "ev")
  | ((with_reducible apply el_lstM) <;> walk_at "ev")
  | ((with_reducible apply el_list_l) <;> walk_at "ev")
  | ((with_reducible apply el_list_t) <;> walk_at "ev")
  | ((with_reducible apply el_addLM) <;> walk_at "ev")
  | ((with_reducible apply el_mulLM) <;> walk_at "ev")
  | ((with_reducible apply el_lc1M) <;> walk_at "ev")
  | ((with_reducible apply el_lcM) <;> walk_at "ev")
  | ((with_reducible apply el_sl_l) <;> walk_at "ev")
  | ((with_reducible apply el_rev_l) <;> walk_at "ev")
  | ((with_reducible apply et_yes) <;> walk_at "ev")
  | ((with_reducible apply et_test) <;> walk_at "ev")
  | ((with_reducible apply et_B) <;> walk_at "ev")
  | ((with_reducible apply et_not) <;> walk_at "ev")
  | ((with_reducible apply et_and) <;> walk_at "ev")
  | ((with_reducible apply et_or) <;> walk_at "ev")
  | ((with_reducible apply ei_t) <;> walk_at "ev")
  | ((with_reducible apply ei_l) <;> walk_at "ev")
  | ((with_reducible apply ei_r1M) <;> walk_at "ev")
  | ((with_reducible apply ei_r2M) <;> walk_at "ev")
  | ((with_reducible apply ei_en_t) <;> walk_at "ev")
  | ((with_reducible apply ei_en_l) <;> walk_at "ev")
  | ((with_reducible apply ea_nil) <;> walk_at "ev")
  | ((with_reducible apply ea_cons) <;> walk_at "ev")
  | ((with_reducible apply EvAs.nil) <;> walk_at "ev")
  | ((with_reducible apply EvAs.cons) <;> walk_at "ev")
  | ((with_reducible apply eo_none) <;> walk_at "ev")
  | ((with_reducible apply eo_some) <;> walk_at "ev")
  | ((with_reducible apply tg_name) <;> walk_at "ev")
  | ((with_reducible apply tg_tup) <;> walk_at "ev")
  | ((with_reducible apply tgs_nil) <;> walk_at "ev")
  | ((with_reducible apply tgs_cons) <;> walk_at "ev")
  | ((with_reducible apply r2_lt) <;> walk_at "ev")
  | ((with_reducible apply r2_le) <;> walk_at "ev")
  | ((with_reducible intro _); walk_at "bd")
  | walk_at "cl"
  | (walk_at "no"; walk_at "sd"))
local macro_rules | `(tactic| walk_at "hl") => `(tactic| first | decide | ((simp only [List.length_cons, List.length_nil, List.length_append, List.length_map, List.length_take, List.length_drop]) <;> omega))
local macro_rules | `(tactic| walk_at "ha") => `(tactic| first | exact hall0 | with_reducible assumption | ((with_reducible refine hallC ?_ ?_) <;> first | walk_at "ha" | walk_at "hc") | ((with_reducible refine hallA ?_ ?_) <;> walk_at "ha") | ((with_reducible refine hallM ?_); (with_reducible intro _ _); walk_at "hc"))
local macro_rules | `(tactic| walk_at "hc") => `(tactic| first
  | with_reducible assumption | exact Hc.non | exact Hc.bool
  | ((with_reducible refine Hc.int ?_); first | with_reducible assumption | (unfold Nb; omega))
  | ((with_reducible apply_assumption) <;> with_reducible assumption)
  | ((with_reducible refine Hc.str ?_); exact Nc.str (by decide +kernel) (by decide +kernel))
  | ((with_reducible refine Hc.tup ?_ ?_); (walk_at "hl"); (walk_at "ha"))
  | ((with_reducible refine Hc.lst ?_ ?_); (walk_at "hl"); (walk_at "ha")))
section
variable {P : Program} {w : World} {K : PySem.W.Frag} {mg : Str → Option Value} {base : Heap} {a : Nat → Addr} {d : Nat → FuncData}
def ltB (m : Int) : PyData → Bool
  | .int i => decide (i < m)
  | _ => false
theorem all_ints {m : Int} : ∀ {xs : List PyData}, (xs.all fun d => numB d && ltB m d) = true → ∃ is : List Int, xs = is.map .int ∧ ∀ i ∈ is, 0 ≤ i ∧ i < m
  | [], _ => ⟨[], rfl, fun _ h => by cases h⟩
  | x :: xs, h => by
    rw [List.all_cons, Bool.and_eq_true, Bool.and_eq_true] at h
    obtain ⟨a, rfl, ha⟩ := numB_int h.1.1
    obtain ⟨is, rfl, h2⟩ := all_ints h.2
    refine ⟨a :: is, rfl, fun i hi => ?_⟩
    rcases List.mem_cons.mp hi with rfl | hi
    · exact ⟨ha, of_decide_eq_true h.1.2⟩
    · exact h2 i hi
theorem map_int_inj {xs ys : List Int} (h : xs.map PyData.int = ys.map PyData.int) : xs = ys := List.map_inj_right (fun _ _ e => PyData.int.inj e) |>.mp h
theorem encP_inj {p q : Int × Int} (h : encP p = encP q) : p = q := by
  have h := PyData.tuple.inj h
  injection h with h1 h2
  injection h2 with h2 _
  exact Prod.ext (PyData.int.inj h1) (PyData.int.inj h2)
theorem map_encP_inj {xs ys : List (Int × Int)} (h : xs.map encP = ys.map encP) : xs = ys := List.map_inj_right (fun _ _ e => encP_inj e) |>.mp h
theorem rise_bad {m : Int} {xs : List PyData} (h : (xs.all fun d => numB d && ltB m d) = false) : ¬ ∃ is : List Int, PyData.tuple xs = encI is ∧ Rise m is := by
  rintro ⟨is, e, hr⟩
  have e := PyData.tuple.inj e
  subst e
  have : ((is.map PyData.int).all fun d => numB d && ltB m d) = true := by
    rw [List.all_eq_true]
    intro d hd
    obtain ⟨i, hi, rfl⟩ := List.mem_map.mp hd
    have := hr.1 i hi
    show (decide (0 ≤ i) && decide (i < m)) = true
    rw [decide_eq_true this.1, decide_eq_true this.2]
    rfl
  rw [h] at this
  cases this
theorem rise_up {is : List Int} : ((List.range (((is.map PyData.int).length : Int) - 1).toNat).all fun k : Nat => decide (gI is (1 + (k : Int) - 1) < gI is (1 + (k : Int)))) = true ↔ is.Pairwise (· < ·) := by
  rw [List.all_eq_true, ← chain_all (r := fun a b : Int => a < b) (fun a b c h1 h2 => by omega), List.length_map]
  have e1 : ∀ k : Nat, (1 + (k : Int) - 1) = (k : Int) := fun k => by omega
  have e2 : ∀ k : Nat, (1 + (k : Int)) = ((k + 1 : Nat) : Int) := fun k => by omega
  constructor
  · intro h k a b ha hb
    have hl := (List.getElem?_eq_some_iff.mp hb).1
    have := of_decide_eq_true (h k (List.mem_range.mpr (by omega)))
    rw [e1, e2, gI_get ha, gI_get hb] at this
    exact this
  · intro h k hk
    have hk := List.mem_range.mp hk
    have h1 : k + 1 < is.length := by omega
    refine decide_eq_true ?_
    rw [e1, e2, gI_get (List.getElem?_eq_getElem (show k < is.length by omega)), gI_get (List.getElem?_eq_getElem h1)]
    exact h k _ _ (List.getElem?_eq_getElem (by omega)) (List.getElem?_eq_getElem h1)
theorem hc_in {n : Nat} {ds : List PyData} (h : Hc (n + 1) (.tuple ds)) : ds.length ≤ 24 ∧ ∀ d ∈ ds, Hc n d := by
  cases h with
  | tup h1 h2 => exact ⟨h1, h2⟩
theorem hc_int {n : Nat} {i : Int} (h : Hc n (.int i)) : Nb 40 i := by
  cases h with
  | int h => exact h
theorem hc_ints {n : Nat} {is : List Int} (h : Hc (n + 1) (encI is)) : ∀ i ∈ is, Nb 40 i := fun i hi => hc_int ((hc_in h).2 _ (List.mem_map.mpr ⟨i, hi, rfl⟩))
theorem rise_zip (is : List Int) : ((is.zip (is.drop 1)).all fun p => decide (p.1 < p.2)) = true ↔ is.Pairwise (· < ·) := by
  rw [List.all_eq_true, ← chain_all (r := fun a b : Int => a < b) (fun a b c h1 h2 => by omega)]
  constructor
  · intro h k a b ha hb
    have hm : (a, b) ∈ is.zip (is.drop 1) := List.mem_of_getElem? (i := k) (List.getElem?_zip_eq_some.mpr ⟨ha, by rw [List.getElem?_drop, Nat.add_comm]; exact hb⟩)
    exact of_decide_eq_true (h _ hm)
  · rintro h ⟨a, b⟩ hm
    obtain ⟨k, hk⟩ := List.mem_iff_getElem?.mp hm
    obtain ⟨h1, h2⟩ := List.getElem?_zip_eq_some.mp hk
    rw [List.getElem?_drop, Nat.add_comm] at h2
    exact decide_eq_true (h k a b h1 h2)
theorem zipD_ints (xs ys : List Int) : zipD (xs.map PyData.int) (ys.map PyData.int) = (xs.zip ys).map prD := by
  unfold zipD
  rw [List.zip_map, List.map_map]
  rfl
theorem filt_emp {α β : Type} (as : List α) (p : α → Bool) (f : α → β) : ((as.filter p).map f).isEmpty = as.all fun a => !p a := by
  induction as with
  | nil => rfl
  | cons a as ih =>
    rw [List.filter_cons, List.all_cons]
    cases h : p a with
    | true => rfl
    | false => exact ih
theorem rise_dn {is : List Int} : ((List.range (((is.map PyData.int).length : Int) - 1).toNat).all fun k : Nat => !decide (gI is (1 + (k : Int) - 1) ≥ gI is (1 + (k : Int)))) = true ↔ is.Pairwise (· < ·) := by
  rw [← rise_up, List.all_eq_true, List.all_eq_true]
  constructor
  · intro h k hk
    have := h k hk
    rw [Bool.not_eq_true', decide_eq_false_iff_not] at this
    exact decide_eq_true (by omega)
  · intro h k hk
    have := of_decide_eq_true (h k hk)
    rw [Bool.not_eq_true', decide_eq_false_iff_not]
    omega
theorem cut_from1 (xs : List PyData) : cutD xs (some 1) none = xs.drop 1 := by
  cases xs with
  | nil => rfl
  | cons x xs => exact cut_from (k := 1) (by simp)
theorem cut_to2 (x y z : PyData) : cutD [x, y, z] none (some 2) = [x, y] := rfl
theorem lotD_eq {v : PyData} {m : Int} {b : Bool} (h : b = true ↔ ∃ is : List Int, v = encI is ∧ Rise m is) : PyData.bool b = .bool (lotD v m) := by
  congr 1
  classical
  rw [Bool.eq_iff_iff, h]
  exact decide_eq_true_iff.symm
theorem lotD_iff {v : PyData} {m : Int} : lotD v m = true ↔ ∃ is : List Int, v = encI is ∧ Rise m is := by
  classical
  unfold lotD
  exact decide_eq_true_iff
theorem lotD_is {is : List Int} {m : Int} : lotD (encI is) m = true ↔ Rise m is := by
  rw [lotD_iff]
  constructor
  · rintro ⟨js, e, hr⟩
    have := map_int_inj (PyData.tuple.inj e)
    subst this
    exact hr
  · exact fun h => ⟨is, rfl, h⟩
theorem parV_eq {n : Nat} {rods : List (Int × Int)} {v : PyData} {b : Bool} (h : b = true ↔ IsPar n rods v) : PyData.bool b = .bool (parV n rods v) := by
  congr 1
  classical
  rw [Bool.eq_iff_iff, h]
  exact decide_eq_true_iff.symm
theorem isPar_in {n : Nat} {rods : List (Int × Int)} {x y z : PyData} : IsPar n rods (.tuple [x, y, z]) → lotD (.tuple [x, y]) n = true ∧ lotD z n = true := by
  rintro ⟨a, b, lot, e, h1, h2, _⟩
  have e := PyData.tuple.inj e
  injection e with e1 e
  injection e with e2 e
  injection e with e3 _
  subst e1 e2 e3
  exact ⟨lotD_iff.mpr ⟨[a, b], rfl, h1⟩, lotD_iff.mpr ⟨lot, rfl, h2⟩⟩
theorem isPar_is {n : Nat} {rods : List (Int × Int)} {a b : Int} {lot : List Int} (h1 : Rise n [a, b]) (h2 : Rise n lot) : IsPar n rods (.tuple [.int a, .int b, encI lot]) ↔ (lot ≠ [] ∧ a ∉ lot ∧ b ∉ lot ∧ othersI n a b lot ≠ []) ∧ ∀ j ∈ lot, ∀ o ∈ othersI n a b lot, tiedB rods j o = false := by
  constructor
  · rintro ⟨a', b', lot', e, _, _, h3, h4, h5, h6, h7⟩
    have e := PyData.tuple.inj e
    injection e with e1 e
    injection e with e2 e
    injection e with e3 _
    obtain rfl := PyData.int.inj e1
    obtain rfl := PyData.int.inj e2
    have := map_int_inj (PyData.tuple.inj e3)
    subst this
    exact ⟨⟨h3, h4, h5, h6⟩, h7⟩
  · rintro ⟨⟨h3, h4, h5, h6⟩, h7⟩
    exact ⟨a, b, lot, rfl, h1, h2, h3, h4, h5, h6, h7⟩
theorem isPar_3 {n : Nat} {rods : List (Int × Int)} {ds : List PyData} (h : ds.length ≠ 3) : ¬ IsPar n rods (.tuple ds) := by
  rintro ⟨a, b, lot, e, _⟩
  rw [PyData.tuple.inj e] at h
  exact h rfl
theorem rise_few {n : Nat} {is : List Int} (hn : n ≤ 24) (h : Rise n is) : Few is := by
  refine ⟨?_, fun i hi => ?_⟩
  · have : is.length ≤ (natsI (List.range n)).length := (nodup_up h.2).length_le_of_subset fun x hx => by
      have := h.1 x hx
      exact mem_natsI.mpr ⟨x.toNat, List.mem_range.mpr (by omega), Int.toNat_of_nonneg this.1⟩
    rw [List.length_map, List.length_range] at this
    omega
  · have := h.1 i hi
    omega
theorem others_in (n : Nat) (a b : Int) (lot : List Int) : ((List.range n).filter fun i : Nat => !decide ((i : Int) ∈ a :: b :: lot)).map (fun i : Nat => PyData.int (i : Int)) = (othersI n a b lot).map PyData.int := by
  unfold othersI
  rw [natsI_map]
theorem others_of (n : Nat) (a b : Int) (lot : List Int) : ((List.range n).filter fun i : Nat => !decide ((i : Int) ∈ [a, b]) && !decide ((i : Int) ∈ lot)).map (fun i : Nat => PyData.int (i : Int)) = (othersI n a b lot).map PyData.int := by
  rw [← others_in]
  congr 1
  refine List.filter_congr fun i _ => ?_
  rw [← Bool.not_or]
  congr 1
  rw [← Bool.decide_or]
  exact decide_eq_decide.mpr (by simp [or_assoc])
theorem mem_others {n : Nat} {a b : Int} {lot : List Int} {i : Int} (h : i ∈ othersI n a b lot) : 0 ≤ i ∧ i < n := (mem_rangeI.mp h).1
theorem others_len {n : Nat} {a b : Int} {lot : List Int} : (othersI n a b lot).length ≤ n := natsI_len
theorem nc_lot26 {a b : Int} {lot : List Int} (h : Few lot) (ha : 0 ≤ a ∧ a ≤ 100) (hb : 0 ≤ b ∧ b ≤ 100) : NC (encI (a :: b :: lot)) := NC.tuple (n := 0) (m := 45) 26 (by rw [List.length_map]; exact Nat.add_le_add_right (Nat.add_le_add_right h.len 1) 1) (nc_map fun i hi => (Nc.int (Nat.lt_of_lt_of_le (show i.natAbs < 1000 by
  rcases List.mem_cons.mp hi with rfl | hi
  · omega
  rcases List.mem_cons.mp hi with rfl | hi
  · omega
  have := h.sm i hi
  omega) (by decide)))) (by decide) (by decide)
theorem ea_star0 {K : PySem.W.Frag} {A : Am} {te : TE} {ρ : List Ab} {ds : List PyData} (h : EvD A te ρ (.tuple ds)) : EvA A (StX.tStar K te tNil) ρ (fun w => w = ds.map Ab.dat) := by
  have := ea_starT (K := K) h ea_nil
  rwa [List.append_nil] at this
theorem G_is_lot (T : Txt K mg a d) : FnG P w K mg base CX0 2 (a 6) (d 6) ["value", "most"] (spOf 2 R_is_lot) := by
  refine fn_run T.F_is_lot sc_is_lot rfl (fun cdv A outer s H E hgu hr => ?_)
  have hgu := hgu_of hgu (env := PyProof.Rows.envOfC "is_lot" (defScope s_is_lot) s.heap.objs.size (a 6) cdv)
  have hu64 := hr.units; have hu65 := hu65_of hr; have hrep := hrep_of hr; have hu1 := hu_of hr
  refine ⟨_, (pss_cons (ps_if (PW.pt (pw_or (pt_not (pt_val (pe_callB (kc_isi K) (by rfl) T.z_isinstance (by decide +kernel) (pa_cons (pv 0) (pa_cons (pe_bltn (v := .ty "tuple") (u := .type "tuple") (by rfl) T.z_tuple (by decide +kernel) rfl) pa_nil))))) (pw_or1 (pt_not (pt_val (pe_callB (kc_all K rfl) (by rfl) T.z_all (by decide +kernel) (pa_cons (pe_lc (own := [("one", 2)]) (g := (gName 2)) (tt := tYes) rfl sc_is_lot.nd (kpi_seq K (pv 0)) (blkOk_by (N := ["value", "most", "one", "late"]) (sc := defScope s_is_lot) (by decide +kernel)) (fun _ _ _ _ _ => (pg_name (i := 2) sc_is_lot.nd rfl (Or.inl rfl))) (fun _ _ _ _ _ => pts_nil) (fun _ _ _ _ _ => (pe_and (pe_callG (G_is_number T) hgu (hr.mono (by decide)) (by rfl) T.g_is_number T.F_is_number.kp T.b_is_number .nil pass0 (pa_cons (pv 2) pa_nil)) (pe_one (pe_cmpR op_lt (pv 2) (pv 1) (by rfl)))))) pa_nil))))))) (pss_one (ps_ret pe_bl)) pss_nil)
      (pss_one (ps_ret (pe_callB (kc_all K rfl) (by rfl) T.z_all (by decide +kernel) (pa_cons (pe_lc (own := [("one", 2), ("late", 3)]) (g := (gTup K 2 (gCons (gName 2) (gCons (gName 3) gNil)))) (tt := tYes) rfl sc_is_lot.nd (kpi_zip K (by rfl) T.z_zip (pa_cons (pv 0) (pa_cons (pe_slice (k_sl K) (pv 0) (po_some pe_int) po_none) pa_nil))) (blkOk_by (N := ["value", "most", "one", "late"]) (sc := defScope s_is_lot) (by decide +kernel)) (fun _ _ _ _ _ => (pg_tup rfl (pgs_cons (pg_name (i := 2) sc_is_lot.nd rfl (Or.inl rfl)) (pgs_cons (pg_name (i := 3) sc_is_lot.nd rfl (Or.inl rfl)) pgs_nil)))) (fun _ _ _ _ _ => pts_nil) (fun _ _ _ _ _ => (pe_cmpR op_lt (pv 2) (pv 3) (by rfl)))) pa_nil))))), fun M bs Q hR hl => ?_⟩
  obtain ⟨v, m, rfl, hv, rfl⟩ := hR
  have c1 : ∀ d, R_is_number M [.dat d] (fun w => w = .bool (numB d)) := fun d => ⟨d, rfl, rfl⟩
  rcases isT_tup v with ⟨ht, xs, rfl⟩ | ⟨ht, hno⟩
  · have hxl : xs.length ≤ 24 := (hc_in hv).1
    refine run_seq (run_ifD (b := !(xs.all fun d => numB d && ltB m d)) ?_ (fun h => run_retD (d := .bool false) ev_bl (lotD_eq ?_)) (fun h => run_next ?_))
    · refine et_orR ((et_not (et_B (ev_isi (.inr (.inr (.inl rfl))) (ev_var rfl)))).to (by rw [ht]; rfl)) (et_not (et_B (ev_allM (el_frz (el_lc1M (as := xs) (en := fun d => d) (l := fun d => [(2, d)]) (f := fun d => .bool (numB d && ltB m d)) (ei_tI (ev_var rfl)) (fun _ _ => tg_name) (fun _ _ => rfl) (fun d _ => ?_) (by omega))))))
      refine ev_andV (ev_call (ea_cons (ev_var rfl) ea_nil) rfl (c1 d)) (fun z => ?_)
      obtain ⟨i, rfl, _⟩ := numB_int z
      exact ev_lt (ev_var rfl) (ev_var rfl)
    · have h := nb_f h
      exact ⟨(fun z => by cases z), fun z => absurd z (rise_bad h)⟩
    have h := nb_t h
    obtain ⟨is, rfl, his⟩ := all_ints h
    rw [List.length_map] at hxl
    refine run_retD (ev_allM (el_frz (el_lc1M (as := is.zip (is.drop 1)) (en := prD) (l := fun p => [(2, .int p.1), (3, .int p.2)]) (f := fun p => .bool (decide (p.1 < p.2))) (EvI.imp (ei_zip_t (ev_var rfl) (ev_sl_t (lo := some 1) (hi := none) (ev_var rfl) (eo_some ev_int) eo_none)) ?_) (fun _ _ => tg_tup rfl (tgs_cons tg_name (tgs_cons tg_name tgs_nil))) (fun _ _ => rfl) (fun p _ => ev_lt (ev_var rfl) (ev_var rfl)) (by rw [List.length_zip]; omega)))) (lotD_eq ?_)
    · rintro ds rfl
      rw [cut_from1, ← List.map_drop, zipD_ints]
    · rw [rise_zip]
      constructor
      · intro hu
        exact ⟨is, rfl, his, hu⟩
      · rintro ⟨js, e, hr⟩
        have := map_int_inj (PyData.tuple.inj e)
        subst this
        exact hr.2
  · refine run_seq (run_ifD (b := true) ?_ (fun h => run_retD (d := .bool false) ev_bl (lotD_eq ⟨(fun z => by cases z), ?_⟩)) (fun h => by cases h))
    · exact et_orT ((et_not (et_B (ev_isi (.inr (.inr (.inl rfl))) (ev_var rfl)))).to (by rw [ht]; rfl))
    · rintro ⟨is, e, _⟩
      exact absurd e (hno _)
theorem G__law_is_lot (T : Txt K mg a d) : FnG P w K mg base CX0 1 (a 21) (d 21) ["value", "n"] (spOf 2 R__law_is_lot) := by
  refine fn_run T.F__law_is_lot sc__law_is_lot rfl (fun cdv A outer s H E hgu hr => ?_)
  have hgu := hgu_of hgu (env := PyProof.Rows.envOfC "_law_is_lot" (defScope s__law_is_lot) s.heap.objs.size (a 21) cdv)
  have hu64 := hr.units; have hu65 := hu65_of hr; have hrep := hrep_of hr; have hu1 := hu_of hr
  refine ⟨_, (pss_cons (ps_if (pt_not (pt_val (pe_callB (kc_isi K) (by rfl) T.z_isinstance (by decide +kernel) (pa_cons (pv 0) (pa_cons (pe_bltn (v := .ty "tuple") (u := .type "tuple") (by rfl) T.z_tuple (by decide +kernel) rfl) pa_nil))))) (pss_one (ps_ret pe_bl)) pss_nil)
      (pss_cons (ps_if (pt_cmpR (op_neE hu64) (pe_lc (own := [("one", 2)]) (g := (gName 2)) rfl sc__law_is_lot.nd (kpi_seq K (pv 0)) (blkOk_by (N := ["value", "n", "one", "k"]) (sc := defScope s__law_is_lot) (by decide +kernel)) (fun _ _ _ _ _ => (pg_name (i := 2) sc__law_is_lot.nd rfl (Or.inl rfl))) (fun _ _ _ _ _ => (pts_one (PW.pt (pw_or (pt_not (pt_val (pe_callB (kc_isi K) (by rfl) T.z_isinstance (by decide +kernel) (pa_cons (pv 2) (pa_cons (pe_bltn (v := .ty "int") (u := .type "int") (by rfl) T.z_int (by decide +kernel) rfl) pa_nil))))) (pw_or (pt_val (pe_callB (kc_isi K) (by rfl) T.z_isinstance (by decide +kernel) (pa_cons (pv 2) (pa_cons (pe_bltn (v := .ty "bool") (u := .type "bool") (by rfl) T.z_bool (by decide +kernel) rfl) pa_nil)))) (pw_or1 (pt_not (pt_chain op_le op_lt pe_int (pv 2) (pv 1))))))))) (fun _ _ _ _ _ => (pv 2))) (pe_lst pa_nil) (by rfl)) (pss_one (ps_ret pe_bl)) pss_nil)
      (pss_one (ps_ret (pe_cmpR (op_eqE hu64) (pe_lc (own := [("k", 3)]) (g := (gName 3)) rfl sc__law_is_lot.nd (pi_range2 (by rfl) T.z_range (pa_cons pe_int (pa_cons (pe_callB (kc_len K) (by rfl) T.z_len (by decide +kernel) (pa_cons (pv 0) pa_nil)) pa_nil))) (blkOk_by (N := ["value", "n", "one", "k"]) (sc := defScope s__law_is_lot) (by decide +kernel)) (fun _ _ _ _ _ => (pg_name (i := 3) sc__law_is_lot.nd rfl (Or.inl rfl))) (fun _ _ _ _ _ => (pts_one (pt_cmpR op_ge (pe_ix (k_ix K) (pv 0) (pe_op op_sub (pv 3) pe_int) (fun _ _ => rfl)) (pe_ix (k_ix K) (pv 0) (pv 3) (fun _ _ => rfl)) (by rfl)))) (fun _ _ _ _ _ => (pv 3))) (pe_lst pa_nil) (by rfl)))))), fun M bs Q hR hl => ?_⟩
  obtain ⟨v, m, rfl, hv, rfl⟩ := hR
  rcases isT_tup v with ⟨ht, xs, rfl⟩ | ⟨ht, hno⟩
  · have hxl : xs.length ≤ 24 := (hc_in hv).1
    refine run_seq (run_ifD (b := false) ((et_not (et_B (ev_isi (.inr (.inr (.inl rfl))) (ev_var rfl)))).to (by rw [ht]; rfl)) (fun h => by cases h) (fun h => run_next ?_))
    refine run_seq (run_ifD (b := !(xs.all fun d => numB d && ltB m d)) ?_ (fun h => run_retD (d := .bool false) ev_bl (lotD_eq ?_)) (fun h => run_next ?_))
    · refine (et_test (ev_empL (f := not) (el_frz (el_lcM (as := xs) (en := fun d => d) (l := fun d => [(2, d)]) (p := fun d => !(numB d && ltB m d)) (f := fun d => d) (ei_tI (ev_var rfl)) (fun _ _ => tg_name) (fun _ _ => rfl) (fun d _ => ?_) (fun _ _ _ => ev_var rfl) (by omega))) (el_frz el_lst0))).to ?_
      · by_cases hI : isI d = true
        · obtain ⟨i, rfl⟩ := isI_int hI
          have i1 : isT "int" (.int i) = true := by simp only [isT, tyN]; decide +kernel
          have i2 : isT "bool" (.int i) = false := by simp only [isT, tyN]; decide +kernel
          refine et_orR ((et_not (et_B (ev_isi (.inl rfl) (ev_var rfl)))).to (by rw [i1]; rfl)) (et_orR ((et_B (ev_isi (.inr (.inl rfl)) (ev_var rfl))).to i2) ?_)
          exact et_not (et_B (ev_chain (b1 := decide (0 ≤ i)) (b2 := decide (i < m)) ev_int (ev_var rfl) r2_le (fun _ => ev_var rfl) (fun _ => r2_lt)))
        · have hI : isI d = false := by simpa using hI
          have e : (!(numB d && ltB m d)) = true := by
            cases d with
            | int i => cases hI
            | _ => rfl
          rw [e]
          rw [← isI_eq] at hI
          cases hi : isT "int" d with
          | false => exact et_orT ((et_not (et_B (ev_isi (.inl rfl) (ev_var rfl)))).to (by rw [hi]; rfl))
          | true =>
            rw [hi, Bool.true_and] at hI
            refine et_orR ((et_not (et_B (ev_isi (.inl rfl) (ev_var rfl)))).to (by rw [hi]; rfl)) (et_orT ((et_B (ev_isi (.inr (.inl rfl)) (ev_var rfl))).to ?_))
            cases hb : isT "bool" d with
            | true => rfl
            | false => rw [hb] at hI; cases hI
      · rw [filt_emp]
        simp only [Bool.not_not]
    · have h := nb_f h
      exact ⟨(fun z => by cases z), fun z => absurd z (rise_bad h)⟩
    have h := nb_t h
    obtain ⟨is, rfl, his⟩ := all_ints h
    rw [List.length_map] at hxl
    have hll : (is.map PyData.int).length = is.length := List.length_map _
    refine run_retD ((ev_empL (f := id) (el_frz (el_lcM (as := List.range (((is.map PyData.int).length : Int) - 1).toNat) (en := fun k : Nat => PyData.int (1 + (k : Int))) (l := fun k => [(3, .int (1 + (k : Int)))]) (p := fun k => decide (gI is (1 + (k : Int) - 1) ≥ gI is (1 + (k : Int)))) (f := fun k : Nat => PyData.int (1 + (k : Int))) (ei_r2M ev_int (ev_len_t (ev_var rfl)) (by omega)) (fun _ _ => tg_name) (fun _ _ => rfl) (fun k hk => ?_) (fun _ _ _ => ev_var rfl) (by rw [List.length_range]; omega))) (el_frz el_lst0))) (lotD_eq ?_)
    · have hk := List.mem_range.mp hk
      rw [List.length_map] at hk
      exact et_test (ev_ge (ev_ix_t (ev_var rfl) (ev_sub (ev_var rfl) ev_int) (gI_E (by omega) (by omega))) (ev_ix_t (ev_var rfl) (ev_var rfl) (gI_E (by omega) (by omega))))
    · rw [filt_emp]
      show _ = true ↔ _
      unfold id
      rw [rise_dn]
      constructor
      · intro hu
        exact ⟨is, rfl, his, hu⟩
      · rintro ⟨js, e, hr⟩
        have := map_int_inj (PyData.tuple.inj e)
        subst this
        exact hr.2
  · refine run_seq (run_ifD (b := true) ?_ (fun h => run_retD (d := .bool false) ev_bl (lotD_eq ⟨(fun z => by cases z), ?_⟩)) (fun h => by cases h))
    · exact (et_not (et_B (ev_isi (.inr (.inr (.inl rfl))) (ev_var rfl)))).to (by rw [ht]; rfl)
    · rintro ⟨is, e, _⟩
      exact absurd e (hno _)
end
end K53

namespace K53
open PySem L2 Pu
local macro_rules | `(tactic| walk_at "pr") => `(tactic| first | with_reducible assumption | ((with_reducible apply Nb.up); (walk_at "nb"); decide) | omega | ((with_reducible apply_assumption) <;> with_reducible assumption) | ((with_reducible apply is_eq); first | exact atI_map (by with_reducible assumption) | exact rfl) | ((simp only [List.length_cons, List.length_nil]) <;> omega) | exact Or.inl rfl | exact Or.inr (Or.inl rfl) | exact Or.inr (Or.inr (Or.inl rfl)) | exact Or.inr (Or.inr (Or.inr (Or.inl rfl))) | exact Or.inr (Or.inr (Or.inr (Or.inr (Or.inl rfl)))) | exact Or.inr (Or.inr (Or.inr (Or.inr (Or.inr rfl)))) | (fail_if_success (with_reducible apply is_at)))
local macro_rules | `(tactic| walk_at "sd") => `(tactic| first | ((with_reducible refine is_pr ?_); walk_at "pr") | (fail_if_success (with_reducible refine is_pr ?_)))
local macro_rules | `(tactic| walk_at "cl") => `(tactic| first | ((with_reducible apply_assumption) <;> with_reducible assumption) | fail)
local macro_rules | `(tactic| walk_at "no") => `(tactic| (fail_if_success (first | with_reducible apply is_evp | with_reducible apply is_evn | with_reducible apply is_evb | with_reducible apply is_evi | with_reducible apply is_eva | with_reducible apply is_evas | with_reducible apply is_evo | with_reducible apply is_tg | with_reducible apply is_tgs)))
local macro_rules | `(tactic| walk_at "wk") => `(tactic| first | exact Wk.nil | (apply Wk.same; walk_at "wk") | (apply Wk.no; walk_at "wk"))
local macro_rules | `(tactic| walk_at "nb") => `(tactic| first | with_reducible assumption | exact Nb.two | exact Nb.one | exact Nb.zero | ((with_reducible apply Nb.mul) <;> walk_at "nb") | ((with_reducible apply Nb.add) <;> walk_at "nb") | ((with_reducible apply Nb.sub) <;> walk_at "nb") | ((with_reducible apply Nb.neg) <;> walk_at "nb"))
local macro_rules | `(tactic| walk_at "bd") => `(tactic| first | ((with_reducible intro _); walk_at "bd") | ((with_reducible apply EvT.to) <;> walk_at "ev") | ((with_reducible apply EvD.to) <;> walk_at "ev") | walk_at "ev")
local macro_rules | `(tactic| walk_at "ev") => `(tactic| first
  | with_reducible exact ev_int | with_reducible exact ev_bl | with_reducible exact ev_str | with_reducible exact ev_non
  | ((with_reducible apply ev_var); exact rfl)
  | ((with_reducible apply ev_addI) <;> walk_at "ev")
  | ((with_reducible apply ev_sub) <;> walk_at "ev")
  | ((with_reducible apply ev_mulW) <;> walk_at "ev")
  | ((with_reducible apply ev_mod) <;> walk_at "ev")
  | ((with_reducible apply ev_fdiv) <;> walk_at "ev")
  | ((with_reducible apply ev_sqW) <;> walk_at "ev")
  | ((with_reducible apply ev_neg) <;> walk_at "ev")
  | ((with_reducible apply ev_abs) <;> walk_at "ev")
  | ((with_reducible apply ev_max2) <;> walk_at "ev")
  | ((with_reducible apply ev_min2) <;> walk_at "ev")
  | ((with_reducible apply ev_lt) <;> walk_at "ev")
  | ((with_reducible apply ev_le) <;> walk_at "ev")
  | ((with_reducible apply ev_gt) <;> walk_at "ev")
  | ((with_reducible apply ev_ge) <;> walk_at "ev")
  | ((with_reducible apply ev_eqI2) <;> walk_at "ev")
  | ((with_reducible apply ev_neI2) <;> walk_at "ev")
  | ((with_reducible apply ev_neS2) <;> walk_at "ev")
  | ((with_reducible apply ev_eqS2) <;> walk_at "ev")
  | ((with_reducible apply ev_eqN) <;> walk_at "ev")
  | ((with_reducible apply ev_neN) <;> walk_at "ev")
  | ((with_reducible apply ev_in_lN) <;> walk_at "ev")
  | ((with_reducible apply ev_in_tN) <;> walk_at "ev")
  | ((with_reducible apply ev_ni_lN) <;> walk_at "ev")
  | ((with_reducible apply ev_ni_tN) <;> walk_at "ev")
  | ((with_reducible apply ev_reprN) <;> walk_at "ev")
  | ((with_reducible apply ev_isN) <;> walk_at "ev")
  | ((with_reducible apply ev_notN) <;> walk_at "ev")
  | ((with_reducible apply ev_andV) <;> walk_at "ev")
  | ((with_reducible apply ev_orV) <;> walk_at "ev")
  | ((with_reducible apply ev_notV) <;> walk_at "ev")
  | ((with_reducible apply ev_if) <;> walk_at "ev")
  | ((with_reducible apply ev_ix_t) <;> walk_at "ev")
  | ((with_reducible apply ev_ix_l) <;> walk_at "ev")
  | ((with_reducible apply ev_len_t) <;> walk_at "ev")
  | ((with_reducible apply ev_len_l) <;> walk_at "ev")
  | ((with_reducible apply ev_tuple_l) <;> walk_at "ev")
  | ((with_reducible apply ev_tuple_t) <;> walk_at "ev")
  | ((with_reducible apply ev_isi) <;> walk_at "ev")
  | ((with_reducible apply ev_addTM) <;> walk_at "ev")
  | ((with_reducible apply ev_tup0) <;> walk_at "ev")
  | ((with_reducible apply ev_tup1) <;> walk_at "ev")
  | ((with_reducible apply ev_tup2) <;> walk_at "ev")
  | ((with_reducible apply ev_tupM) <;> walk_at "ev")
  | ((with_reducible apply ev_any) <;> walk_at "ev")
  | ((with_reducible apply ev_all) <;> walk_at "ev")
  | ((with_reducible apply ev_sum) <;> walk_at "ev")
  | ((with_reducible apply ev_int1) <;> walk_at "ev")
  | ((with_reducible apply ev_intb) <;> walk_at "ev")
  | ((with_reducible apply ev_call) <;> walk_at "ev")
  | ((with_reducible apply ev_chain) <;> walk_at "ev")
  | ((with_reducible apply ev_chain3) <;> walk_at "ev")
  | ((with_reducible apply ev_empL) <;> walk_at "ev")
  | ((with_reducible apply ev_empT) <;> walk_at "ev")
  | ((with_reducible apply ev_dict0) <;> walk_at "ev")
  | ((with_reducible apply ev_sl_t) <;> walk_at "ev")
  | ((with_reducible apply ev_rev_t) <;> walk_at "ev")
  | ((with_reducible apply el_frz) <;> walk_at "ev")
  | ((with_reducible apply el_lst0) <;> walk_at "ev")
  | ((with_reducible apply el_lst1) <;> walk_at "ev")
  | ((with_reducible apply el_lst2) <;> walk_at "ev")
  | ((with_reducible apply el_lst3) <;> walk_at "ev")
  | ((with_reducible apply el_lstM) <;> walk_at "ev")
  | ((with_reducible apply el_list_l) <;> walk_at "ev")
  | ((with_reducible apply el_list_t) <;> walk_at "ev")
  | ((with_reducible apply el_addLM) <;> walk_at "ev")
  | ((with_reducible apply el_mulLM) <;> walk_at "ev")
  | ((with_reducible apply el_lc1M) <;> walk_at "ev")
  | ((with_reducible apply el_lcM) <;> walk_at "ev")
  | ((with_reducible apply el_sl_l) <;> walk_at "ev")
  | ((with_reducible apply el_rev_l) <;> walk_at "ev")
  | ((with_reducible apply et_yes) <;> walk_at "ev")
  | ((with_reducible apply et_test) <;> walk_at "ev")
  | ((with_reducible apply et_B) <;> walk_at "ev")
  | ((with_reducible apply et_not) <;> walk_at "ev")
  | ((with_reducible apply et_and) <;> walk_at "ev")
  | ((with_reducible apply et_or) <;> walk_at "ev")
  | ((with_reducible apply ei_t) <;> walk_at "ev")
  | ((with_reducible apply ei_l) <;> walk_at "ev")
  | ((with_reducible apply ei_r1M) <;> walk_at "ev")
  | ((with_reducible apply ei_r2M) <;> walk_at "ev")
  | ((with_reducible apply ei_en_t) <;> walk_at "ev")
  | ((with_reducible apply ei_en_l) <;> walk_at "ev")
  | ((with_reducible apply ea_nil) <;> walk_at "ev")
  | ((with_reducible apply ea_cons) <;> walk_at "ev")
  | ((with_reducible apply EvAs.nil) <;> walk_at "ev")
  | ((with_reducible apply EvAs.cons) <;> walk_at "ev")
  | ((with_reducible apply eo_none) <;> walk_at "ev")
  | ((with_reducible apply eo_some) <;> walk_at "ev")
  | ((with_reducible apply tg_name) <;> walk_at "ev")
  | ((with_reducible apply tg_tup) <;> walk_at "ev")
  | ((with_reducible apply tgs_nil) <;> walk_at "ev")
  | ((with_reducible apply tgs_cons) <;> walk_at "ev")
  | ((with_reducible apply r2_lt) <;> walk_at "ev")
  | ((with_reducible apply r2_le) <;> walk_at "ev")
  | ((with_reducible intro _); walk_at "bd")
  | walk_at "cl"
  | (walk_at "no"; walk_at "sd"))
local macro_rules | `(tactic| walk_at "hl") => `(tactic| first | decide | ((simp only [List.length_cons, List.length_nil, List.length_append, List.length_map, List.length_take, List.length_drop]) <;> omega))
local macro_rules | `(tactic| walk_at "ha") => `(tactic| first | exact hall0 | with_reducible assumption | ((with_reducible refine hallC ?_ ?_) <;> first | walk_at "ha" | walk_at "hc") | ((with_reducible refine hallA ?_ ?_) <;> walk_at "ha") | ((with_reducible refine hallM ?_); (with_reducible intro _ _); walk_at "hc"))
local macro_rules | `(tactic| walk_at "hc") => `(tactic| first
  | with_reducible assumption | exact Hc.non | exact Hc.bool
  | ((with_reducible refine Hc.int ?_); first | with_reducible assumption | (unfold Nb; omega))
  | ((with_reducible apply_assumption) <;> with_reducible assumption)
  | ((with_reducible refine Hc.str ?_); exact Nc.str (by decide +kernel) (by decide +kernel))
  | ((with_reducible refine Hc.tup ?_ ?_); (walk_at "hl"); (walk_at "ha"))
  | ((with_reducible refine Hc.lst ?_ ?_); (walk_at "hl"); (walk_at "ha")))
section
variable {P : Program} {w : World} {K : PySem.W.Frag} {mg : Str → Option Value} {base : Heap} {a : Nat → Addr} {d : Nat → FuncData}
theorem reach_all {n : Nat} {rods : List (Int × Int)} {gone : List Int} {r : Int} {rs : List Int} (e : restI n gone = r :: rs) : (∀ j ∈ r :: rs, j ∈ reachI n rods gone r) ↔ ¬ (reachI n rods gone r).length < (r :: rs).length := by
  have hr : r ∈ restI n gone := by rw [e]; simp
  obtain ⟨hr0, hrg⟩ := mem_rest.mp hr
  have esub : reachI n rods gone r = (restI n gone).filter fun j => decide (j ∈ reachI n rods gone r) := by
    refine sorted_same natsI_up (List.Pairwise.filter _ natsI_up) fun i => ?_
    rw [List.mem_filter]
    constructor
    · intro h
      have hc := (mem_reach hr0).mp h
      exact ⟨mem_rest.mpr ⟨hc.rng hr0, hc.out hrg⟩, decide_eq_true h⟩
    · exact fun h => of_decide_eq_true h.2
  have el : (reachI n rods gone r).length = ((restI n gone).filter fun j => decide (j ∈ reachI n rods gone r)).length := congrArg List.length esub
  rw [← e, el, List.length_filter_lt_length_iff_exists]
  constructor
  · rintro h ⟨x, hx, hn⟩
    exact hn (decide_eq_true (h x hx))
  · intro h j hj
    by_cases hj2 : j ∈ reachI n rods gone r
    · exact hj2
    · exact absurd ⟨j, hj, fun z => hj2 (of_decide_eq_true z)⟩ h
theorem part_lots {n : Nat} {rods : List (Int × Int)} {a b : Int} {lots : List (List Int)} (h1 : restI n [a, b] = [] → lots = []) (h2 : ∀ r rs, restI n [a, b] = r :: rs → ∃ ls, lots = reachI n rods [a, b] r :: ls ∧ (ls = [] ↔ ∀ j ∈ r :: rs, j ∈ reachI n rods [a, b] r)) : decide (1 < (lots.length : Int)) = partB n rods (a, b) ∧ (partB n rods (a, b) = true → lots[0]? = some (reachI n rods [a, b] ((restI n [a, b]).headD 0))) := by
  unfold partB
  simp only
  cases e : restI n [a, b] with
  | nil =>
    rw [h1 e]
    exact ⟨rfl, fun z => by cases z⟩
  | cons r rs =>
    obtain ⟨ls, rfl, hi⟩ := h2 r rs e
    rw [reach_all e] at hi
    simp only
    refine ⟨decide_eq_decide.mpr ?_, fun _ => rfl⟩
    rw [List.length_cons]
    cases ls with
    | nil =>
      have := hi.mp rfl
      constructor
      · intro z
        have : (1 : Int) < ((0 + 1 : Nat) : Int) := z
        omega
      · exact fun z => absurd z this
    | cons l ls =>
      constructor
      · intro _
        by_cases z : (reachI n rods [a, b] r).length < (r :: rs).length
        · exact z
        · exact absurd (hi.mpr z) (by simp)
      · intro _
        rw [List.length_cons]
        omega
theorem pairsTo_more (n : Int) (k : Nat) : ∀ m, ∃ r, pairsTo n (k + m) = pairsTo n k ++ r
  | 0 => ⟨[], by rw [List.append_nil]; rfl⟩
  | m + 1 => by
    obtain ⟨r, h⟩ := pairsTo_more n k m
    exact ⟨r ++ rowI n (k + m), by rw [show k + (m + 1) = (k + m) + 1 by omega, pairsTo_succ, h, List.append_assoc]⟩
theorem pairs_find {p : Int × Int → Bool} {n : Int} {k j : Nat} {r : Int × Int} (hk : k < n.toNat) (h1 : ∀ r ∈ pairsTo n k, p r = false) (h2 : ∀ r ∈ (rowI n k).take j, p r = false) (hr : (rowI n k)[j]? = some r) (hu : p r = true) : (pairsI n).find? p = some r := by
  obtain ⟨rest, e⟩ := pairsTo_more n (k + 1) (n.toNat - (k + 1))
  rw [show k + 1 + (n.toNat - (k + 1)) = n.toNat by omega, pairsTo_succ] at e
  have e2 : rowI n k = (rowI n k).take j ++ r :: (rowI n k).drop (j + 1) := by
    have hj := (List.getElem?_eq_some_iff.mp hr).1
    have := List.take_append_drop j (rowI n k)
    rw [List.drop_eq_getElem_cons hj, (List.getElem?_eq_some_iff.mp hr).2] at this
    exact this.symm
  have e3 : pairsI n = (pairsTo n k ++ (rowI n k).take j) ++ r :: ((rowI n k).drop (j + 1) ++ rest) := by
    unfold pairsI
    rw [e]
    conv => lhs; rw [e2]
    simp [List.append_assoc]
  rw [List.find?_eq_some_iff_append]
  refine ⟨hu, _, _, e3, fun a ha => ?_⟩
  rw [(List.mem_append.mp ha).elim (h1 a) (h2 a)]
  rfl
theorem pairs_no {p : Int × Int → Bool} {n : Int} (h : ∀ r ∈ pairsTo n n.toNat, p r = false) : (pairsI n).find? p = none := by
  rw [List.find?_eq_none]
  intro r hr
  rw [h r hr]
  decide
theorem all_snoc {α : Type} {p : α → Bool} {l : List α} {j : Nat} {x : α} (hj : l[j]? = some x) (h : ∀ y ∈ l.take j, p y = false) (hx : p x = false) : ∀ y ∈ l.take (j + 1), p y = false := by
  intro y hy
  rw [List.take_succ, hj] at hy
  rcases List.mem_append.mp hy with hy | hy
  · exact h y hy
  · have : y = x := by simpa using hy
    rw [this]; exact hx
theorem rg_get {m : Nat} {i : Int} {k : Nat} {dd : PyData} (h : ((List.range m).map fun x : Nat => PyData.int (i + (x : Int)))[k]? = some dd) : k < m ∧ dd = .int (i + (k : Int)) := by
  rw [List.getElem?_map] at h
  cases e : (List.range m)[k]? with
  | none => rw [e] at h; cases h
  | some x =>
    rw [e] at h
    cases h
    have hk := (List.getElem?_eq_some_iff.mp e).1
    rw [List.length_range] at hk
    rw [List.getElem?_range hk] at e
    cases e
    exact ⟨hk, rfl⟩
theorem rg_get0 {m : Nat} {k : Nat} {dd : PyData} (h : ((List.range m).map fun x : Nat => PyData.int (x : Int))[k]? = some dd) : k < m ∧ dd = .int (k : Int) := by
  have := rg_get (m := m) (i := 0) (k := k) (dd := dd) (by simpa using h)
  simpa using this
theorem rest_in (n : Nat) (a b : Int) : ((List.range n).filter fun i : Nat => !decide ((i : Int) ∈ [a, b])).map (fun i : Nat => PyData.int (i : Int)) = (restI n [a, b]).map PyData.int := by
  unfold restI
  rw [natsI_map]
theorem et_andF {A : Am} {ρ : List Ab} {tt tu : TT} (h1 : EvT A tt ρ false) : EvT A (tAnd tt tu) ρ false := (et_and (b2 := false) h1 (fun h => by cases h)).to rfl
theorem et_andR {A : Am} {ρ : List Ab} {tt tu : TT} {b : Bool} (h1 : EvT A tt ρ true) (h2 : EvT A tu ρ b) : EvT A (tAnd tt tu) ρ b := (et_and h1 fun _ => h2).to (Bool.true_and b)
theorem G_first_parter (T : Txt K mg a d) : FnG P w K mg base CX0 6 (a 7) (d 7) ["frame"] (spOf 1 R_first_parter) := by
  refine fn_run T.F_first_parter sc_first_parter rfl (fun cdv A outer s H E hgu hr => ?_)
  have hgu := hgu_of hgu (env := PyProof.Rows.envOfC "first_parter" (defScope s_first_parter) s.heap.objs.size (a 7) cdv)
  have hu64 := hr.units; have hu65 := hu65_of hr; have hrep := hrep_of hr; have hu1 := hu_of hr
  refine ⟨_, (pss_cons (ps_for PassesOwn.never rfl (pi_range1 (by rfl) T.z_range (pa_cons (pe_ix (k_ix K) (pv 0) pe_int (fun _ _ => rfl)) pa_nil)) (pg_name (i := 1) sc_first_parter.nd rfl (Or.inl rfl)) (pss_one (ps_for PassesOwn.never rfl (pi_range2 (by rfl) T.z_range (pa_cons (pe_op (k_add K) (pv 1) pe_int) (pa_cons (pe_ix (k_ix K) (pv 0) pe_int (fun _ _ => rfl)) pa_nil))) (pg_name (i := 2) sc_first_parter.nd rfl (Or.inl rfl)) (pss_cons (ps_set (i := 3) sc_first_parter.nd rfl (Or.inl rfl) (pe_callG (G_pieces_without T) hgu (hr.mono (by decide)) (by rfl) T.g_pieces_without T.F_pieces_without.kp T.b_pieces_without .nil pass0 (pa_cons (pv 0) (pa_cons (pe_tup (pa_cons (pv 1) (pa_cons (pv 2) pa_nil))) pa_nil))))
      (pss_one (ps_if (pt_cmpR op_gt (pe_callB (kc_len K) (by rfl) T.z_len (by decide +kernel) (pa_cons (pv 3) pa_nil)) pe_int (by rfl)) (pss_one (ps_ret (pe_tup (pa_cons (pv 1) (pa_cons (pv 2) (pa_cons (pe_ix (k_ix K) (pv 3) pe_int (fun _ _ => rfl)) pa_nil)))))) pss_nil))))))
      (pss_one (ps_ret pe_non))), fun M bs Q hR hl => ?_⟩
  obtain ⟨n, rods, rfl, h, rfl⟩ := hR
  have hn := h.n2
  refine run_seq (run_for (N := fun w => w = (List.range n).map fun i : Nat => PyData.int (i : Int)) (ei_r1M (j := (n : Int)) (ev_ix_t (xs := [PyData.int (n : Int), encPs rods]) (i := 0) (ev_var rfl) ev_int rfl) (by omega)) (fun _ k ρ' => ∃ b2 b3 b4 : Ab, k ≤ n ∧ (∀ r ∈ pairsTo n k, partB n rods r = false) ∧ ρ' = [.dat (encF n rods), b2, b3, b4]) (fun _ _ => ⟨_, _, _, Nat.zero_le _, (fun r hr => by cases hr), rfl⟩) ?_ ?_)
  · rintro ds k dd ρ' rfl hk ⟨b2, b3, b4, hkn, hall, rfl⟩
    obtain ⟨hk3, rfl⟩ := rg_get0 hk
    refine ⟨_, tg_name, ?_⟩
    refine run_for (N := fun w => w = (List.range ((n : Int) - ((k : Int) + 1)).toNat).map fun x : Nat => PyData.int ((k : Int) + 1 + (x : Int))) (ei_r2M (ev_addI (ev_var rfl) ev_int) (ev_ix_t (xs := [PyData.int (n : Int), encPs rods]) (i := 0) (ev_var rfl) ev_int rfl) (by omega)) (fun ds j ρ' => ∃ b3 b4 : Ab, (∀ r ∈ (rowI n k).take j, partB n rods r = false) ∧ ρ' = [.dat (encF n rods), .dat (.int (k : Int)), b3, b4]) (fun _ _ => ⟨b3, b4, (fun r hr => by rw [List.take_zero] at hr; cases hr), rfl⟩) ?_ ?_
    · rintro ds j dd ρ' rfl hdd ⟨b3, b4, hrow, rfl⟩
      obtain ⟨hj, rfl⟩ := rg_get hdd
      have hr : (rowI n k)[j]? = some ((k : Int), (k : Int) + 1 + (j : Int)) := by
        unfold rowI
        rw [List.getElem?_map, List.getElem?_range hj]
        rfl
      refine ⟨_, tg_name, ?_⟩
      generalize hb : (k : Int) + 1 + (j : Int) = b at *
      refine run_seq (run_set (P := fun w => ∃ lots : List (List Int), w = .tuple (lots.map encI) ∧ lots.length ≤ n ∧ (restI n [(k : Int), b] = [] → lots = []) ∧ ∀ r rs, restI n [(k : Int), b] = r :: rs → ∃ ls, lots = reachI n rods [(k : Int), b] r :: ls ∧ (ls = [] ↔ ∀ j ∈ r :: rs, j ∈ reachI n rods [(k : Int), b] r)) (evp_call (N := fun bs => bs = [.dat (encF n rods), .dat (encI [(k : Int), b])]) (ea_cons (ev_var rfl) (ea_cons (ev_tup2 (ev_var rfl) (ev_var rfl)) ea_nil)) (fun bs e => by subst e; exact ⟨rfl, n, rods, [(k : Int), b], rfl, h, ⟨by show 2 ≤ 24; decide, fun i hi => by
        rcases List.mem_cons.mp hi with rfl | hi
        · omega
        · rw [List.mem_singleton.mp hi]
          omega⟩, rfl⟩)) ?_)
      rintro _ ⟨lots, rfl, hll, h1, h2⟩
      obtain ⟨e1, e2⟩ := part_lots h1 h2
      show Pu.Run M _ [.dat (encF n rods), .dat (.int (k : Int)), .dat (.int b), .dat (.tuple (lots.map encI))] _
      refine run_ifD (b := partB n rods ((k : Int), b)) ((et_test (ev_gt (ev_len_t (ev_var rfl)) ev_int)).to (by rw [List.length_map]; exact e1)) (fun z => ?_) (fun z => run_next ⟨_, _, all_snoc hr hrow z, rfl⟩)
      have hx0 : atI (lots.map encI) 0 = some (encI (reachI n rods [(k : Int), b] ((restI n [(k : Int), b]).headD 0))) := by
        have := e2 z
        cases lots with
        | nil => cases this
        | cons l ls =>
          injection this with this
          subst this
          exact atI_c0
      refine run_retD (d := .tuple [.int (k : Int), .int b, encI (reachI n rods [(k : Int), b] ((restI n [(k : Int), b]).headD 0))]) (ev_tup (ds := [_, _, _]) (ea_cons (ev_var rfl) (ea_cons (ev_var rfl) (ea_cons (ev_ix_t (i := 0) (ev_var rfl) ev_int hx0) ea_nil))) (by show 3 ≤ sizeLine; decide)) ?_
      · show _ = parD n rods ((pairsI n).find? (partB n rods))
        rw [pairs_find (by omega) hall hrow hr z]
        rfl
    · rintro ds ρ' rfl ⟨b3, b4, hrow, rfl⟩
      refine ⟨_, _, _, hk3, fun r hr => ?_, rfl⟩
      rw [pairsTo_succ] at hr
      rcases List.mem_append.mp hr with hr | hr
      · exact hall r hr
      · refine hrow r ?_
        rw [List.length_map, List.length_range, List.take_of_length_le]
        · exact hr
        · unfold rowI
          rw [List.length_map, List.length_range]
          exact Nat.le_refl _
  · rintro ds ρ' rfl ⟨b2, b3, b4, hk, hall, rfl⟩
    rw [List.length_map, List.length_range] at hall
    refine run_retD (d := .none) ev_non ?_
    show _ = parD n rods ((pairsI n).find? (partB n rods))
    rw [pairs_no hall]
    rfl
theorem G__law_pairs (T : Txt K mg a d) : FnG P w K mg base CX0 1 (a 13) (d 13) ["n"] (spOf 1 R__law_pairs) := by
  refine fn_run T.F__law_pairs sc__law_pairs rfl (fun cdv A outer s H E hgu hr => ?_)
  have hgu := hgu_of hgu (env := PyProof.Rows.envOfC "_law_pairs" (defScope s__law_pairs) s.heap.objs.size (a 13) cdv)
  have hu64 := hr.units; have hu65 := hu65_of hr; have hrep := hrep_of hr; have hu1 := hu_of hr
  refine ⟨_, (pss_cons (ps_set (i := 1) sc__law_pairs.nd rfl (Or.inl rfl) (pe_lst pa_nil))
      (pss_cons (ps_for PassesOwn.never rfl (pi_range1 (by rfl) T.z_range (pa_cons (pv 0) pa_nil)) (pg_name (i := 2) sc__law_pairs.nd rfl (Or.inr rfl)) (pss_one (ps_set (i := 1) sc__law_pairs.nd rfl (Or.inl rfl) (pe_op (k_add K) (pv 1) (pe_lc (own := [("b", 3)]) (g := (gName 3)) (tt := tYes) rfl sc__law_pairs.nd (pi_range2 (by rfl) T.z_range (pa_cons (pe_op (k_add K) (pv 2) pe_int) (pa_cons (pv 0) pa_nil))) (blkOk_by (N := ["n", "found", "a", "b"]) (sc := defScope s__law_pairs) (by decide +kernel)) (fun _ _ _ _ _ => (pg_name (i := 3) sc__law_pairs.nd rfl (Or.inl rfl))) (fun _ _ _ _ _ => pts_nil) (fun _ _ _ _ _ => (pe_tup (pa_cons (pv 2) (pa_cons (pv 3) pa_nil)))))))))
      (pss_one (ps_ret (pv 1))))), fun M bs Q hR hl => ?_⟩
  obtain ⟨n, rfl, h0, h1, rfl⟩ := hR
  refine run_seq (run_setD (d := .list []) (by walk_at "ev") ?_)
  refine run_seq (run_for (N := fun w => w = (List.range n.toNat).map fun i : Nat => PyData.int (i : Int)) (by walk_at "ev") (fun ds k ρ' => ∃ (b2 b3 : Ab), k ≤ n.toNat ∧ ρ' = [.dat (.int n), .dat (.list ((pairsTo n k).map encP)), b2, b3]) (fun _ _ => ⟨.no, .no, by omega, rfl⟩) ?_ ?_)
  · rintro ds k dd ρ' hN hdd ⟨b2, b3, hk, rfl⟩
    subst hN
    rw [List.getElem?_map] at hdd
    have hkl : k < n.toNat := by
      cases hx' : (List.range n.toNat)[k]? with
      | none => rw [hx'] at hdd; cases hdd
      | some x =>
        have := (List.getElem?_eq_some_iff.mp hx').1
        rw [List.length_range] at this
        exact this
    rw [List.getElem?_range hkl] at hdd
    cases hdd
    have hpl := pairsTo_len n k
    have hm : k * n.toNat ≤ 24 * 24 := Nat.mul_le_mul (by omega) (by omega)
    have hz1 : ((pairsTo n k).map encP).length ≤ 20000 := by rw [List.length_map]; omega
    have hz2 : ((rowI n k).map encP).length ≤ 200 := by
      unfold rowI
      rw [List.length_map, List.length_map, List.length_range]
      omega
    have hz3 : (List.range (n - ((k : Int) + 1)).toNat).length ≤ 1000000 := by
      rw [List.length_range]
      omega
    refine ⟨_, tg_name, run_setD (d := .list ((pairsTo n (k + 1)).map encP)) ?_ ⟨_, _, hkl, rfl⟩⟩
    rw [pairsTo_succ, List.map_append]
    with_reducible apply el_frz
    refine el_addLM (xs := (pairsTo n k).map encP) (ys := (rowI n k).map encP) (by walk_at "ev") ?_ (by omega)
    unfold rowI
    rw [List.map_map]
    walk_at "ev"
  · rintro ds ρ' hN ⟨b2, b3, hk, rfl⟩
    subst hN
    rw [List.length_map, List.length_range]
    refine run_retD (d := .list ((pairsTo n n.toNat).map encP)) (by walk_at "ev") rfl
end
end K53

namespace K53
open PySem L2 Pu
local macro_rules | `(tactic| walk_at "pr") => `(tactic| first | with_reducible assumption | ((with_reducible apply Nb.up); (walk_at "nb"); decide) | omega | ((with_reducible apply_assumption) <;> with_reducible assumption) | ((with_reducible apply is_eq); first | exact atI_map (by with_reducible assumption) | exact rfl) | ((simp only [List.length_cons, List.length_nil]) <;> omega) | exact Or.inl rfl | exact Or.inr (Or.inl rfl) | exact Or.inr (Or.inr (Or.inl rfl)) | exact Or.inr (Or.inr (Or.inr (Or.inl rfl))) | exact Or.inr (Or.inr (Or.inr (Or.inr (Or.inl rfl)))) | exact Or.inr (Or.inr (Or.inr (Or.inr (Or.inr rfl)))) | (fail_if_success (with_reducible apply is_at)))
local macro_rules | `(tactic| walk_at "sd") => `(tactic| first | ((with_reducible refine is_pr ?_); walk_at "pr") | (fail_if_success (with_reducible refine is_pr ?_)))
local macro_rules | `(tactic| walk_at "cl") => `(tactic| first | ((with_reducible apply_assumption) <;> with_reducible assumption) | fail)
local macro_rules | `(tactic| walk_at "no") => `(tactic| (fail_if_success (first | with_reducible apply is_evp | with_reducible apply is_evn | with_reducible apply is_evb | with_reducible apply is_evi | with_reducible apply is_eva | with_reducible apply is_evas | with_reducible apply is_evo | with_reducible apply is_tg | with_reducible apply is_tgs)))
local macro_rules | `(tactic| walk_at "wk") => `(tactic| first | exact Wk.nil | (apply Wk.same; walk_at "wk") | (apply Wk.no; walk_at "wk"))
local macro_rules | `(tactic| walk_at "nb") => `(tactic| first | with_reducible assumption | exact Nb.two | exact Nb.one | exact Nb.zero | ((with_reducible apply Nb.mul) <;> walk_at "nb") | ((with_reducible apply Nb.add) <;> walk_at "nb") | ((with_reducible apply Nb.sub) <;> walk_at "nb") | ((with_reducible apply Nb.neg) <;> walk_at "nb"))
local macro_rules | `(tactic| walk_at "bd") => `(tactic| first | ((with_reducible intro _); walk_at "bd") | ((with_reducible apply EvT.to) <;> walk_at "ev") | ((with_reducible apply EvD.to) <;> walk_at "ev") | walk_at "ev")
local macro_rules | `(tactic| walk_at "ev") => `(tactic| first
  | with_reducible exact ev_int | with_reducible exact ev_bl | with_reducible exact ev_str | with_reducible exact ev_non
  | ((with_reducible apply ev_var); exact rfl)
  | ((with_reducible apply ev_addI) <;> walk_at "ev")
  | ((with_reducible apply ev_sub) <;> walk_at "ev")
  | ((with_reducible apply ev_mulW) <;> walk_at "ev")
  | ((with_reducible apply ev_mod) <;> walk_at "ev")
  | ((with_reducible apply ev_fdiv) <;> walk_at "ev")
  | ((with_reducible apply ev_sqW) <;> walk_at "ev")
  | ((with_reducible apply ev_neg) <;> walk_at "ev")
  | ((with_reducible apply ev_abs) <;> walk_at "ev")
  | ((with_reducible apply ev_max2) <;> walk_at "ev")
  | ((with_reducible apply ev_min2) <;> walk_at "ev")
  | ((with_reducible apply ev_lt) <;> walk_at "ev")
  | ((with_reducible apply ev_le) <;> walk_at "ev")
  | ((with_reducible apply ev_gt) <;> walk_at "ev")
  | ((with_reducible apply ev_ge) <;> walk_at "ev")
  | ((with_reducible apply ev_eqI2) <;> walk_at "ev")
  | ((with_reducible apply ev_neI2) <;> walk_at "ev")
  | ((with_reducible apply ev_neS2) <;> walk_at "ev")
  | ((with_reducible apply ev_eqS2) <;> walk_at "ev")
  | ((with_reducible apply ev_eqN) <;> walk_at "ev")
  | ((with_reducible apply ev_neN) <;> walk_at "ev")
  | ((with_reducible apply ev_in_lN) <;> walk_at "ev")
  | ((with_reducible apply ev_in_tN) <;> walk_at "ev")
  | ((with_reducible apply ev_ni_lN) <;> walk_at "ev")
  | ((with_reducible apply ev_ni_tN) <;> walk_at "ev")
  | ((with_reducible apply ev_reprN) <;> walk_at "ev")
  | ((with_reducible apply ev_isN) <;> walk_at "ev")
  | ((with_reducible apply ev_notN) <;> walk_at "ev")
  | ((with_reducible apply ev_andV) <;> walk_at "ev")
  | ((with_reducible apply ev_orV) <;> walk_at "ev")
  | ((with_reducible apply ev_notV) <;> walk_at "ev")
  | ((with_reducible apply ev_if) <;> walk_at "ev")
  | ((with_reducible apply ev_ix_t) <;> walk_at "ev")
  | ((with_reducible apply ev_ix_l) <;> walk_at "ev")
  | ((with_reducible apply ev_len_t) <;> walk_at "ev")
  | ((with_reducible apply ev_len_l) <;> walk_at "ev")
  | ((with_reducible apply ev_tuple_l) <;> walk_at "ev")
  | ((with_reducible apply ev_tuple_t) <;> walk_at "ev")
  | ((with_reducible apply ev_isi) <;> walk_at "ev")
  | ((with_reducible apply ev_addTM) <;> walk_at "ev")
  | ((with_reducible apply ev_tup0) <;> walk_at "ev")
  | ((with_reducible apply ev_tup1) <;> walk_at "ev")
  | ((with_reducible apply ev_tup2) <;> walk_at "ev")
  | ((with_reducible apply ev_tupM) <;> walk_at "ev")
  | ((with_reducible apply ev_any) <;> walk_at "ev")
  | ((with_reducible apply ev_all) <;> walk_at "ev")
  | ((with_reducible apply ev_sum) <;> walk_at "ev")
  | ((with_reducible apply ev_int1) <;> walk_at "ev")
  | ((with_reducible apply ev_intb) <;> walk_at "ev")
  | ((with_reducible apply ev_call) <;> walk_at "ev")
  | ((with_reducible apply ev_chain) <;> walk_at "ev")
  | ((with_reducible apply ev_chain3) <;> walk_at "ev")
  | ((with_reducible apply ev_empL) <;> walk_at "ev")
  | ((with_reducible apply ev_empT) <;> walk_at "ev")
  | ((with_reducible apply ev_dict0) <;> walk_at "ev")
  | ((with_reducible apply ev_sl_t) <;> walk_at "ev")
  | ((with_reducible apply ev_rev_t) <;> walk_at "ev")
  | ((with_reducible apply el_frz) <;> walk_at "ev")
  | ((with_reducible apply el_lst0) <;> walk_at "ev")
  | ((with_reducible apply el_lst1) <;> walk_at "ev")
  | ((with_reducible apply el_lst2) <;> walk_at "ev")
  | ((with_reducible apply el_lst3) <;> walk_at "ev")
  | ((with_reducible apply el_lstM) <;> walk_at "ev")
  | ((with_reducible apply el_list_l) <;> walk_at "ev")
  | ((with_reducible apply el_list_t) <;> walk_at "ev")
  | ((with_reducible apply el_addLM) <;> walk_at "ev")
  | ((with_reducible apply el_mulLM) <;> walk_at "ev")
  | ((with_reducible apply el_lc1M) <;> walk_at "ev")
  | ((with_reducible apply el_lcM) <;> walk_at "ev")
  | ((with_reducible apply el_sl_l) <;> walk_at "ev")
  | ((with_reducible apply el_rev_l) <;> walk_at "ev")
  | ((with_reducible apply et_yes) <;> walk_at "ev")
  | ((with_reducible apply et_test) <;> walk_at "ev")
  | ((with_reducible apply et_B) <;> walk_at "ev")
  | ((with_reducible apply et_not) <;> walk_at "ev")
  | ((with_reducible apply et_and) <;> walk_at "ev")
  | ((with_reducible apply et_or) <;> walk_at "ev")
  | ((with_reducible apply ei_t) <;> walk_at "ev")
  | ((with_reducible apply ei_l) <;> walk_at "ev")
  | ((with_reducible apply ei_r1M) <;> walk_at "ev")
  | ((with_reducible apply ei_r2M) <;> walk_at "ev")
  | ((with_reducible apply ei_en_t) <;> walk_at "ev")
  | ((with_reducible apply ei_en_l) <;> walk_at "ev")
  | ((with_reducible apply ea_nil) <;> walk_at "ev")
  | ((with_reducible apply ea_cons) <;> walk_at "ev")
  | ((with_reducible apply EvAs.nil) <;> walk_at "ev")
  | ((with_reducible apply EvAs.cons) <;> walk_at "ev")
  | ((with_reducible apply eo_none) <;> walk_at "ev")
  | ((with_reducible apply eo_some) <;> walk_at "ev")
  | ((with_reducible apply tg_name) <;> walk_at "ev")
  | ((with_reducible apply tg_tup) <;> walk_at "ev")
  | ((with_reducible apply tgs_nil) <;> walk_at "ev")
  | ((with_reducible apply tgs_cons) <;> walk_at "ev")
  | ((with_reducible apply r2_lt) <;> walk_at "ev")
  | ((with_reducible apply r2_le) <;> walk_at "ev")
  | ((with_reducible intro _); walk_at "bd")
  | walk_at "cl"
  | (walk_at "no"; walk_at "sd"))
local macro_rules | `(tactic| walk_at "hl") => `(tactic| first | decide | ((simp only [List.length_cons, List.length_nil, List.length_append, List.length_map, List.length_take, List.length_drop]) <;> omega))
local macro_rules | `(tactic| walk_at "ha") => `(tactic| first | exact hall0 | with_reducible assumption | ((with_reducible refine hallC ?_ ?_) <;> first | walk_at "ha" | walk_at "hc") | ((with_reducible refine hallA ?_ ?_) <;> walk_at "ha") | ((with_reducible refine hallM ?_); (with_reducible intro _ _); walk_at "hc"))
local macro_rules | `(tactic| walk_at "hc") => `(tactic| first
  | with_reducible assumption | exact Hc.non | exact Hc.bool
  | ((with_reducible refine Hc.int ?_); first | with_reducible assumption | (unfold Nb; omega))
  | ((with_reducible apply_assumption) <;> with_reducible assumption)
  | ((with_reducible refine Hc.str ?_); exact Nc.str (by decide +kernel) (by decide +kernel))
  | ((with_reducible refine Hc.tup ?_ ?_); (walk_at "hl"); (walk_at "ha"))
  | ((with_reducible refine Hc.lst ?_ ?_); (walk_at "hl"); (walk_at "ha")))
section
variable {P : Program} {w : World} {K : PySem.W.Frag} {mg : Str → Option Value} {base : Heap} {a : Nat → Addr} {d : Nat → FuncData}
theorem G__law_parters (T : Txt K mg a d) : FnG P w K mg base CX0 3 (a 17) (d 17) ["frame"] (spOf 1 R__law_parters) := by
  refine fn_run T.F__law_parters sc__law_parters rfl (fun cdv A outer s H E hgu hr => ?_)
  have hgu := hgu_of hgu (env := PyProof.Rows.envOfC "_law_parters" (defScope s__law_parters) s.heap.objs.size (a 17) cdv)
  have hu64 := hr.units; have hu65 := hu65_of hr; have hrep := hrep_of hr; have hu1 := hu_of hr
  refine ⟨_, (pss_cons (ps_set (i := 1) sc__law_parters.nd rfl (Or.inl rfl) (pe_lst pa_nil))
      (pss_cons (ps_for PassesOwn.never rfl (kpi_seq K (pe_callG (G__law_pairs T) hgu (hr.mono (by decide)) (by rfl) T.g__law_pairs T.F__law_pairs.kp T.b__law_pairs .nil pass0 (pa_cons (pe_ix (k_ix K) (pv 0) pe_int (fun _ _ => rfl)) pa_nil))) (pg_tup rfl (pgs_cons (pg_name (i := 2) sc__law_parters.nd rfl (Or.inr rfl)) (pgs_cons (pg_name (i := 3) sc__law_parters.nd rfl (Or.inr rfl)) pgs_nil))) (pss_cons (ps_setLc (i := 4) (own := [("joint", 5)]) (g := (gName 5)) rfl sc__law_parters.nd rfl rfl (sw_true rfl rfl rfl (by decide +kernel)) (pi_range1 (by rfl) T.z_range (pa_cons (pe_ix (k_ix K) (pv 0) pe_int (fun _ _ => rfl)) pa_nil)) (blkOk_by (N := ["frame", "found", "a", "b", "rest", "joint"]) (sc := defScope s__law_parters) (by decide +kernel)) (fun _ _ _ _ _ => (pg_name (i := 5) sc__law_parters.nd rfl (Or.inl rfl))) (fun _ _ _ _ _ => (pts_one (pt_cmpR (k_notIn K hu65) (pv 5) (pe_tup (pa_cons (pv 2) (pa_cons (pv 3) pa_nil))) (by rfl)))) (fun _ _ _ _ _ => (pv 5)))
      (pss_one (ps_if (PW.pt (pw_and (pt_cmpR (op_neE hu64) (pv 4) (pe_lst pa_nil) (by rfl)) (pw_and1 (pt_cmpR op_lt (pe_callB (kc_len K) (by rfl) T.z_len (by decide +kernel) (pa_cons (pe_callG (G__law_come_to T) hgu (hr.mono (by decide)) (by rfl) T.g__law_come_to T.F__law_come_to.kp T.b__law_come_to .nil pass0 (pa_cons (pv 0) (pa_cons (pe_ix (k_ix K) (pv 4) pe_int (fun _ _ => rfl)) (pa_cons (pe_tup (pa_cons (pv 2) (pa_cons (pv 3) pa_nil))) pa_nil)))) pa_nil)) (pe_callB (kc_len K) (by rfl) T.z_len (by decide +kernel) (pa_cons (pv 4) pa_nil)) (by rfl))))) (pss_one (ps_expr (pe_bm PySem.F.plainAttrs_list PySem.F.slot_list_append PySem.F.type_list_append mt_append (pv 1) (pa_cons (pe_tup (pa_cons (pv 2) (pa_cons (pv 3) pa_nil))) pa_nil)))) pss_nil))))
      (pss_one (ps_ret (pv 1))))), fun M bs Q hR hl => ?_⟩
  obtain ⟨n, rods, rfl, h, rfl⟩ := hR
  have hn := h.n2
  have c0 : R__law_pairs M [.dat (.int (n : Int))] (fun w => w = .list ((pairsI n).map encP)) := ⟨n, rfl, by omega, by omega, rfl⟩
  have hpl : (pairsI n).length ≤ 1000 := by
    have := pairsTo_len n (n : Int).toNat
    have h2 : (n : Int).toNat * (n : Int).toNat ≤ 24 * 24 := Nat.mul_le_mul (by omega) (by omega)
    unfold pairsI
    omega
  refine run_seq (run_setL (by show 1 < 6; decide) el_lst0 ?_)
  refine run_seq (run_for (N := fun w => w = (pairsI n).map encP) (ei_l (ev_call (ea_cons (ev_ix_t (xs := [PyData.int (n : Int), encPs rods]) (i := 0) (ev_var rfl) ev_int rfl) ea_nil) rfl c0)) (fun _ k ρ' => ∃ b2 b3 b4 : Ab, ρ' = [.dat (encF n rods), .own ((((pairsI n).take k).filter (partB n rods)).map encP), b2, b3, b4, .no]) (fun _ _ => ⟨_, _, _, by rw [List.take_zero]; rfl⟩) ?_ ?_)
  · rintro ds k dd ρ' rfl hk ⟨b2, b3, b4, rfl⟩
    rw [List.getElem?_map] at hk
    cases hx : (pairsI n)[k]? with
    | none => rw [hx] at hk; cases hk
    | some p =>
      rw [hx] at hk
      obtain rfl : encP p = dd := Option.some.inj hk
      obtain ⟨p0, p1, p2⟩ := mem_pairs.mp (List.mem_of_getElem? hx)
      obtain ⟨a, b⟩ := p
      simp only at p0 p1 p2
      have et : (pairsI n).take (k + 1) = (pairsI n).take k ++ [(a, b)] := by
        rw [List.take_succ, hx]
        rfl
      have hfew : Few [a, b] := ⟨by show 2 ≤ 24; decide, fun i hi => by
        rcases List.mem_cons.mp hi with rfl | hi
        · omega
        · rw [List.mem_singleton.mp hi]
          omega⟩
      refine ⟨_, tg_tup rfl (tgs_cons tg_name (tgs_cons tg_name tgs_nil)), ?_⟩
      show Pu.Run M _ [.dat (encF n rods), .own ((((pairsI n).take k).filter (partB n rods)).map encP), .dat (.int a), .dat (.int b), b4, .no] _
      refine run_seq (run_setL (ds := (restI n [a, b]).map PyData.int) (by show 4 < 6; decide) (EvN.imp (el_lcM (as := List.range n) (en := fun i : Nat => PyData.int (i : Int)) (l := fun i => [(5, .int (i : Int))]) (p := fun i : Nat => !decide ((i : Int) ∈ [a, b])) (f := fun i : Nat => .int (i : Int)) (ei_r1M (j := (n : Int)) (ev_ix_t (xs := [PyData.int (n : Int), encPs rods]) (i := 0) (ev_var rfl) ev_int rfl) (by omega)) (fun _ _ => tg_name) (fun _ _ => rfl) (fun i hi => ?_) (fun _ _ _ => ev_var rfl) (by rw [List.length_range]; omega)) (fun ds e => e.trans (rest_in n a b))) ?_)
      · have hi := List.mem_range.mp hi
        exact (et_test (ev_ni_tN (ev_var rfl) (ev_tup2 (ev_var rfl) (ev_var rfl)) (nc_small (by omega)) (nc_lot hfew))).to (by rw [← in_lot]; rfl)
      show Pu.Run M _ [.dat (encF n rods), .own ((((pairsI n).take k).filter (partB n rods)).map encP), .dat (.int a), .dat (.int b), .own ((restI n [a, b]).map PyData.int), .no] _
      refine run_ifD (b := partB n rods (a, b)) ?_ (fun z => ?_) (fun z => run_next ⟨_, _, _, by rw [et, List.filter_append, List.filter_cons, z, if_neg (by decide), List.filter_nil, List.append_nil]⟩)
      · cases hr : restI n [a, b] with
        | nil =>
          have e : partB n rods (a, b) = false := by
            unfold partB
            simp only
            rw [hr]
          rw [e]
          exact et_andF ((et_test (ev_empL (f := not) (xs := []) (ev_var rfl) (el_frz el_lst0))).to rfl)
        | cons r rs =>
          have e : partB n rods (a, b) = decide ((reachI n rods [a, b] r).length < (r :: rs).length) := by
            unfold partB
            simp only
            rw [hr]
          rw [e]
          have hr0 := (mem_rest.mp (show r ∈ restI n [a, b] by rw [hr]; simp)).1
          have c1 : R__law_come_to M [.dat (encF n rods), .dat (.int r), .dat (encI [a, b])] (fun w => w = encL (reachI n rods [a, b] r)) := ⟨n, rods, r, [a, b], rfl, h, hr0, hfew, rfl⟩
          refine et_andR ((et_test (ev_empL (f := not) (xs := (r :: rs).map PyData.int) (ev_var rfl) (el_frz el_lst0))).to rfl) ((et_test (ev_lt (ev_len_l (ev_call (ea_cons (ev_var rfl) (ea_cons (ev_ix_l (i := 0) (d := .int r) (xs := (r :: rs).map PyData.int) (ev_var rfl) ev_int atI_c0) (ea_cons (ev_tup2 (ev_var rfl) (ev_var rfl)) ea_nil))) rfl c1)) (ev_len_l (ds := (r :: rs).map PyData.int) (ev_var rfl)))).to ?_)
          rw [List.length_map, List.length_map]
          exact decide_eq_decide.mpr (by omega)
      · have hz : ((pairsI n).take k).length ≤ 1000 := by rw [List.length_take]; omega
        have hf := List.length_filter_le (partB n rods) ((pairsI n).take k)
        refine run_app (P := fun w => w = encP (a, b)) rfl rfl rfl (by rw [List.length_map]; exact lt_line (by omega)) (ev_tup2 (ev_var rfl) (ev_var rfl)) ?_
        rintro _ rfl
        exact ⟨_, _, _, by rw [et, List.filter_append, List.filter_cons, z, if_pos rfl, List.filter_nil, List.map_append]; rfl⟩
  · rintro ds ρ' rfl ⟨b2, b3, b4, rfl⟩
    rw [List.length_map, List.take_length]
    exact run_retD (d := .list (((pairsI n).filter (partB n rods)).map encP)) (ev_var rfl) rfl
end
end K53

namespace K53
open PySem L2 Pu
local macro_rules | `(tactic| walk_at "pr") => `(tactic| first | with_reducible assumption | ((with_reducible apply Nb.up); (walk_at "nb"); decide) | omega | ((with_reducible apply_assumption) <;> with_reducible assumption) | ((with_reducible apply is_eq); first | exact atI_map (by with_reducible assumption) | exact rfl) | ((simp only [List.length_cons, List.length_nil]) <;> omega) | exact Or.inl rfl | exact Or.inr (Or.inl rfl) | exact Or.inr (Or.inr (Or.inl rfl)) | exact Or.inr (Or.inr (Or.inr (Or.inl rfl))) | exact Or.inr (Or.inr (Or.inr (Or.inr (Or.inl rfl)))) | exact Or.inr (Or.inr (Or.inr (Or.inr (Or.inr rfl)))) | (fail_if_success (with_reducible apply is_at)))
local macro_rules | `(tactic| walk_at "sd") => `(tactic| first | ((with_reducible refine is_pr ?_); walk_at "pr") | (fail_if_success (with_reducible refine is_pr ?_)))
local macro_rules | `(tactic| walk_at "cl") => `(tactic| first | ((with_reducible apply_assumption) <;> with_reducible assumption) | fail)
local macro_rules | `(tactic| walk_at "no") => `(tactic| (fail_if_success (first | with_reducible apply is_evp | with_reducible apply is_evn | with_reducible apply is_evb | with_reducible apply is_evi | with_reducible apply is_eva | with_reducible apply is_evas | with_reducible apply is_evo | with_reducible apply is_tg | with_reducible apply is_tgs)))
local macro_rules | `(tactic| walk_at "wk") => `(tactic| first | exact Wk.nil | (apply Wk.same; walk_at "wk") | (apply Wk.no; walk_at "wk"))
local macro_rules | `(tactic| walk_at "nb") => `(tactic| first | with_reducible assumption | exact Nb.two | exact Nb.one | exact Nb.zero | ((with_reducible apply Nb.mul) <;> walk_at "nb") | ((with_reducible apply Nb.add) <;> walk_at "nb") | ((with_reducible apply Nb.sub) <;> walk_at "nb") | ((with_reducible apply Nb.neg) <;> walk_at "nb"))
local macro_rules | `(tactic| walk_at "bd") => `(tactic| first | ((with_reducible intro _); walk_at "bd") | ((with_reducible apply EvT.to) <;> walk_at "ev") | ((with_reducible apply EvD.to) <;> walk_at "ev") | walk_at "ev")
local macro_rules | `(tactic| walk_at "ev") => `(tactic| first
  | with_reducible exact ev_int | with_reducible exact ev_bl | with_reducible exact ev_str | with_reducible exact ev_non
  | ((with_reducible apply ev_var); exact rfl)
  | ((with_reducible apply ev_addI) <;> walk_at "ev")
  | ((with_reducible apply ev_sub) <;> walk_at "ev")
  | ((with_reducible apply ev_mulW) <;> walk_at "ev")
  | ((with_reducible apply ev_mod) <;> walk_at "ev")
  | ((with_reducible apply ev_fdiv) <;> walk_at "ev")
  | ((with_reducible apply ev_sqW) <;> walk_at "ev")
  | ((with_reducible apply ev_neg) <;> walk_at "ev")
  | ((with_reducible apply ev_abs) <;> walk_at "ev")
  | ((with_reducible apply ev_max2) <;> walk_at "ev")
  | ((with_reducible apply ev_min2) <;> walk_at "ev")
  | ((with_reducible apply ev_lt) <;> walk_at "ev")
  | ((with_reducible apply ev_le) <;> walk_at "ev")
  | ((with_reducible apply ev_gt) <;> walk_at "ev")
  | ((with_reducible apply ev_ge) <;> walk_at "ev")
  | ((with_reducible apply ev_eqI2) <;> walk_at "ev")
  | ((with_reducible apply ev_neI2) <;> walk_at "ev")
  | ((with_reducible apply ev_neS2) <;> walk_at "ev")
  | ((with_reducible apply ev_eqS2) <;> walk_at "ev")
  | ((with_reducible apply ev_eqN) <;> walk_at "ev")
  | ((with_reducible apply ev_neN) <;> walk_at "ev")
  | ((with_reducible apply ev_in_lN) <;> walk_at "ev")
  | ((with_reducible apply ev_in_tN) <;> walk_at "ev")
  | ((with_reducible apply ev_ni_lN) <;> walk_at "ev")
  | ((with_reducible apply ev_ni_tN) <;> walk_at "ev")
  | ((with_reducible apply ev_reprN) <;> walk_at "ev")
  | ((with_reducible apply ev_isN) <;> walk_at "ev")
  | ((with_reducible apply ev_notN) <;> walk_at "ev")
  | ((with_reducible apply ev_andV) <;> walk_at "ev")
  | ((with_reducible apply ev_orV) <;> walk_at "ev")
  | ((with_reducible apply ev_notV) <;> walk_at "ev")
  | ((with_reducible apply ev_if) <;> walk_at "ev")
  | ((with_reducible apply ev_ix_t) <;> walk_at "ev")
  | ((with_reducible apply ev_ix_l) <;> walk_at "ev")
  | ((with_reducible apply ev_len_t) <;> walk_at "ev")
  | ((with_reducible apply ev_len_l) <;> walk_at "ev")
  | ((with_reducible apply ev_tuple_l) <;> walk_at "ev")
  | ((with_reducible apply ev_tuple_t) <;> walk_at "ev")
  | ((with_reducible apply ev_isi) <;> walk_at "ev")
  | ((with_reducible apply ev_addTM) <;> walk_at "ev")
  | ((with_reducible apply ev_tup0) <;> walk_at "ev")
  | ((with_reducible apply ev_tup1) <;> walk_at "ev")
  | ((with_reducible apply ev_tup2) <;> walk_at "ev")
  | ((with_reducible apply ev_tupM) <;> walk_at "ev")
  | ((with_reducible apply ev_any) <;> walk_at "ev")
  | ((with_reducible apply ev_all) <;> walk_at "ev")
  | ((with_reducible apply ev_sum) <;> walk_at "ev")
  | ((with_reducible apply ev_int1) <;> walk_at "ev")
  | ((with_reducible apply ev_intb) <;> walk_at "ev")
  | ((with_reducible apply ev_call) <;> walk_at "ev")
  | ((with_reducible apply ev_chain) <;> walk_at "ev")
  | ((with_reducible apply ev_chain3) <;> walk_at "ev")
  | ((with_reducible apply ev_empL) <;> walk_at "ev")
  | ((with_reducible apply ev_empT) <;> walk_at "ev")
  | ((with_reducible apply ev_dict0) <;> walk_at "ev")
  | ((with_reducible apply ev_sl_t) <;> walk_at "ev")
  | ((with_reducible apply ev_rev_t) <;> walk_at "ev")
  | ((with_reducible apply el_frz) <;> walk_at "ev")
  | ((with_reducible apply el_lst0) <;> walk_at "ev")
  | ((with_reducible apply el_lst1) <;> walk_at "ev")
  | ((with_reducible apply el_lst2) <;> walk_at "ev")
  | ((with_reducible apply el_lst3) <;> walk_at "ev")
  | ((with_reducible apply el_lstM) <;> walk_at "ev")
  | ((with_reducible apply el_list_l) <;> walk_at "ev")
  | ((with_reducible apply el_list_t) <;> walk_at "ev")
  | ((with_reducible apply el_addLM) <;> walk_at "ev")
  | ((with_reducible apply el_mulLM) <;> walk_at "ev")
  | ((with_reducible apply el_lc1M) <;> walk_at "ev")
  | ((with_reducible apply el_lcM) <;> walk_at "ev")
  | ((with_reducible apply el_sl_l) <;> walk_at "ev")
  | ((with_reducible apply el_rev_l) <;> walk_at "ev")
  | ((with_reducible apply et_yes) <;> walk_at "ev")
  | ((with_reducible apply et_test) <;> walk_at "ev")
  | ((with_reducible apply et_B) <;> walk_at "ev")
  | ((with_reducible apply et_not) <;> walk_at "ev")
  | ((with_reducible apply et_and) <;> walk_at "ev")
  | ((with_reducible apply et_or) <;> walk_at "ev")
  | ((with_reducible apply ei_t) <;> walk_at "ev")
  | ((with_reducible apply ei_l) <;> walk_at "ev")
  | ((with_reducible apply ei_r1M) <;> walk_at "ev")
  | ((with_reducible apply ei_r2M) <;> walk_at "ev")
  | ((with_reducible apply ei_en_t) <;> walk_at "ev")
  | ((with_reducible apply ei_en_l) <;> walk_at "ev")
  | ((with_reducible apply ea_nil) <;> walk_at "ev")
  | ((with_reducible apply ea_cons) <;> walk_at "ev")
  | ((with_reducible apply EvAs.nil) <;> walk_at "ev")
  | ((with_reducible apply EvAs.cons) <;> walk_at "ev")
  | ((with_reducible apply eo_none) <;> walk_at "ev")
  | ((with_reducible apply eo_some) <;> walk_at "ev")
  | ((with_reducible apply tg_name) <;> walk_at "ev")
  | ((with_reducible apply tg_tup) <;> walk_at "ev")
  | ((with_reducible apply tgs_nil) <;> walk_at "ev")
  | ((with_reducible apply tgs_cons) <;> walk_at "ev")
  | ((with_reducible apply r2_lt) <;> walk_at "ev")
  | ((with_reducible apply r2_le) <;> walk_at "ev")
  | ((with_reducible intro _); walk_at "bd")
  | walk_at "cl"
  | (walk_at "no"; walk_at "sd"))
local macro_rules | `(tactic| walk_at "hl") => `(tactic| first | decide | ((simp only [List.length_cons, List.length_nil, List.length_append, List.length_map, List.length_take, List.length_drop]) <;> omega))
local macro_rules | `(tactic| walk_at "ha") => `(tactic| first | exact hall0 | with_reducible assumption | ((with_reducible refine hallC ?_ ?_) <;> first | walk_at "ha" | walk_at "hc") | ((with_reducible refine hallA ?_ ?_) <;> walk_at "ha") | ((with_reducible refine hallM ?_); (with_reducible intro _ _); walk_at "hc"))
local macro_rules | `(tactic| walk_at "hc") => `(tactic| first
  | with_reducible assumption | exact Hc.non | exact Hc.bool
  | ((with_reducible refine Hc.int ?_); first | with_reducible assumption | (unfold Nb; omega))
  | ((with_reducible apply_assumption) <;> with_reducible assumption)
  | ((with_reducible refine Hc.str ?_); exact Nc.str (by decide +kernel) (by decide +kernel))
  | ((with_reducible refine Hc.tup ?_ ?_); (walk_at "hl"); (walk_at "ha"))
  | ((with_reducible refine Hc.lst ?_ ?_); (walk_at "hl"); (walk_at "ha")))
section
variable {P : Program} {w : World} {K : PySem.W.Frag} {mg : Str → Option Value} {base : Heap} {a : Nat → Addr} {d : Nat → FuncData}
theorem G_is_parter (T : Txt K mg a d) : FnG P w K mg base CX0 3 (a 8) (d 8) ["frame", "value"] (spOf 2 R_is_parter) := by
  refine fn_run T.F_is_parter sc_is_parter rfl (fun cdv A outer s H E hgu hr => ?_)
  have hgu := hgu_of hgu (env := PyProof.Rows.envOfC "is_parter" (defScope s_is_parter) s.heap.objs.size (a 8) cdv)
  have hu64 := hr.units; have hu65 := hu65_of hr; have hrep := hrep_of hr; have hu1 := hu_of hr
  refine ⟨_, (pss_cons (ps_if (PW.pt (pw_or (pt_not (pt_val (pe_callB (kc_isi K) (by rfl) T.z_isinstance (by decide +kernel) (pa_cons (pv 1) (pa_cons (pe_bltn (v := .ty "tuple") (u := .type "tuple") (by rfl) T.z_tuple (by decide +kernel) rfl) pa_nil))))) (pw_or1 (pt_cmpR (k_ne K hu64) (pe_callB (kc_len K) (by rfl) T.z_len (by decide +kernel) (pa_cons (pv 1) pa_nil)) pe_int (by rfl))))) (pss_one (ps_ret pe_bl)) pss_nil)
      (pss_cons (ps_if (PW.pt (pw_or (pt_not (pt_val (pe_callG (G_is_lot T) hgu (hr.mono (by decide)) (by rfl) T.g_is_lot T.F_is_lot.kp T.b_is_lot .nil pass0 (pa_cons (pe_slice (k_sl K) (pv 1) po_none (po_some pe_int)) (pa_cons (pe_ix (k_ix K) (pv 0) pe_int (fun _ _ => rfl)) pa_nil))))) (pw_or1 (pt_not (pt_val (pe_callG (G_is_lot T) hgu (hr.mono (by decide)) (by rfl) T.g_is_lot T.F_is_lot.kp T.b_is_lot .nil pass0 (pa_cons (pe_ix (k_ix K) (pv 1) pe_int (fun _ _ => rfl)) (pa_cons (pe_ix (k_ix K) (pv 0) pe_int (fun _ _ => rfl)) pa_nil)))))))) (pss_one (ps_ret pe_bl)) pss_nil)
      (pss_cons (ps_asg (pv 1) (pg_tup rfl (pgs_cons (pg_name (i := 2) sc_is_parter.nd rfl (Or.inr rfl)) (pgs_cons (pg_name (i := 3) sc_is_parter.nd rfl (Or.inr rfl)) (pgs_cons (pg_name (i := 4) sc_is_parter.nd rfl (Or.inr rfl)) pgs_nil)))))
      (pss_cons (ps_set (i := 5) sc_is_parter.nd rfl (Or.inr rfl) (pe_lc (own := [("joint", 6)]) (g := (gName 6)) rfl sc_is_parter.nd (pi_range1 (by rfl) T.z_range (pa_cons (pe_ix (k_ix K) (pv 0) pe_int (fun _ _ => rfl)) pa_nil)) (blkOk_by (N := ["frame", "value", "a", "b", "lot", "others", "joint", "other"]) (sc := defScope s_is_parter) (by decide +kernel)) (fun _ _ _ _ _ => (pg_name (i := 6) sc_is_parter.nd rfl (Or.inl rfl))) (fun _ _ _ _ _ => (pts_one (pt_cmpR (k_notIn K hu65) (pv 6) (pe_tup (pa_cons (pv 2) (pa_cons (pv 3) (pa_starK K (pv 4) pa_nil)))) (by rfl)))) (fun _ _ _ _ _ => (pv 6))))
      (pss_cons (ps_if (PW.pt (pw_or (pt_cmpR (op_eqE hu64) (pv 4) (pe_tup pa_nil) (by rfl)) (pw_or (pt_cmpR (k_in K hu65) (pv 2) (pv 4) (by rfl)) (pw_or (pt_cmpR (k_in K hu65) (pv 3) (pv 4) (by rfl)) (pw_or1 (pt_cmpR (op_eqE hu64) (pv 5) (pe_lst pa_nil) (by rfl))))))) (pss_one (ps_ret pe_bl)) pss_nil)
      (pss_one (ps_ret (pe_not (pe_callB (kc_any K rfl) (by rfl) T.z_any (by decide +kernel) (pa_cons (pe_lc (own := [("joint", 6)]) (g := (gName 6)) (tt := tYes) rfl sc_is_parter.nd (kpi_seq K (pv 4)) (blkOk_by (N := ["frame", "value", "a", "b", "lot", "others", "joint", "other"]) (sc := defScope s_is_parter) (by decide +kernel)) (fun _ _ _ _ _ => (pg_name (i := 6) sc_is_parter.nd rfl (Or.inr rfl))) (fun _ _ _ _ _ => pts_nil) (fun _ _ _ _ _ => (pe_callB (kc_any K rfl) (by rfl) T.z_any (by decide +kernel) (pa_cons (pe_lc (own := [("other", 7)]) (g := (gName 7)) (tt := tYes) rfl sc_is_parter.nd (kpi_seq K (pv 5)) (blkOk_by (by exact rfl)) (fun _ _ _ _ _ => (pg_name (i := 7) sc_is_parter.nd rfl (Or.inl rfl))) (fun _ _ _ _ _ => pts_nil) (fun _ _ _ _ _ => (pe_callG (G_are_tied T) hgu (hr.mono (by decide)) (by rfl) T.g_are_tied T.F_are_tied.kp T.b_are_tied .nil pass0 (pa_cons (pv 0) (pa_cons (pv 6) (pa_cons (pv 7) pa_nil)))))) pa_nil)))) pa_nil)))))))))), fun M bs Q hR hl => ?_⟩
  obtain ⟨n, rods, v, rfl, h, hv, rfl⟩ := hR
  have hn := h.n2
  have nR := nc_rods h
  have x0 : ∀ ρ : List Ab, ρ[0]? = some (.dat (encF n rods)) → EvD M (tOp (rIx2 K) (tVar 0) (tC (V.int 0))) ρ (.int (n : Int)) := fun ρ e => ev_ix_t (xs := [PyData.int (n : Int), encPs rods]) (i := 0) (ev_var e) ev_int rfl
  rcases isT_tup v with ⟨ht, xs, rfl⟩ | ⟨ht, hno⟩
  · by_cases hl : xs.length = 3
    · obtain ⟨x, y, z, rfl⟩ := three_of hl
      refine run_seq (run_ifD (b := false) (et_orR ((et_not (et_B (ev_isi (.inr (.inr (.inl rfl))) (ev_var rfl)))).to (by rw [ht]; rfl)) ((et_test (ev_neI2 (ev_len_t (ev_var rfl)) ev_int)).to rfl)) (fun h => by cases h) (fun _ => run_next ?_))
      have hx := (hc_in hv).2 x (by simp)
      have hy := (hc_in hv).2 y (by simp)
      have hz := (hc_in hv).2 z (by simp)
      have c1 : R_is_lot M [.dat (.tuple [x, y]), .dat (.int (n : Int))] (fun w => w = .bool (lotD (.tuple [x, y]) n)) := ⟨_, _, rfl, Hc.tup (by show 2 ≤ 24; decide) (fun d hd => by
        rcases List.mem_cons.mp hd with rfl | hd
        · exact hx
        · rw [List.mem_singleton.mp hd]
          exact hy), rfl⟩
      have c2 : R_is_lot M [.dat z, .dat (.int (n : Int))] (fun w => w = .bool (lotD z n)) := ⟨_, _, rfl, hz.mono (by decide), rfl⟩
      refine run_seq (run_ifD (b := !lotD (.tuple [x, y]) n || !lotD z n) ?_ (fun q => run_retD (d := .bool false) ev_bl (parV_eq ⟨(fun q => by cases q), fun hp => ?_⟩)) (fun q => run_next ?_))
      · refine et_or (et_not (et_B (ev_call (ea_cons ((ev_sl_t (lo := none) (hi := some 2) (xs := [x, y, z]) (ev_var rfl) eo_none (eo_some ev_int)).to rfl) (ea_cons (x0 _ rfl) ea_nil)) rfl c1))) (fun _ => et_not (et_B (ev_call (ea_cons (ev_ix_t (xs := [x, y, z]) (i := 2) (ev_var rfl) ev_int rfl) (ea_cons (x0 _ rfl) ea_nil)) rfl c2)))
      · obtain ⟨q1, q2⟩ := isPar_in hp
        rw [q1, q2] at q
        cases q
      rw [Bool.or_eq_false_iff, Bool.not_eq_false', Bool.not_eq_false', lotD_iff, lotD_iff] at q
      obtain ⟨⟨is, e, hab⟩, lot, rfl, hlot⟩ := q
      clear c1 c2 hx hy hz hv ht
      obtain ⟨a, b, rfl, rfl, rfl⟩ : ∃ a b : Int, is = [a, b] ∧ x = .int a ∧ y = .int b := by
        have e := PyData.tuple.inj e
        cases is with
        | nil => cases e
        | cons a is => cases is with
          | nil => cases e
          | cons b is => cases is with
            | nil =>
              injection e with e1 e
              injection e with e2 _
              exact ⟨a, b, rfl, e1, e2⟩
            | cons c is => cases e
      have ha := hab.1 a (by simp)
      have hb := hab.1 b (by simp)
      have hfew := rise_few hn hlot
      have hll := hfew.len
      have hol := others_len (n := n) (a := a) (b := b) (lot := lot)
      refine run_seq (run_asgD (d := .tuple [.int a, .int b, encI lot]) (ev_var rfl) (tg_tup rfl (tgs_cons tg_name (tgs_cons tg_name (tgs_cons tg_name tgs_nil)))) ?_)
      refine run_seq (run_setD (d := .list ((othersI n a b lot).map PyData.int)) (el_frz (EvN.imp (el_lcM (as := List.range n) (en := fun i : Nat => PyData.int (i : Int)) (l := fun i => [(6, .int (i : Int))]) (p := fun i : Nat => !decide ((i : Int) ∈ a :: b :: lot)) (f := fun i : Nat => .int (i : Int)) (ei_r1M (j := (n : Int)) (x0 _ rfl) (by omega)) (fun _ _ => tg_name) (fun _ _ => rfl) (fun i hi => ?_) (fun _ _ _ => ev_var rfl) (by rw [List.length_range]; omega)) (fun ds e => e.trans (others_in n a b lot)))) ?_)
      · have hi := List.mem_range.mp hi
        refine (et_test (ev_ni_tN (ev_var rfl) (ev_tup (ds := (a :: b :: lot).map PyData.int) (ea_cons (ev_var rfl) (ea_cons (ev_var rfl) (ea_star0 (ds := lot.map PyData.int) (ev_var rfl)))) (le_line (by rw [List.length_map]; show lot.length + 1 + 1 ≤ 1000000; omega))) (nc_small (by omega)) (nc_lot26 hfew (by omega) (by omega)))).to (by rw [← in_lot])
      show Pu.Run M _ [.dat (encF n rods), .dat (.tuple [.int a, .int b, encI lot]), .dat (.int a), .dat (.int b), .dat (encI lot), .dat (.list ((othersI n a b lot).map PyData.int)), .no, .no] _
      refine run_seq (run_ifD (b := lot.isEmpty || (decide (a ∈ lot) || (decide (b ∈ lot) || (othersI n a b lot).isEmpty))) ?_ (fun q => run_retD (d := .bool false) ev_bl (parV_eq ⟨(fun q => by cases q), fun hp => ?_⟩)) (fun q => run_next ?_))
      · refine et_or ((et_test (ev_empT (f := id) (xs := lot.map PyData.int) (ev_var rfl) ev_tup0)).to (by rw [List.isEmpty_map]; rfl)) (fun _ => et_or ((et_test (ev_in_tN (ev_var rfl) (ev_var rfl) (nc_small (by omega)) (nc_lot hfew))).to (in_lot lot a)) (fun _ => et_or ((et_test (ev_in_tN (ev_var rfl) (ev_var rfl) (nc_small (by omega)) (nc_lot hfew))).to (in_lot lot b)) (fun _ => (et_test (ev_empL (f := id) (xs := (othersI n a b lot).map PyData.int) (ev_var rfl) (el_frz el_lst0))).to (by rw [List.isEmpty_map]; rfl))))
      · obtain ⟨⟨h3, h4, h5, h6⟩, _⟩ := (isPar_is hab hlot).mp hp
        rw [decide_eq_false h4, decide_eq_false h5] at q
        rw [Bool.or_eq_true, Bool.false_or, Bool.false_or, List.isEmpty_iff, List.isEmpty_iff] at q
        exact (q.elim h3 h6).elim
      rw [Bool.or_eq_false_iff, Bool.or_eq_false_iff, Bool.or_eq_false_iff, decide_eq_false_iff_not, decide_eq_false_iff_not, List.isEmpty_eq_false_iff, List.isEmpty_eq_false_iff] at q
      refine run_retD (d := .bool (!lot.any fun j => (othersI n a b lot).any fun o => tiedB rods j o)) (ev_notV (ev_anyM (as := lot) (g := fun j => (othersI n a b lot).any fun o => tiedB rods j o) (el_frz (el_lc1M (as := lot) (en := PyData.int) (l := fun j => [(6, .int j)]) (f := fun j => .bool ((othersI n a b lot).any fun o => tiedB rods j o)) (ei_t (ev_var rfl)) (fun _ _ => tg_name) (fun _ _ => rfl) (fun j hj => ?_) (by omega))))) (parV_eq ?_)
      · refine ev_anyM (as := othersI n a b lot) (g := fun o => tiedB rods j o) (el_frz (el_lc1M (as := othersI n a b lot) (en := PyData.int) (l := fun o => [(7, .int o)]) (f := fun o => .bool (tiedB rods j o)) (ei_l (ev_var rfl)) (fun _ _ => tg_name) (fun _ _ => rfl) (fun o ho => ?_) (by omega)))
        have hj1 := hfew.sm j hj
        have ho1 := mem_others ho
        have c3 : R_are_tied M [.dat (encF n rods), .dat (.int j), .dat (.int o)] (fun w => w = .bool (tiedB rods j o)) := ⟨n, rods, j, o, rfl, h, hj1, by omega, rfl⟩
        exact ev_call (ea_cons (ev_var rfl) (ea_cons (ev_var rfl) (ea_cons (ev_var rfl) ea_nil))) rfl c3
      · rw [isPar_is hab hlot, Bool.not_eq_true', List.any_eq_false]
        constructor
        · intro hh
          refine ⟨⟨q.1, q.2.1, q.2.2.1, q.2.2.2⟩, fun j hj o ho => ?_⟩
          have := hh j hj
          rw [Bool.not_eq_true, List.any_eq_false] at this
          exact Bool.eq_false_iff.mpr (this o ho)
        · rintro ⟨_, hh⟩ j hj
          rw [Bool.not_eq_true, List.any_eq_false]
          intro o ho
          exact Bool.eq_false_iff.mp (hh j hj o ho)
    · refine run_seq (run_ifD (b := true) ?_ (fun _ => run_retD (d := .bool false) ev_bl (parV_eq ⟨(fun q => by cases q), fun hp => absurd hp (isPar_3 hl)⟩)) (fun h => by cases h))
      refine et_orR ((et_not (et_B (ev_isi (.inr (.inr (.inl rfl))) (ev_var rfl)))).to (by rw [ht]; rfl)) ((et_test (ev_neI2 (ev_len_t (ev_var rfl)) ev_int)).to ?_)
      rw [decide_eq_false (by omega)]
      rfl
  · refine run_seq (run_ifD (b := true) ?_ (fun _ => run_retD (d := .bool false) ev_bl (parV_eq ⟨(fun q => by cases q), ?_⟩)) (fun h => by cases h))
    · exact et_orT ((et_not (et_B (ev_isi (.inr (.inr (.inl rfl))) (ev_var rfl)))).to (by rw [ht]; rfl))
    · rintro ⟨a, b, lot, e, _⟩
      exact absurd e (hno _)
theorem G__law_is_parter (T : Txt K mg a d) : FnG P w K mg base CX0 2 (a 22) (d 22) ["frame", "value"] (spOf 2 R__law_is_parter) := by
  refine fn_run T.F__law_is_parter sc__law_is_parter rfl (fun cdv A outer s H E hgu hr => ?_)
  have hgu := hgu_of hgu (env := PyProof.Rows.envOfC "_law_is_parter" (defScope s__law_is_parter) s.heap.objs.size (a 22) cdv)
  have hu64 := hr.units; have hu65 := hu65_of hr; have hrep := hrep_of hr; have hu1 := hu_of hr
  refine ⟨_, (pss_cons (ps_set (i := 2) sc__law_is_parter.nd rfl (Or.inl rfl) (pe_ix (k_ix K) (pv 0) pe_int (fun _ _ => rfl)))
      (pss_cons (ps_if (PW.pt (pw_or (pt_not (pt_val (pe_callB (kc_isi K) (by rfl) T.z_isinstance (by decide +kernel) (pa_cons (pv 1) (pa_cons (pe_bltn (v := .ty "tuple") (u := .type "tuple") (by rfl) T.z_tuple (by decide +kernel) rfl) pa_nil))))) (pw_or (pt_cmpR (k_ne K hu64) (pe_callB (kc_len K) (by rfl) T.z_len (by decide +kernel) (pa_cons (pv 1) pa_nil)) pe_int (by rfl)) (pw_or (pt_not (pt_val (pe_callG (G__law_is_lot T) hgu (hr.mono (by decide)) (by rfl) T.g__law_is_lot T.F__law_is_lot.kp T.b__law_is_lot .nil pass0 (pa_cons (pe_slice (k_sl K) (pv 1) po_none (po_some pe_int)) (pa_cons (pv 2) pa_nil))))) (pw_or1 (pt_not (pt_val (pe_callG (G__law_is_lot T) hgu (hr.mono (by decide)) (by rfl) T.g__law_is_lot T.F__law_is_lot.kp T.b__law_is_lot .nil pass0 (pa_cons (pe_ix (k_ix K) (pv 1) pe_int (fun _ _ => rfl)) (pa_cons (pv 2) pa_nil)))))))))) (pss_one (ps_ret pe_bl)) pss_nil)
      (pss_cons (ps_asg (pv 1) (pg_tup rfl (pgs_cons (pg_name (i := 3) sc__law_is_parter.nd rfl (Or.inr rfl)) (pgs_cons (pg_name (i := 4) sc__law_is_parter.nd rfl (Or.inr rfl)) (pgs_cons (pg_name (i := 5) sc__law_is_parter.nd rfl (Or.inr rfl)) pgs_nil)))))
      (pss_cons (ps_set (i := 6) sc__law_is_parter.nd rfl (Or.inr rfl) (pe_lc (own := [("joint", 7)]) (g := (gName 7)) rfl sc__law_is_parter.nd (pi_range1 (by rfl) T.z_range (pa_cons (pv 2) pa_nil)) (blkOk_by (N := ["frame", "value", "n", "a", "b", "lot", "rest", "joint", "other"]) (sc := defScope s__law_is_parter) (by decide +kernel)) (fun _ _ _ _ _ => (pg_name (i := 7) sc__law_is_parter.nd rfl (Or.inl rfl))) (fun _ _ _ _ _ => (pts_one (PW.pt (pw_and (pt_cmpR (k_notIn K hu65) (pv 7) (pe_tup (pa_cons (pv 3) (pa_cons (pv 4) pa_nil))) (by rfl)) (pw_and1 (pt_cmpR (k_notIn K hu65) (pv 7) (pv 5) (by rfl))))))) (fun _ _ _ _ _ => (pv 7))))
      (pss_cons (ps_if (PW.pt (pw_or (pt_cmpR (op_eqE hu64) (pv 5) (pe_tup pa_nil) (by rfl)) (pw_or (pt_cmpR (k_in K hu65) (pv 3) (pv 5) (by rfl)) (pw_or (pt_cmpR (k_in K hu65) (pv 4) (pv 5) (by rfl)) (pw_or1 (pt_cmpR (op_eqE hu64) (pv 6) (pe_lst pa_nil) (by rfl))))))) (pss_one (ps_ret pe_bl)) pss_nil)
      (pss_one (ps_ret (pe_cmpR (op_eqE hu64) (pe_lc (own := [("joint", 7)]) (g := (gName 7)) rfl sc__law_is_parter.nd (kpi_seq K (pv 5)) (blkOk_by (N := ["frame", "value", "n", "a", "b", "lot", "rest", "joint", "other"]) (sc := defScope s__law_is_parter) (by decide +kernel)) (fun _ _ _ _ _ => (pg_name (i := 7) sc__law_is_parter.nd rfl (Or.inr rfl))) (fun _ _ _ _ _ => (pts_one (pt_cmpR (op_neE hu64) (pe_lc (own := [("other", 8)]) (g := (gName 8)) rfl sc__law_is_parter.nd (kpi_seq K (pv 6)) (blkOk_by (by exact rfl)) (fun _ _ _ _ _ => (pg_name (i := 8) sc__law_is_parter.nd rfl (Or.inl rfl))) (fun _ _ _ _ _ => (pts_one (pt_val (pe_callG (G__law_tied T) hgu (hr.mono (by decide)) (by rfl) T.g__law_tied T.F__law_tied.kp T.b__law_tied .nil pass0 (pa_cons (pv 0) (pa_cons (pv 7) (pa_cons (pv 8) pa_nil))))))) (fun _ _ _ _ _ => (pv 8))) (pe_lst pa_nil) (by rfl)))) (fun _ _ _ _ _ => (pv 7))) (pe_lst pa_nil) (by rfl))))))))), fun M bs Q hR hl => ?_⟩
  obtain ⟨n, rods, v, rfl, h, hv, rfl⟩ := hR
  have hn := h.n2
  have nR := nc_rods h
  refine run_seq (run_setD (d := .int (n : Int)) (ev_ix_t (xs := [PyData.int (n : Int), encPs rods]) (i := 0) (ev_var rfl) ev_int rfl) ?_)
  show Pu.Run M _ [.dat (encF n rods), .dat v, .dat (.int (n : Int)), .no, .no, .no, .no, .no, .no] _
  rcases isT_tup v with ⟨ht, xs, rfl⟩ | ⟨ht, hno⟩
  · by_cases hl : xs.length = 3
    · obtain ⟨x, y, z, rfl⟩ := three_of hl
      have hx := (hc_in hv).2 x (by simp)
      have hy := (hc_in hv).2 y (by simp)
      have hz := (hc_in hv).2 z (by simp)
      have c1 : R__law_is_lot M [.dat (.tuple [x, y]), .dat (.int (n : Int))] (fun w => w = .bool (lotD (.tuple [x, y]) n)) := ⟨_, _, rfl, Hc.tup (by show 2 ≤ 24; decide) (fun d hd => by
        rcases List.mem_cons.mp hd with rfl | hd
        · exact hx
        · rw [List.mem_singleton.mp hd]
          exact hy), rfl⟩
      have c2 : R__law_is_lot M [.dat z, .dat (.int (n : Int))] (fun w => w = .bool (lotD z n)) := ⟨_, _, rfl, hz.mono (by decide), rfl⟩
      refine run_seq (run_ifD (b := !lotD (.tuple [x, y]) n || !lotD z n) ?_ (fun q => run_retD (d := .bool false) ev_bl (parV_eq ⟨(fun q => by cases q), fun hp => ?_⟩)) (fun q => run_next ?_))
      · refine et_orR ((et_not (et_B (ev_isi (.inr (.inr (.inl rfl))) (ev_var rfl)))).to (by rw [ht]; rfl)) (et_orR ((et_test (ev_neI2 (ev_len_t (ev_var rfl)) ev_int)).to rfl) ?_)
        refine et_or (et_not (et_B (ev_call (ea_cons ((ev_sl_t (lo := none) (hi := some 2) (xs := [x, y, z]) (ev_var rfl) eo_none (eo_some ev_int)).to rfl) (ea_cons (ev_var rfl) ea_nil)) rfl c1))) (fun _ => et_not (et_B (ev_call (ea_cons (ev_ix_t (xs := [x, y, z]) (i := 2) (ev_var rfl) ev_int rfl) (ea_cons (ev_var rfl) ea_nil)) rfl c2)))
      · obtain ⟨q1, q2⟩ := isPar_in hp
        rw [q1, q2] at q
        cases q
      rw [Bool.or_eq_false_iff, Bool.not_eq_false', Bool.not_eq_false', lotD_iff, lotD_iff] at q
      obtain ⟨⟨is, e, hab⟩, lot, rfl, hlot⟩ := q
      clear c1 c2 hx hy hz hv ht
      obtain ⟨a, b, rfl, rfl, rfl⟩ : ∃ a b : Int, is = [a, b] ∧ x = .int a ∧ y = .int b := by
        have e := PyData.tuple.inj e
        cases is with
        | nil => cases e
        | cons a is => cases is with
          | nil => cases e
          | cons b is => cases is with
            | nil =>
              injection e with e1 e
              injection e with e2 _
              exact ⟨a, b, rfl, e1, e2⟩
            | cons c is => cases e
      have ha := hab.1 a (by simp)
      have hb := hab.1 b (by simp)
      have hfew := rise_few hn hlot
      have hll := hfew.len
      have hol := others_len (n := n) (a := a) (b := b) (lot := lot)
      refine run_seq (run_asgD (d := .tuple [.int a, .int b, encI lot]) (ev_var rfl) (tg_tup rfl (tgs_cons tg_name (tgs_cons tg_name (tgs_cons tg_name tgs_nil)))) ?_)
      have hf2 : Few [a, b] := ⟨by show 2 ≤ 24; decide, fun i hi => by
        have := hab.1 i hi
        omega⟩
      refine run_seq (run_setD (d := .list ((othersI n a b lot).map PyData.int)) (el_frz (EvN.imp (el_lcM (as := List.range n) (en := fun i : Nat => PyData.int (i : Int)) (l := fun i => [(7, .int (i : Int))]) (p := fun i : Nat => !decide ((i : Int) ∈ [a, b]) && !decide ((i : Int) ∈ lot)) (f := fun i : Nat => .int (i : Int)) (ei_r1M (j := (n : Int)) (ev_var rfl) (by omega)) (fun _ _ => tg_name) (fun _ _ => rfl) (fun i hi => ?_) (fun _ _ _ => ev_var rfl) (by rw [List.length_range]; omega)) (fun ds e => e.trans (others_of n a b lot)))) ?_)
      · have hi := List.mem_range.mp hi
        exact et_and ((et_test (ev_ni_tN (ev_var rfl) (ev_tup2 (ev_var rfl) (ev_var rfl)) (nc_small (by omega)) (nc_lot hf2))).to (by rw [← in_lot]; rfl)) (fun _ => (et_test (ev_ni_tN (ev_var rfl) (ev_var rfl) (nc_small (by omega)) (nc_lot hfew))).to (by rw [in_lot]))
      show Pu.Run M _ [.dat (encF n rods), .dat (.tuple [.int a, .int b, encI lot]), .dat (.int (n : Int)), .dat (.int a), .dat (.int b), .dat (encI lot), .dat (.list ((othersI n a b lot).map PyData.int)), .no, .no] _
      refine run_seq (run_ifD (b := lot.isEmpty || (decide (a ∈ lot) || (decide (b ∈ lot) || (othersI n a b lot).isEmpty))) ?_ (fun q => run_retD (d := .bool false) ev_bl (parV_eq ⟨(fun q => by cases q), fun hp => ?_⟩)) (fun q => run_next ?_))
      · refine et_or ((et_test (ev_empT (f := id) (xs := lot.map PyData.int) (ev_var rfl) ev_tup0)).to (by rw [List.isEmpty_map]; rfl)) (fun _ => et_or ((et_test (ev_in_tN (ev_var rfl) (ev_var rfl) (nc_small (by omega)) (nc_lot hfew))).to (in_lot lot a)) (fun _ => et_or ((et_test (ev_in_tN (ev_var rfl) (ev_var rfl) (nc_small (by omega)) (nc_lot hfew))).to (in_lot lot b)) (fun _ => (et_test (ev_empL (f := id) (xs := (othersI n a b lot).map PyData.int) (ev_var rfl) (el_frz el_lst0))).to (by rw [List.isEmpty_map]; rfl))))
      · obtain ⟨⟨h3, h4, h5, h6⟩, _⟩ := (isPar_is hab hlot).mp hp
        rw [decide_eq_false h4, decide_eq_false h5] at q
        rw [Bool.or_eq_true, Bool.false_or, Bool.false_or, List.isEmpty_iff, List.isEmpty_iff] at q
        exact (q.elim h3 h6).elim
      rw [Bool.or_eq_false_iff, Bool.or_eq_false_iff, Bool.or_eq_false_iff, decide_eq_false_iff_not, decide_eq_false_iff_not, List.isEmpty_eq_false_iff, List.isEmpty_eq_false_iff] at q
      refine run_retD ((ev_empL (f := id) (el_frz (el_lcM (as := lot) (en := PyData.int) (l := fun j => [(7, .int j)]) (p := fun j => !((othersI n a b lot).all fun o => !tiedB rods j o)) (f := PyData.int) (ei_t (ev_var rfl)) (fun _ _ => tg_name) (fun _ _ => rfl) (fun j hj => ?_) (fun _ _ _ => ev_var rfl) (by omega))) (el_frz el_lst0))) (parV_eq ?_)
      · refine (et_test (ev_empL (f := not) (el_frz (el_lcM (as := othersI n a b lot) (en := PyData.int) (l := fun o => [(8, .int o)]) (p := fun o => tiedB rods j o) (f := PyData.int) (ei_l (ev_var rfl)) (fun _ _ => tg_name) (fun _ _ => rfl) (fun o ho => ?_) (fun _ _ _ => ev_var rfl) (by omega))) (el_frz el_lst0))).to (by rw [filt_emp])
        have hj1 := hfew.sm j hj
        have ho1 := mem_others ho
        have c3 : R__law_tied M [.dat (encF n rods), .dat (.int j), .dat (.int o)] (fun w => w = .bool (tiedB rods j o)) := ⟨n, rods, j, o, rfl, h, hj1, by omega, rfl⟩
        exact et_B (ev_call (ea_cons (ev_var rfl) (ea_cons (ev_var rfl) (ea_cons (ev_var rfl) ea_nil))) rfl c3)
      · rw [isPar_is hab hlot, filt_emp]
        simp only [Bool.not_not, id, List.all_eq_true, Bool.not_eq_true']
        exact ⟨fun hh => ⟨⟨q.1, q.2.1, q.2.2.1, q.2.2.2⟩, hh⟩, fun hh => hh.2⟩
    · refine run_seq (run_ifD (b := true) ?_ (fun _ => run_retD (d := .bool false) ev_bl (parV_eq ⟨(fun q => by cases q), fun hp => absurd hp (isPar_3 hl)⟩)) (fun h => by cases h))
      refine et_orR ((et_not (et_B (ev_isi (.inr (.inr (.inl rfl))) (ev_var rfl)))).to (by rw [ht]; rfl)) (et_orT ((et_test (ev_neI2 (ev_len_t (ev_var rfl)) ev_int)).to ?_))
      rw [decide_eq_false (by omega)]
      rfl
  · refine run_seq (run_ifD (b := true) ?_ (fun _ => run_retD (d := .bool false) ev_bl (parV_eq ⟨(fun q => by cases q), ?_⟩)) (fun h => by cases h))
    · exact et_orT ((et_not (et_B (ev_isi (.inr (.inr (.inl rfl))) (ev_var rfl)))).to (by rw [ht]; rfl))
    · rintro ⟨a, b, lot, e, _⟩
      exact absurd e (hno _)
end
end K53

namespace K53
open PySem L2 Pu
local macro_rules | `(tactic| walk_at "pr") => `(tactic| first | with_reducible assumption | ((with_reducible apply Nb.up); (walk_at "nb"); decide) | omega | ((with_reducible apply_assumption) <;> with_reducible assumption) | ((with_reducible apply is_eq); first | exact atI_map (by with_reducible assumption) | exact rfl) | ((simp only [List.length_cons, List.length_nil]) <;> omega) | exact Or.inl rfl | exact Or.inr (Or.inl rfl) | exact Or.inr (Or.inr (Or.inl rfl)) | exact Or.inr (Or.inr (Or.inr (Or.inl rfl))) | exact Or.inr (Or.inr (Or.inr (Or.inr (Or.inl rfl)))) | exact Or.inr (Or.inr (Or.inr (Or.inr (Or.inr rfl)))) | (fail_if_success (with_reducible apply is_at)))
local macro_rules | `(tactic| walk_at "sd") => `(tactic| first | ((with_reducible refine is_pr ?_); walk_at "pr") | (fail_if_success (with_reducible refine is_pr ?_)))
local macro_rules | `(tactic| walk_at "cl") => `(tactic| first | ((with_reducible apply_assumption) <;> with_reducible assumption) | fail)
local macro_rules | `(tactic| walk_at "no") => `(tactic| (fail_if_success (first | with_reducible apply is_evp | with_reducible apply is_evn | with_reducible apply is_evb | with_reducible apply is_evi | with_reducible apply is_eva | with_reducible apply is_evas | with_reducible apply is_evo | with_reducible apply is_tg | with_reducible apply is_tgs)))
local macro_rules | `(tactic| walk_at "wk") => `(tactic| first | exact Wk.nil | (apply Wk.same; walk_at "wk") | (apply Wk.no; walk_at "wk"))
local macro_rules | `(tactic| walk_at "nb") => `(tactic| first | with_reducible assumption | exact Nb.two | exact Nb.one | exact Nb.zero | ((with_reducible apply Nb.mul) <;> walk_at "nb") | ((with_reducible apply Nb.add) <;> walk_at "nb") | ((with_reducible apply Nb.sub) <;> walk_at "nb") | ((with_reducible apply Nb.neg) <;> walk_at "nb"))
local macro_rules | `(tactic| walk_at "bd") => `(tactic| first | ((with_reducible intro _); walk_at "bd") | ((with_reducible apply EvT.to) <;> walk_at "ev") | ((with_reducible apply EvD.to) <;> walk_at "ev") | walk_at "ev")
local macro_rules | `(tactic| walk_at "ev") => `(tactic| first
  | with_reducible exact ev_int | with_reducible exact ev_bl | with_reducible exact ev_str | with_reducible exact ev_non
  | ((with_reducible apply ev_var); exact rfl)
  | ((with_reducible apply ev_addI) <;> walk_at "ev")
  | ((with_reducible apply ev_sub) <;> walk_at "ev")
  | ((with_reducible apply ev_mulW) <;> walk_at "ev")
  | ((with_reducible apply ev_mod) <;> walk_at "ev")
  | ((with_reducible apply ev_fdiv) <;> walk_at "ev")
  | ((with_reducible apply ev_sqW) <;> walk_at "ev")
  | ((with_reducible apply ev_neg) <;> walk_at "ev")
  | ((with_reducible apply ev_abs) <;> walk_at "ev")
  | ((with_reducible apply ev_max2) <;> walk_at "ev")
  | ((with_reducible apply ev_min2) <;> walk_at "ev")
  | ((with_reducible apply ev_lt) <;> walk_at "ev")
  | ((with_reducible apply ev_le) <;> walk_at "ev")
  | ((with_reducible apply ev_gt) <;> walk_at "ev")
  | ((with_reducible apply ev_ge) <;> walk_at "ev")
  | ((with_reducible apply ev_eqI2) <;> walk_at "ev")
  | ((with_reducible apply ev_neI2) <;> walk_at "ev")
  | ((with_reducible apply ev_neS2) <;> walk_at "ev")
  | ((with_reducible apply ev_eqS2) <;> walk_at "ev")
  | ((with_reducible apply ev_eqN) <;> walk_at "ev")
  | ((with_reducible apply ev_neN) <;> walk_at "ev")
  | ((with_reducible apply ev_in_lN) <;> walk_at "ev")
  | ((with_reducible apply ev_in_tN) <;> walk_at "ev")
  | ((with_reducible apply ev_ni_lN) <;> walk_at "ev")
  | ((with_reducible apply ev_ni_tN) <;> walk_at "ev")
  | ((with_reducible apply ev_reprN) <;> walk_at "ev")
  | ((with_reducible apply ev_isN) <;> walk_at "ev")
  | ((with_reducible apply ev_notN) <;> walk_at "ev")
  | ((with_reducible apply ev_andV) <;> walk_at "ev")
  | ((with_reducible apply ev_orV) <;> walk_at "ev")
  | ((with_reducible apply ev_notV) <;> walk_at "ev")
  | ((with_reducible apply ev_if) <;> walk_at "ev")
  | ((with_reducible apply ev_ix_t) <;> walk_at "ev")
  | ((with_reducible apply ev_ix_l) <;> walk_at "ev")
  | ((with_reducible apply ev_len_t) <;> walk_at "ev")
  | ((with_reducible apply ev_len_l) <;> walk_at "ev")
  | ((with_reducible apply ev_tuple_l) <;> walk_at "ev")
  | ((with_reducible apply ev_tuple_t) <;> walk_at "ev")
  | ((with_reducible apply ev_isi) <;> walk_at "ev")
  | ((with_reducible apply ev_addTM) <;> walk_at "ev")
  | ((with_reducible apply ev_tup0) <;> walk_at "ev")
  | ((with_reducible apply ev_tup1) <;> walk_at "ev")
  | ((with_reducible apply ev_tup2) <;> walk_at "ev")
  | ((with_reducible apply ev_tupM) <;> walk_at "ev")
  | ((with_reducible apply ev_any) <;> walk_at "ev")
  | ((with_reducible apply ev_all) <;> walk_at "ev")
  | ((with_reducible apply ev_sum) <;> walk_at "ev")
  | ((with_reducible apply ev_int1) <;> walk_at "ev")
  | ((with_reducible apply ev_intb) <;> walk_at "ev")
  | ((with_reducible apply ev_call) <;> walk_at "ev")
  | ((with_reducible apply ev_chain) <;> walk_at "ev")
  | ((with_reducible apply ev_chain3) <;> walk_at "ev")
  | ((with_reducible apply ev_empL) <;> walk_at "ev")
  | ((with_reducible apply ev_empT) <;> walk_at "ev")
  | ((with_reducible apply ev_dict0) <;> walk_at "ev")
  | ((with_reducible apply ev_sl_t) <;> walk_at "ev")
  | ((with_reducible apply ev_rev_t) <;> walk_at "ev")
  | ((with_reducible apply el_frz) <;> walk_at "ev")
  | ((with_reducible apply el_lst0) <;> walk_at "ev")
  | ((with_reducible apply el_lst1) <;> walk_at "ev")
  | ((with_reducible apply el_lst2) <;> walk_at "ev")
  | ((with_reducible apply el_lst3) <;> walk_at "ev")
  | ((with_reducible apply el_lstM) <;> walk_at "ev")
  | ((with_reducible apply el_list_l) <;> walk_at "ev")
  | ((with_reducible apply el_list_t) <;> walk_at "ev")
  | ((with_reducible apply el_addLM) <;> walk_at "ev")
  | ((with_reducible apply el_mulLM) <;> walk_at "ev")
  | ((with_reducible apply el_lc1M) <;> walk_at "ev")
  | ((with_reducible apply el_lcM) <;> walk_at "ev")
  | ((with_reducible apply el_sl_l) <;> walk_at "ev")
  | ((with_reducible apply el_rev_l) <;> walk_at "ev")
  | ((with_reducible apply et_yes) <;> walk_at "ev")
  | ((with_reducible apply et_test) <;> walk_at "ev")
  | ((with_reducible apply et_B) <;> walk_at "ev")
  | ((with_reducible apply et_not) <;> walk_at "ev")
  | ((with_reducible apply et_and) <;> walk_at "ev")
  | ((with_reducible apply et_or) <;> walk_at "ev")
  | ((with_reducible apply ei_t) <;> walk_at "ev")
  | ((with_reducible apply ei_l) <;> walk_at "ev")
  | ((with_reducible apply ei_r1M) <;> walk_at "ev")
  | ((with_reducible apply ei_r2M) <;> walk_at "ev")
  | ((with_reducible apply ei_en_t) <;> walk_at "ev")
  | ((with_reducible apply ei_en_l) <;> walk_at "ev")
  | ((with_reducible apply ea_nil) <;> walk_at "ev")
  | ((with_reducible apply ea_cons) <;> walk_at "ev")
  | ((with_reducible apply EvAs.nil) <;> walk_at "ev")
  | ((with_reducible apply EvAs.cons) <;> walk_at "ev")
  | ((with_reducible apply eo_none) <;> walk_at "ev")
  | ((with_reducible apply eo_some) <;> walk_at "ev")
  | ((with_reducible apply tg_name) <;> walk_at "ev")
  | ((with_reducible apply tg_tup) <;> walk_at "ev")
  | ((with_reducible apply tgs_nil) <;> walk_at "ev")
  | ((with_reducible apply tgs_cons) <;> walk_at "ev")
  | ((with_reducible apply r2_lt) <;> walk_at "ev")
  | ((with_reducible apply r2_le) <;> walk_at "ev")
  | ((with_reducible intro _); walk_at "bd")
  | walk_at "cl"
  | (walk_at "no"; walk_at "sd"))
local macro_rules | `(tactic| walk_at "hl") => `(tactic| first | decide | ((simp only [List.length_cons, List.length_nil, List.length_append, List.length_map, List.length_take, List.length_drop]) <;> omega))
local macro_rules | `(tactic| walk_at "ha") => `(tactic| first | exact hall0 | with_reducible assumption | ((with_reducible refine hallC ?_ ?_) <;> first | walk_at "ha" | walk_at "hc") | ((with_reducible refine hallA ?_ ?_) <;> walk_at "ha") | ((with_reducible refine hallM ?_); (with_reducible intro _ _); walk_at "hc"))
local macro_rules | `(tactic| walk_at "hc") => `(tactic| first
  | with_reducible assumption | exact Hc.non | exact Hc.bool
  | ((with_reducible refine Hc.int ?_); first | with_reducible assumption | (unfold Nb; omega))
  | ((with_reducible apply_assumption) <;> with_reducible assumption)
  | ((with_reducible refine Hc.str ?_); exact Nc.str (by decide +kernel) (by decide +kernel))
  | ((with_reducible refine Hc.tup ?_ ?_); (walk_at "hl"); (walk_at "ha"))
  | ((with_reducible refine Hc.lst ?_ ?_); (walk_at "hl"); (walk_at "ha")))
section
variable {P : Program} {w : World} {K : PySem.W.Frag} {mg : Str → Option Value} {base : Heap} {a : Nat → Addr} {d : Nat → FuncData}
theorem rods_sub {n : Nat} {rs : List (Int × Int)} (hn : 1 ≤ n ∧ n ≤ 24) (h : ∀ r ∈ rs, r ∈ pairsI n) (hl : rs.length ≤ 100) : Rods n rs := ⟨fun r hr => mem_pairs.mp (h r hr), hl, hn.1, hn.2⟩
theorem pairs_len8 {n : Nat} (hn : n ≤ 8) : (pairsI n).length ≤ 64 := by
  have := pairsTo_len n (n : Int).toNat
  have h2 : (n : Int).toNat * (n : Int).toNat ≤ 8 * 8 := Nat.mul_le_mul (by omega) (by omega)
  unfold pairsI
  omega
/-- rods of a frame that grows -/
structure Gro (m : Nat) (rs : List (Int × Int)) : Prop where
  ok : ∀ r ∈ rs, 0 ≤ r.1 ∧ r.1 < r.2 ∧ r.2 < m
  le : rs.length ≤ 60
  ne : rs ≠ []
theorem nc_Ps {n : Nat} {rs : List (Int × Int)} (hl : rs.length ≤ 100) (hn : n ≤ 24) (h : ∀ r ∈ rs, 0 ≤ r.1 ∧ r.1 < r.2 ∧ r.2 < n) : NC (.list (rs.map encP)) := NC.list (n := 1) (m := 97) 100 (by rw [List.length_map]; exact hl) (fun d hd => by
  obtain ⟨r, hr, rfl⟩ := List.mem_map.mp hd
  have := h r hr
  exact (nc_encP (k := 4) (p := r) ⟨nb_small (by omega), nb_small (by omega)⟩ (by decide)).mono (by decide) (by decide)) (by decide) (by decide)
theorem perm_natsI {n : Nat} {es : List PyData} (h : es.Perm ((List.range n).map fun i : Nat => PyData.int (i : Int))) : ∃ is : List Int, es = is.map .int ∧ is.length = n ∧ is.Nodup ∧ ∀ i ∈ is, 0 ≤ i ∧ i < n := by
  have e : ((List.range n).map fun i : Nat => PyData.int (i : Int)) = (natsI (List.range n)).map PyData.int := by rw [natsI_map]
  rw [e] at h
  obtain ⟨js, rfl, hp⟩ := perm_ints h
  refine ⟨js, rfl, ?_, ?_, fun i hi => ?_⟩
  · rw [hp.length_eq, List.length_map, List.length_range]
  · refine hp.nodup_iff.mpr (nodup_up ?_)
    unfold natsI
    rw [List.pairwise_map]
    exact List.pairwise_lt_range.imp fun h => by omega
  · obtain ⟨k, hk, rfl⟩ := mem_natsI.mp (hp.mem_iff.mp hi)
    have := List.mem_range.mp hk
    omega
theorem gI_ne {is : List Int} (hd : is.Nodup) {a b : Int} (ha : 0 ≤ a) (hab : a < b) (hb : b < is.length) : gI is a ≠ gI is b := by
  obtain ⟨i, rfl⟩ := Int.eq_ofNat_of_zero_le ha
  obtain ⟨j, rfl⟩ := Int.eq_ofNat_of_zero_le (show 0 ≤ b by omega)
  have hi : i < is.length := by omega
  have hj : j < is.length := by omega
  rw [gI_get (List.getElem?_eq_getElem hi), gI_get (List.getElem?_eq_getElem hj)]
  intro e
  exact List.pairwise_iff_getElem.mp hd i j hi hj (by omega) e
theorem gI_mem {is : List Int} {a : Int} (ha : 0 ≤ a) (hb : a < is.length) : gI is a ∈ is := by
  obtain ⟨i, rfl⟩ := Int.eq_ofNat_of_zero_le ha
  have hi : i < is.length := by omega
  rw [gI_get (List.getElem?_eq_getElem hi)]
  exact List.getElem_mem hi
theorem rest_some {m : Nat} (hm : 3 ≤ m) (a b : Int) : 1 ≤ (restI m [a, b]).length := by
  have : ∃ i : Int, (i = 0 ∨ i = 1 ∨ i = 2) ∧ i ≠ a ∧ i ≠ b := by
    by_cases h0 : (0 : Int) ≠ a ∧ (0 : Int) ≠ b
    · exact ⟨0, .inl rfl, h0⟩
    · by_cases h1 : (1 : Int) ≠ a ∧ (1 : Int) ≠ b
      · exact ⟨1, .inr (.inl rfl), h1⟩
      · exact ⟨2, .inr (.inr rfl), by omega, by omega⟩
  obtain ⟨i, hi, h1, h2⟩ := this
  have hm : i ∈ restI m [a, b] := mem_rest.mpr ⟨by omega, fun h => by
    rcases List.mem_cons.mp h with h | h
    · exact h1 h
    · exact h2 (List.mem_singleton.mp h)⟩
  exact List.length_pos_of_mem hm
theorem pairs_up {m : Nat} {r : Int × Int} (h : 0 ≤ r.1 ∧ r.1 < r.2 ∧ r.2 < (m : Int)) : 0 ≤ r.1 ∧ r.1 < r.2 ∧ r.2 < ((m + 1 : Nat) : Int) := by omega
theorem G__law_rod (T : Txt K mg a d) : FnG P w K mg base CX0 1 (a 18) (d 18) ["a", "b"] (spOf 2 R__law_rod) := by
  refine fn_run T.F__law_rod sc__law_rod rfl (fun cdv A outer s H E hgu hr => ?_)
  have hgu := hgu_of hgu (env := PyProof.Rows.envOfC "_law_rod" (defScope s__law_rod) s.heap.objs.size (a 18) cdv)
  have hu64 := hr.units; have hu65 := hu65_of hr; have hrep := hrep_of hr; have hu1 := hu_of hr
  refine ⟨_, (pss_one (ps_ret (pe_tup (pa_cons (pe_callB (c_min2 rfl) (by rfl) T.z_min (by decide +kernel) (pa_cons (pv 0) (pa_cons (pv 1) pa_nil))) (pa_cons (pe_callB (c_max2 rfl) (by rfl) T.z_max (by decide +kernel) (pa_cons (pv 0) (pa_cons (pv 1) pa_nil))) pa_nil))))), fun M bs Q hR hl => ?_⟩
  obtain ⟨a, b, rfl, rfl⟩ := hR
  refine run_retD (d := encP (swP a b)) (ev_tup2 ((ev_min2 (ev_var rfl) (ev_var rfl)).to ?_) ((ev_max2 (ev_var rfl) (ev_var rfl)).to ?_)) rfl
  · congr 1
    unfold swP
    simp only
    split <;> omega
  · congr 1
    unfold swP
    simp only
    split <;> omega
theorem G__law_frame (T : Txt K mg a d) : FnG P w K mg base CX0 3 (a 14) (d 14) ["source", "least", "most"] (spOf 3 R__law_frame) := by
  refine fn_run T.F__law_frame sc__law_frame rfl (fun cdv A outer s H E hgu hr => ?_)
  have hgu := hgu_of hgu (env := PyProof.Rows.envOfC "_law_frame" (defScope s__law_frame) s.heap.objs.size (a 14) cdv)
  have hu64 := hr.units; have hu65 := hu65_of hr; have hrep := hrep_of hr; have hu1 := hu_of hr
  refine ⟨_, (pss_cons (ps_asg (pe_tup (pa_cons (pe_op (k_add K) (pv 1) (pe_callG (G__law_pick T) hgu (hr.mono (by decide)) (by rfl) T.g__law_pick T.F__law_pick.kp T.b__law_pick .nil pass0 (pa_cons (pv 0) (pa_cons (pe_op (k_add K) (pe_op op_sub (pv 2) (pv 1)) pe_int) pa_nil)))) (pa_cons (pe_callG (G__law_of T) hgu (hr.mono (by decide)) (by rfl) T.g__law_of T.F__law_of.kp T.b__law_of .nil pass0 (pa_cons (pv 0) (pa_cons (pe_lst (pa_cons pe_int (pa_cons pe_int (pa_cons pe_int (pa_cons pe_int (pa_cons pe_int pa_nil)))))) pa_nil))) pa_nil))) (pg_tup rfl (pgs_cons (pg_name (i := 3) sc__law_frame.nd rfl (Or.inl rfl)) (pgs_cons (pg_name (i := 4) sc__law_frame.nd rfl (Or.inr rfl)) pgs_nil))))
      (pss_one (ps_ret (pe_tup (pa_cons (pv 3) (pa_cons (pe_callTy (kc_tuple K) (by rfl) T.z_tuple (by decide +kernel) (pa_cons (pe_lc (own := [("pair", 5)]) (g := (gName 5)) rfl sc__law_frame.nd (kpi_seq K (pe_callG (G__law_pairs T) hgu (hr.mono (by decide)) (by rfl) T.g__law_pairs T.F__law_pairs.kp T.b__law_pairs .nil pass0 (pa_cons (pv 3) pa_nil))) (blkOk_by (N := ["source", "least", "most", "n", "share", "pair"]) (sc := defScope s__law_frame) (by decide +kernel)) (fun _ _ _ _ _ => (pg_name (i := 5) sc__law_frame.nd rfl (Or.inl rfl))) (fun _ _ _ _ _ => (pts_one (pt_cmpR op_lt (pe_callG (G__law_pick T) hgu (hr.mono (by decide)) (by rfl) T.g__law_pick T.F__law_pick.kp T.b__law_pick .nil pass0 (pa_cons (pv 0) (pa_cons pe_int pa_nil))) (pv 4) (by rfl)))) (fun _ _ _ _ _ => (pv 5))) pa_nil)) pa_nil)))))), fun M bs Q hR hl => ?_⟩
  obtain ⟨hM, n, rfl, hn, rfl⟩ := hR
  obtain ⟨m, rfl⟩ := Int.eq_ofNat_of_zero_le (show 0 ≤ n by omega)
  have hpl := pairs_len8 (n := m) (by omega)
  have c0 : R__law_pairs M [.dat (.int (m : Int))] (fun w => w = .list ((pairsI m).map encP)) := ⟨m, rfl, by omega, by omega, rfl⟩
  refine run_seq (run_asg (P := fun w => ∃ sh : Int, w = .tuple [.int (m : Int), .int sh]) ((evp_tupQ (evq_cons (evp_addD (i := (m : Int)) (lo := 0) (hi := (m : Int) - m + 1) (ev_var rfl) (evp_pick hM rfl (ev_addI (ev_sub (ev_var rfl) (ev_var rfl)) ev_int) (by omega))) (evq_cons (evp_of hM rfl (el_frz (el_lstM (ds := [.int 1, .int 2, .int 3, .int 4, .int 5]) (EvAs.cons ev_int (EvAs.cons ev_int (EvAs.cons ev_int (EvAs.cons ev_int (EvAs.cons ev_int EvAs.nil))))) (by decide))) (by decide) (by decide)) evq_nil)) ?_).of_imp ?_) ?_)
  · rintro ds ⟨x1, xs1, rfl, h1, x2, xs2, rfl, h2, rfl⟩
    show 2 ≤ 1000000
    decide
  · rintro w ⟨ds, rfl, x1, xs1, rfl, ⟨i, rfl, i0, i1⟩, x2, xs2, rfl, h2, rfl⟩
    obtain rfl : i = (m : Int) := by omega
    rcases List.mem_cons.mp h2 with rfl | h2
    · exact ⟨_, rfl⟩
    rcases List.mem_cons.mp h2 with rfl | h2
    · exact ⟨_, rfl⟩
    rcases List.mem_cons.mp h2 with rfl | h2
    · exact ⟨_, rfl⟩
    rcases List.mem_cons.mp h2 with rfl | h2
    · exact ⟨_, rfl⟩
    rw [List.mem_singleton.mp h2]
    exact ⟨_, rfl⟩
  rintro w ⟨sh, rfl⟩
  refine ⟨_, tg_tup rfl (tgs_cons tg_name (tgs_cons tg_name tgs_nil)), ?_⟩
  refine run_ret (P := fun w => ∃ (m : Nat) (rods : List (Int × Int)), w = encF m rods ∧ Rods m rods ∧ (4 ≤ m ∧ m ≤ 8)) ((evp_tupQ (evq_cons (P1 := fun w => w = .int (m : Int)) (ev_var rfl) (evq_cons (evp_tuple (N := fun es => ∃ rs : List (Int × Int), es = rs.map encP ∧ rs.length ≤ 64 ∧ ∀ r ∈ rs, r ∈ pairsI m) (EvP.imp (EvN.frz (evn_lc (N := fun w => w = (pairsI m).map encP) (M := fun es => ∃ rs : List (Int × Int), es = rs.map encP ∧ rs.length ≤ 64 ∧ ∀ r ∈ rs, r ∈ pairsI m) (E := fun k d o => o = none ∨ o = some d) (ei_l (as := pairsI m) (en := encP) (ev_call (ea_cons (ev_var rfl) ea_nil) rfl c0)) ?_ ?_ ?_)) ?_)) evq_nil)) ?_).of_imp ?_) (fun d e => e)
  · rintro ds k dd rfl hd
    obtain ⟨p, hp, hpm, rfl⟩ := mem_of_dd hd
    exact ⟨_, tg_name, fun q hq => by rw [List.mem_singleton.mp hq]; exact List.mem_cons_self, fun _ => True, evb_any (evb_lt (lo := 0) (hi := 6) (evp_pick hM rfl ev_int (by decide)) (ev_var rfl)), fun _ => .inl rfl, fun _ => ⟨fun w => w = encP p, ev_var rfl, fun x hx => by rw [hx]; exact .inr rfl⟩⟩
  · rintro ds rfl
    rw [List.length_map]
    exact lt_line (by omega)
  · rintro ds es rfl hm
    obtain ⟨rs, e1, e2⟩ := unmap (made_sub (fun _ _ _ h => h) hm)
    have hle := hm.len
    subst e1
    rw [List.length_map, List.length_map] at hle
    exact ⟨rs, rfl, by omega, e2⟩
  · rintro d ⟨ds, rfl, h⟩
    exact ⟨ds, .inl rfl, h⟩
  · rintro ds ⟨x1, xs1, rfl, h1, x2, xs2, rfl, h2, rfl⟩
    show 2 ≤ 1000000
    decide
  · rintro w ⟨ds, rfl, x1, xs1, rfl, rfl, x2, xs2, rfl, ⟨es, rfl, rs, rfl, hl, hs⟩, rfl⟩
    exact ⟨m, rs, rfl, rods_sub (by omega) hs (by omega), by omega⟩
end
end K53

namespace K53
open PySem L2 Pu
local macro_rules | `(tactic| walk_at "pr") => `(tactic| first | with_reducible assumption | ((with_reducible apply Nb.up); (walk_at "nb"); decide) | omega | ((with_reducible apply_assumption) <;> with_reducible assumption) | ((with_reducible apply is_eq); first | exact atI_map (by with_reducible assumption) | exact rfl) | ((simp only [List.length_cons, List.length_nil]) <;> omega) | exact Or.inl rfl | exact Or.inr (Or.inl rfl) | exact Or.inr (Or.inr (Or.inl rfl)) | exact Or.inr (Or.inr (Or.inr (Or.inl rfl))) | exact Or.inr (Or.inr (Or.inr (Or.inr (Or.inl rfl)))) | exact Or.inr (Or.inr (Or.inr (Or.inr (Or.inr rfl)))) | (fail_if_success (with_reducible apply is_at)))
local macro_rules | `(tactic| walk_at "sd") => `(tactic| first | ((with_reducible refine is_pr ?_); walk_at "pr") | (fail_if_success (with_reducible refine is_pr ?_)))
local macro_rules | `(tactic| walk_at "cl") => `(tactic| first | ((with_reducible apply_assumption) <;> with_reducible assumption) | fail)
local macro_rules | `(tactic| walk_at "no") => `(tactic| (fail_if_success (first | with_reducible apply is_evp | with_reducible apply is_evn | with_reducible apply is_evb | with_reducible apply is_evi | with_reducible apply is_eva | with_reducible apply is_evas | with_reducible apply is_evo | with_reducible apply is_tg | with_reducible apply is_tgs)))
local macro_rules | `(tactic| walk_at "wk") => `(tactic| first | exact Wk.nil | (apply Wk.same; walk_at "wk") | (apply Wk.no; walk_at "wk"))
local macro_rules | `(tactic| walk_at "nb") => `(tactic| first | with_reducible assumption | exact Nb.two | exact Nb.one | exact Nb.zero | ((with_reducible apply Nb.mul) <;> walk_at "nb") | ((with_reducible apply Nb.add) <;> walk_at "nb") | ((with_reducible apply Nb.sub) <;> walk_at "nb") | ((with_reducible apply Nb.neg) <;> walk_at "nb"))
local macro_rules | `(tactic| walk_at "bd") => `(tactic| first | ((with_reducible intro _); walk_at "bd") | ((with_reducible apply EvT.to) <;> walk_at "ev") | ((with_reducible apply EvD.to) <;> walk_at "ev") | walk_at "ev")
local macro_rules | `(tactic| walk_at "ev") => `(tactic| first
  | with_reducible exact ev_int | with_reducible exact ev_bl | with_reducible exact ev_str | with_reducible exact ev_non
  | ((with_reducible apply ev_var); exact rfl)
  | ((with_reducible apply ev_addI) <;> walk_at "ev")
  | ((with_reducible apply ev_sub) <;> walk_at "ev")
  | ((with_reducible apply ev_mulW) <;> walk_at "ev")
  | ((with_reducible apply ev_mod) <;> walk_at "ev")
  | ((with_reducible apply ev_fdiv) <;> walk_at "ev")
  | ((with_reducible apply ev_sqW) <;> walk_at "ev")
  | ((with_reducible apply ev_neg) <;> walk_at "ev")
  | ((with_reducible apply ev_abs) <;> walk_at "ev")
  | ((with_reducible apply ev_max2) <;> walk_at "ev")
  | ((with_reducible apply ev_min2) <;> walk_at "ev")
  | ((with_reducible apply ev_lt) <;> walk_at "ev")
  | ((with_reducible apply ev_le) <;> walk_at "ev")
  | ((with_reducible apply ev_gt) <;> walk_at "ev")
  | ((with_reducible apply ev_ge) <;> walk_at "ev")
  | ((with_reducible apply ev_eqI2) <;> walk_at "ev")
  | ((with_reducible apply ev_neI2) <;> walk_at "ev")
  | ((with_reducible apply ev_neS2) <;> walk_at "ev")
  | ((with_reducible apply ev_eqS2) <;> walk_at "ev")
  | ((with_reducible apply ev_eqN) <;> walk_at "ev")
  | ((with_reducible apply ev_neN) <;> walk_at "ev")
  | ((with_reducible apply ev_in_lN) <;> walk_at "ev")
  | ((with_reducible apply ev_in_tN) <;> walk_at "ev")
  | ((with_reducible apply ev_ni_lN) <;> walk_at "ev")
  | ((with_reducible apply ev_ni_tN) <;> walk_at "ev")
  | ((with_reducible apply ev_reprN) <;> walk_at "ev")
  | ((with_reducible apply ev_isN) <;> walk_at "ev")
  | ((with_reducible apply ev_notN) <;> walk_at "ev")
  | ((with_reducible apply ev_andV) <;> walk_at "ev")
  | ((with_reducible apply ev_orV) <;> walk_at "ev")
  | ((with_reducible apply ev_notV) <;> walk_at "ev")
  | ((with_reducible apply ev_if) <;> walk_at "ev")
  | ((with_reducible apply ev_ix_t) <;> walk_at "ev")
  | ((with_reducible apply ev_ix_l) <;> walk_at "ev")
  | ((with_reducible apply ev_len_t) <;> walk_at "ev")
  | ((with_reducible apply ev_len_l) <;> walk_at "ev")
  | ((with_reducible apply ev_tuple_l) <;> walk_at "ev")
  | ((with_reducible apply ev_tuple_t) <;> walk_at "ev")
  | ((with_reducible apply ev_isi) <;> walk_at "ev")
  | ((with_reducible apply ev_addTM) <;> walk_at "ev")
  | ((with_reducible apply ev_tup0) <;> walk_at "ev")
  | ((with_reducible apply ev_tup1) <;> walk_at "ev")
  | ((with_reducible apply ev_tup2) <;> walk_at "ev")
  | ((with_reducible apply ev_tupM) <;> walk_at "ev")
  | ((with_reducible apply ev_any) <;> walk_at "ev")
  | ((with_reducible apply ev_all) <;> walk_at "ev")
  | ((with_reducible apply ev_sum) <;> walk_at "ev")
  | ((with_reducible apply ev_int1) <;> walk_at "ev")
  | ((with_reducible apply ev_intb) <;> walk_at "ev")
  | ((with_reducible apply ev_call) <;> walk_at "ev")
  | ((with_reducible apply ev_chain) <;> walk_at "ev")
  | ((with_reducible apply ev_chain3) <;> walk_at "ev")
  | ((with_reducible apply ev_empL) <;> walk_at "ev")
  | ((with_reducible apply ev_empT) <;> walk_at "ev")
  | ((with_reducible apply ev_dict0) <;> walk_at "ev")
  | ((with_reducible apply ev_sl_t) <;> walk_at "ev")
  | ((with_reducible apply ev_rev_t) <;> walk_at "ev")
  | ((with_reducible apply el_frz) <;> walk_at "ev")
  | ((with_reducible apply el_lst0) <;> walk_at "ev")
  | ((with_reducible apply el_lst1) <;> walk_at "ev")
  | ((with_reducible apply el_lst2) <;> walk_at "ev")
  | ((with_reducible apply el_lst3) <;> walk_at "ev")
  | ((with_reducible apply el_lstM) <;> walk_at "ev")
  | ((with_reducible apply el_list_l) <;> walk_at "ev")
  | ((with_reducible apply el_list_t) <;> walk_at "ev")
  | ((with_reducible apply el_addLM) <;> walk_at "ev")
  | ((with_reducible apply el_mulLM) <;> walk_at "ev")
  | ((with_reducible apply el_lc1M) <;> walk_at "ev")
  | ((with_reducible apply el_lcM) <;> walk_at "ev")
  | ((with_reducible apply el_sl_l) <;> walk_at "ev")
  | ((with_reducible apply el_rev_l) <;> walk_at "ev")
  | ((with_reducible apply et_yes) <;> walk_at "ev")
  | ((with_reducible apply et_test) <;> walk_at "ev")
  | ((with_reducible apply et_B) <;> walk_at "ev")
  | ((with_reducible apply et_not) <;> walk_at "ev")
  | ((with_reducible apply et_and) <;> walk_at "ev")
  | ((with_reducible apply et_or) <;> walk_at "ev")
  | ((with_reducible apply ei_t) <;> walk_at "ev")
  | ((with_reducible apply ei_l) <;> walk_at "ev")
  | ((with_reducible apply ei_r1M) <;> walk_at "ev")
  | ((with_reducible apply ei_r2M) <;> walk_at "ev")
  | ((with_reducible apply ei_en_t) <;> walk_at "ev")
  | ((with_reducible apply ei_en_l) <;> walk_at "ev")
  | ((with_reducible apply ea_nil) <;> walk_at "ev")
  | ((with_reducible apply ea_cons) <;> walk_at "ev")
  | ((with_reducible apply EvAs.nil) <;> walk_at "ev")
  | ((with_reducible apply EvAs.cons) <;> walk_at "ev")
  | ((with_reducible apply eo_none) <;> walk_at "ev")
  | ((with_reducible apply eo_some) <;> walk_at "ev")
  | ((with_reducible apply tg_name) <;> walk_at "ev")
  | ((with_reducible apply tg_tup) <;> walk_at "ev")
  | ((with_reducible apply tgs_nil) <;> walk_at "ev")
  | ((with_reducible apply tgs_cons) <;> walk_at "ev")
  | ((with_reducible apply r2_lt) <;> walk_at "ev")
  | ((with_reducible apply r2_le) <;> walk_at "ev")
  | ((with_reducible intro _); walk_at "bd")
  | walk_at "cl"
  | (walk_at "no"; walk_at "sd"))
local macro_rules | `(tactic| walk_at "hl") => `(tactic| first | decide | ((simp only [List.length_cons, List.length_nil, List.length_append, List.length_map, List.length_take, List.length_drop]) <;> omega))
local macro_rules | `(tactic| walk_at "ha") => `(tactic| first | exact hall0 | with_reducible assumption | ((with_reducible refine hallC ?_ ?_) <;> first | walk_at "ha" | walk_at "hc") | ((with_reducible refine hallA ?_ ?_) <;> walk_at "ha") | ((with_reducible refine hallM ?_); (with_reducible intro _ _); walk_at "hc"))
local macro_rules | `(tactic| walk_at "hc") => `(tactic| first
  | with_reducible assumption | exact Hc.non | exact Hc.bool
  | ((with_reducible refine Hc.int ?_); first | with_reducible assumption | (unfold Nb; omega))
  | ((with_reducible apply_assumption) <;> with_reducible assumption)
  | ((with_reducible refine Hc.str ?_); exact Nc.str (by decide +kernel) (by decide +kernel))
  | ((with_reducible refine Hc.tup ?_ ?_); (walk_at "hl"); (walk_at "ha"))
  | ((with_reducible refine Hc.lst ?_ ?_); (walk_at "hl"); (walk_at "ha")))
section
variable {P : Program} {w : World} {K : PySem.W.Frag} {mg : Str → Option Value} {base : Heap} {a : Nat → Addr} {d : Nat → FuncData}
theorem G__law_grown (T : Txt K mg a d) : FnG P w K mg base CX0 3 (a 19) (d 19) ["source", "n"] (spOf 2 R__law_grown) := by
  refine fn_run T.F__law_grown sc__law_grown rfl (fun cdv A outer s H E hgu hr => ?_)
  have hgu := hgu_of hgu (env := PyProof.Rows.envOfC "_law_grown" (defScope s__law_grown) s.heap.objs.size (a 19) cdv)
  have hu64 := hr.units; have hu65 := hu65_of hr; have hrep := hrep_of hr; have hu1 := hu_of hr
  refine ⟨_, (pss_cons (ps_asg (pe_tup (pa_cons (pe_callG (G__law_pairs T) hgu (hr.mono (by decide)) (by rfl) T.g__law_pairs T.F__law_pairs.kp T.b__law_pairs .nil pass0 (pa_cons pe_int pa_nil)) (pa_cons pe_int pa_nil))) (pg_tup rfl (pgs_cons (pg_name (i := 2) sc__law_grown.nd rfl (Or.inr rfl)) (pgs_cons (pg_name (i := 3) sc__law_grown.nd rfl (Or.inr rfl)) pgs_nil))))
      (pss_cons (ps_while PassesOwn.never (pt_cmpR op_lt (pv 3) (pv 1) (by rfl)) (pss_cons (ps_asg (pe_callG (G__law_of T) hgu (hr.mono (by decide)) (by rfl) T.g__law_of T.F__law_of.kp T.b__law_of .nil pass0 (pa_cons (pv 0) (pa_cons (pv 2) pa_nil))) (pg_tup rfl (pgs_cons (pg_name (i := 4) sc__law_grown.nd rfl (Or.inr rfl)) (pgs_cons (pg_name (i := 5) sc__law_grown.nd rfl (Or.inr rfl)) pgs_nil))))
      (pss_cons (ps_set (i := 6) sc__law_grown.nd rfl (Or.inl rfl) (pe_callG (G__law_of T) hgu (hr.mono (by decide)) (by rfl) T.g__law_of T.F__law_of.kp T.b__law_of .nil pass0 (pa_cons (pv 0) (pa_cons (pe_lc (own := [("joint", 7)]) (g := (gName 7)) rfl sc__law_grown.nd (pi_range1 (by rfl) T.z_range (pa_cons (pv 3) pa_nil)) (blkOk_by (N := ["source", "n", "rods", "many", "a", "b", "c", "joint", "rod", "others", "pair", "names"]) (sc := defScope s__law_grown) (by decide +kernel)) (fun _ _ _ _ _ => (pg_name (i := 7) sc__law_grown.nd rfl (Or.inl rfl))) (fun _ _ _ _ _ => (pts_one (pt_cmpR (k_notIn K hu65) (pv 7) (pe_tup (pa_cons (pv 4) (pa_cons (pv 5) pa_nil))) (by rfl)))) (fun _ _ _ _ _ => (pv 7))) pa_nil))))
      (pss_cons (ps_set (i := 2) sc__law_grown.nd rfl (Or.inr rfl) (pe_op (k_add K) (pe_lc (own := [("rod", 8)]) (g := (gName 8)) rfl sc__law_grown.nd (kpi_seq K (pv 2)) (blkOk_by (N := ["source", "n", "rods", "many", "a", "b", "c", "joint", "rod", "others", "pair", "names"]) (sc := defScope s__law_grown) (by decide +kernel)) (fun _ _ _ _ _ => (pg_name (i := 8) sc__law_grown.nd rfl (Or.inl rfl))) (fun _ _ _ _ _ => (pts_one (pt_cmpR (k_ne K hu64) (pv 8) (pe_tup (pa_cons (pv 4) (pa_cons (pv 5) pa_nil))) (by rfl)))) (fun _ _ _ _ _ => (pv 8))) (pe_lc (own := [("joint", 7)]) (g := (gName 7)) (tt := tYes) rfl sc__law_grown.nd (kpi_seq K (pe_tup (pa_cons (pv 4) (pa_cons (pv 5) (pa_cons (pv 6) pa_nil))))) (blkOk_by (N := ["source", "n", "rods", "many", "a", "b", "c", "joint", "rod", "others", "pair", "names"]) (sc := defScope s__law_grown) (by decide +kernel)) (fun _ _ _ _ _ => (pg_name (i := 7) sc__law_grown.nd rfl (Or.inl rfl))) (fun _ _ _ _ _ => pts_nil) (fun _ _ _ _ _ => (pe_tup (pa_cons (pv 7) (pa_cons (pv 3) pa_nil)))))))
      (pss_cons (ps_set (i := 3) sc__law_grown.nd rfl (Or.inr rfl) (pe_op (k_add K) (pv 3) pe_int))
      (pss_cons (ps_setLc (i := 9) (own := [("pair", 10)]) (g := (gName 10)) rfl sc__law_grown.nd rfl rfl (sw_true rfl rfl rfl (by decide +kernel)) (kpi_seq K (pe_callG (G__law_pairs T) hgu (hr.mono (by decide)) (by rfl) T.g__law_pairs T.F__law_pairs.kp T.b__law_pairs .nil pass0 (pa_cons (pv 3) pa_nil))) (blkOk_by (N := ["source", "n", "rods", "many", "a", "b", "c", "joint", "rod", "others", "pair", "names"]) (sc := defScope s__law_grown) (by decide +kernel)) (fun _ _ _ _ _ => (pg_name (i := 10) sc__law_grown.nd rfl (Or.inl rfl))) (fun _ _ _ _ _ => (pts_one (pt_cmpR (k_notIn K hu65) (pv 10) (pv 2) (by rfl)))) (fun _ _ _ _ _ => (pv 10)))
      (pss_one (ps_set (i := 2) sc__law_grown.nd rfl (Or.inr rfl) (pe_op (k_add K) (pv 2) (pe_slice (k_sl K) (pe_callG (G__law_mixed T) hgu (hr.mono (by decide)) (by rfl) T.g__law_mixed T.F__law_mixed.kp T.b__law_mixed .nil pass0 (pa_cons (pv 0) (pa_cons (pv 9) pa_nil))) po_none (po_some (pe_callG (G__law_pick T) hgu (hr.mono (by decide)) (by rfl) T.g__law_pick T.F__law_pick.kp T.b__law_pick .nil pass0 (pa_cons (pv 0) (pa_cons pe_int pa_nil))))))))))))))
      (pss_cons (ps_setLc (i := 9) (own := [("pair", 10)]) (g := (gName 10)) rfl sc__law_grown.nd rfl rfl (sw_true rfl rfl rfl (by decide +kernel)) (kpi_seq K (pe_callG (G__law_pairs T) hgu (hr.mono (by decide)) (by rfl) T.g__law_pairs T.F__law_pairs.kp T.b__law_pairs .nil pass0 (pa_cons (pv 1) pa_nil))) (blkOk_by (N := ["source", "n", "rods", "many", "a", "b", "c", "joint", "rod", "others", "pair", "names"]) (sc := defScope s__law_grown) (by decide +kernel)) (fun _ _ _ _ _ => (pg_name (i := 10) sc__law_grown.nd rfl (Or.inl rfl))) (fun _ _ _ _ _ => (pts_one (pt_cmpR (k_notIn K hu65) (pv 10) (pv 2) (by rfl)))) (fun _ _ _ _ _ => (pv 10)))
      (pss_cons (ps_set (i := 2) sc__law_grown.nd rfl (Or.inr rfl) (pe_op (k_add K) (pv 2) (pe_slice (k_sl K) (pe_callG (G__law_mixed T) hgu (hr.mono (by decide)) (by rfl) T.g__law_mixed T.F__law_mixed.kp T.b__law_mixed .nil pass0 (pa_cons (pv 0) (pa_cons (pv 9) pa_nil))) po_none (po_some (pe_callG (G__law_pick T) hgu (hr.mono (by decide)) (by rfl) T.g__law_pick T.F__law_pick.kp T.b__law_pick .nil pass0 (pa_cons (pv 0) (pa_cons pe_int pa_nil)))))))
      (pss_cons (ps_set (i := 11) sc__law_grown.nd rfl (Or.inr rfl) (pe_callG (G__law_mixed T) hgu (hr.mono (by decide)) (by rfl) T.g__law_mixed T.F__law_mixed.kp T.b__law_mixed .nil pass0 (pa_cons (pv 0) (pa_cons (pe_listRg rfl (by rfl) T.z_list (prg_1 (by rfl) T.z_range (pv 1))) pa_nil))))
      (pss_one (ps_ret (pe_tup (pa_cons (pv 1) (pa_cons (pe_callTy (kc_tuple K) (by rfl) T.z_tuple (by decide +kernel) (pa_cons (pe_callB (cr_sortD K hrep) (by rfl) T.z_sorted (by decide +kernel) (pa_cons (pe_lc (own := [("a", 4), ("b", 5)]) (g := (gTup K 2 (gCons (gName 4) (gCons (gName 5) gNil)))) (tt := tYes) rfl sc__law_grown.nd (kpi_seq K (pv 2)) (blkOk_by (N := ["source", "n", "rods", "many", "a", "b", "c", "joint", "rod", "others", "pair", "names"]) (sc := defScope s__law_grown) (by decide +kernel)) (fun _ _ _ _ _ => (pg_tup rfl (pgs_cons (pg_name (i := 4) sc__law_grown.nd rfl (Or.inl rfl)) (pgs_cons (pg_name (i := 5) sc__law_grown.nd rfl (Or.inl rfl)) pgs_nil)))) (fun _ _ _ _ _ => pts_nil) (fun _ _ _ _ _ => (pe_callG (G__law_rod T) hgu (hr.mono (by decide)) (by rfl) T.g__law_rod T.F__law_rod.kp T.b__law_rod .nil pass0 (pa_cons (pe_ix (k_ix K) (pv 11) (pv 4) (fun _ _ => rfl)) (pa_cons (pe_ix (k_ix K) (pv 11) (pv 5) (fun _ _ => rfl)) pa_nil))))) pa_nil)) pa_nil)) pa_nil)))))))))), fun M bs Q hR hl => ?_⟩
  obtain ⟨hM, n, rfl, hn, rfl⟩ := hR
  have cP : ∀ m : Nat, m ≤ 24 → R__law_pairs M [.dat (.int (m : Int))] (fun w => w = .list ((pairsI m).map encP)) := fun m hm => ⟨m, rfl, by omega, by omega, rfl⟩
  -- some of the pairs that are not rods yet
  have hcut : ∀ (m : Nat) (rs : List (Int × Int)) (h : Int) (ρ : List Ab), rs.length ≤ 64 → 1 ≤ h → h ≤ 1000 → (∀ r ∈ rs, r ∈ pairsI m) → ρ[0]? = some .src → ρ[9]? = some (.dat (.list (rs.map encP))) → EvN M (tSl (rSl2 K) (tCall (spOf 2 R__law_mixed) [] E (tCons (tVar 0) (tCons (tVar 9) tNil))) tNoPart (tPart (tCall (spOf 2 R__law_pick) [] E (tCons (tVar 0) (tCons (tC (V.int h)) tNil))))) ρ (fun ds => ∃ qs : List (Int × Int), ds = qs.map encP ∧ (qs.length : Int) < h ∧ ∀ r ∈ qs, r ∈ pairsI m) := fun m rs h ρ hl h1 h2 hrs e0 e9 => by
    refine evn_sl_toB (N := fun ds => ∃ qs : List (Int × Int), ds = qs.map encP ∧ ∀ r ∈ qs, r ∈ pairsI m) (hi := h) (EvP.of_imp (evp_call (P := fun w => ∃ es : List PyData, w = .list es ∧ es.Perm (rs.map encP)) (N := fun bs => bs = [.src, .dat (.list (rs.map encP))]) (ea_src (N1 := fun bs => bs = [.dat (.list (rs.map encP))]) e0 (ea_cons (ev_var e9) ea_nil) (fun bs e => by rw [e])) (fun bs e => by subst e; exact ⟨rfl, hM, _, _, rfl, .inl rfl, by rw [List.length_map]; omega, rfl⟩)) ?_) (evp_pick hM e0 ev_int (by omega)) ?_
    · rintro d ⟨es, rfl, hp⟩
      obtain ⟨qs, rfl, hq⟩ := unmap (f := encP) (as := rs) fun e he => hp.mem_iff.mp he
      exact ⟨_, rfl, qs, rfl, fun r hr => hrs r (hq r hr)⟩
    · rintro xs k hk ⟨qs, rfl, hq⟩
      exact ⟨qs.take k, by rw [List.map_take], by rw [List.length_take]; omega, fun r hr => hq r (List.mem_of_mem_take hr)⟩
  refine run_seq (run_asgD (d := .tuple [.list ((pairsI (4 : Nat)).map encP), .int (4 : Nat)]) (ev_tup2 (ev_call (ea_cons ev_int ea_nil) rfl (cP 4 (by decide))) ev_int) (tg_tup rfl (tgs_cons tg_name (tgs_cons tg_name tgs_nil))) ?_)
  refine run_seq (run_while (fun k ρ' => ∃ (m : Nat) (rs : List (Int × Int)), (∀ r ∈ rs, r ∈ pairsI m) ∧ rs ≠ [] ∧ rs.length ≤ 6 + 4 * (m - 4) ∧ 4 ≤ m ∧ m ≤ n ∧ k = n - m ∧ ∃ b4 b5 b6 b7 b8 b9 b10 b11 : Ab, ρ' = [.src, .dat (.int (n : Int)), .dat (.list (rs.map encP)), .dat (.int (m : Int)), b4, b5, b6, b7, b8, b9, b10, b11]) ⟨_, 4, pairsI (4 : Nat), (fun r h => h), (by decide), (by decide), (by decide), hn.1, rfl, _, _, _, _, _, _, _, _, rfl⟩ ?_)
  rintro k ρ' ⟨m, rs, hrs, hne, hlen, hm4, hmn, rfl, b4, b5, b6, b7, b8, b9, b10, b11, rfl⟩
  refine ⟨_, et_test (ev_lt (ev_var rfl) (ev_var rfl)), fun hlt => ?_, fun hge => ?_⟩
  · have hlt : m < n := by
      have := of_decide_eq_true hlt.symm
      omega
    refine run_seq (run_asg (P := fun w => w ∈ rs.map encP) (evp_of hM rfl (ev_var rfl) (by rw [List.length_map]; exact List.length_pos_iff.mpr hne) (by rw [List.length_map]; omega)) ?_)
    rintro w hw
    obtain ⟨⟨a, b⟩, hab, rfl⟩ := List.mem_map.mp hw
    obtain ⟨q0, q1, q2⟩ := mem_pairs.mp (hrs _ hab)
    simp only at q0 q1 q2
    have hf2 : Few [a, b] := ⟨by show 2 ≤ 24; decide, fun i hi => by
      rcases List.mem_cons.mp hi with rfl | hi
      · omega
      · rw [List.mem_singleton.mp hi]
        omega⟩
    refine ⟨_, tg_tup rfl (tgs_cons tg_name (tgs_cons tg_name tgs_nil)), ?_⟩
    show Pu.Run M _ [.src, .dat (.int (n : Int)), .dat (.list (rs.map encP)), .dat (.int (m : Int)), .dat (.int a), .dat (.int b), b6, b7, b8, b9, b10, b11] _
    refine run_seq (run_set (P := fun w => w ∈ (restI m [a, b]).map PyData.int) (evp_of hM rfl (el_frz (EvN.imp (el_lcM (as := List.range m) (en := fun i : Nat => PyData.int (i : Int)) (l := fun i => [(7, .int (i : Int))]) (p := fun i : Nat => !decide ((i : Int) ∈ [a, b])) (f := fun i : Nat => .int (i : Int)) (ei_r1M (j := (m : Int)) (ev_var rfl) (by omega)) (fun _ _ => tg_name) (fun _ _ => rfl) (fun i hi => ?_) (fun _ _ _ => ev_var rfl) (by rw [List.length_range]; omega)) (fun ds e => e.trans (rest_in m a b)))) (by rw [List.length_map]; exact rest_some (by omega) a b) (by rw [List.length_map]; have := natsI_len (n := m) (p := fun i : Nat => !decide ((i : Int) ∈ [a, b])); unfold restI; omega)) ?_)
    · have hi := List.mem_range.mp hi
      exact (et_test (ev_ni_tN (ev_var rfl) (ev_tup2 (ev_var rfl) (ev_var rfl)) (nc_small (by omega)) (nc_lot hf2))).to (by rw [← in_lot]; rfl)
    rintro w hw
    obtain ⟨c, hc, rfl⟩ := List.mem_map.mp hw
    obtain ⟨hc, _⟩ := mem_rest.mp hc
    show Pu.Run M _ [.src, .dat (.int (n : Int)), .dat (.list (rs.map encP)), .dat (.int (m : Int)), .dat (.int a), .dat (.int b), .dat (.int c), b7, b8, b9, b10, b11] _
    have hkl := List.length_filter_le (fun r => !PyData.eqv (encP r) (encP (a, b))) rs
    refine run_seq (run_setD (d := .list ((rs.filter (fun r => !PyData.eqv (encP r) (encP (a, b)))).map encP ++ [a, b, c].map fun j => encP (j, (m : Int)))) (el_frz (el_addLM (el_frz (el_lcM (as := rs) (en := encP) (l := fun r => [(8, encP r)]) (p := fun r => !PyData.eqv (encP r) (encP (a, b))) (f := encP) (ei_l (ev_var rfl)) (fun _ _ => tg_name) (fun _ _ => rfl) (fun r hr => ?_) (fun _ _ _ => ev_var rfl) (by omega))) (el_frz (el_lc1M (as := [a, b, c]) (en := PyData.int) (l := fun j => [(7, .int j)]) (f := fun j => encP (j, (m : Int))) (ei_t (ev_tup (ds := [_, _, _]) (ea_cons (ev_var rfl) (ea_cons (ev_var rfl) (ea_cons (ev_var rfl) ea_nil))) (by show 3 ≤ sizeLine; decide))) (fun _ _ => tg_name) (fun _ _ => rfl) (fun j _ => ev_tup2 (ev_var rfl) (ev_var rfl)) (by show 3 ≤ 1000000; decide))) (by rw [List.length_map]; show _ + 3 ≤ _; omega))) ?_)
    · have := mem_pairs.mp (hrs r hr)
      exact et_test (ev_neN (ev_var rfl) (ev_tup2 (ev_var rfl) (ev_var rfl)) (nc_encP4 (by omega)) (nc_encP4 (p := (a, b)) (by simp only; omega)))
    have e1 : (rs.filter (fun r => !PyData.eqv (encP r) (encP (a, b)))).map encP ++ [a, b, c].map (fun j => encP (j, (m : Int))) = (rs.filter (fun r => !PyData.eqv (encP r) (encP (a, b))) ++ [(a, (m : Int)), (b, (m : Int)), (c, (m : Int))]).map encP := by
      rw [List.map_append]
      rfl
    rw [e1]
    generalize hrs1 : rs.filter (fun r => !PyData.eqv (encP r) (encP (a, b))) ++ [(a, (m : Int)), (b, (m : Int)), (c, (m : Int))] = rs1
    have hl1 : rs1.length ≤ rs.length + 3 := by
      rw [← hrs1, List.length_append]
      exact Nat.add_le_add_right hkl 3
    have hne1 : rs1 ≠ [] := by
      rw [← hrs1]
      simp
    have hs1 : ∀ r ∈ rs1, r ∈ pairsI ((m + 1 : Nat) : Int) := fun r hr => by
      rw [← hrs1] at hr
      rw [mem_pairs]
      rcases List.mem_append.mp hr with hr | hr
      · have := mem_pairs.mp (hrs r (List.mem_filter.mp hr).1)
        omega
      · simp only [List.mem_cons, List.not_mem_nil, or_false] at hr
        rcases hr with rfl | rfl | rfl <;> simp only <;> omega
    clear hrs1 e1 hkl hw
    refine run_seq (run_setD (d := .int ((m + 1 : Nat) : Int)) ((ev_addI (ev_var rfl) ev_int).to (by congr 1)) ?_)
    show Pu.Run M _ [.src, .dat (.int (n : Int)), .dat (.list (rs1.map encP)), .dat (.int ((m + 1 : Nat) : Int)), .dat (.int a), .dat (.int b), .dat (.int c), b7, b8, b9, b10, b11] _
    have hp8 := pairs_len8 (n := m + 1) (by omega)
    have nR : NC (.list (rs1.map encP)) := nc_Ps (n := m + 1) (by omega) (by omega) fun r hr => mem_pairs.mp (hs1 r hr)
    refine run_seq (run_setL (ds := ((pairsI ((m + 1 : Nat) : Int)).filter (fun r => !((rs1.map encP).any fun z => PyData.eqv z (encP r)))).map encP) (by show 9 < 12; decide) (el_lcM (as := pairsI ((m + 1 : Nat) : Int)) (en := encP) (l := fun r => [(10, encP r)]) (p := fun r => !((rs1.map encP).any fun z => PyData.eqv z (encP r))) (f := encP) (ei_l (ev_call (ea_cons (ev_var rfl) ea_nil) rfl (cP (m + 1) (by omega)))) (fun _ _ => tg_name) (fun _ _ => rfl) (fun r hr => ?_) (fun _ _ _ => ev_var rfl) (by omega)) ?_)
    · have := mem_pairs.mp hr
      exact et_test (ev_ni_lN (ev_var rfl) (ev_var rfl) (nc_encP4 (by omega)) nR)
    have hfl := List.length_filter_le (fun r => !((rs1.map encP).any fun z => PyData.eqv z (encP r))) (pairsI ((m + 1 : Nat) : Int))
    refine run_frz1 9 rfl ?_
    refine run_set (P := fun w => ∃ ds, w = .list ds ∧ ∃ rs2 : List (Int × Int), ds = rs2.map encP ∧ (∀ r ∈ rs2, r ∈ pairsI ((m + 1 : Nat) : Int)) ∧ rs2 ≠ [] ∧ rs2.length ≤ rs1.length + 1) (EvN.frz (evn_addL (N := fun xs => xs = rs1.map encP) (M := fun ys => ∃ qs : List (Int × Int), ys = qs.map encP ∧ (qs.length : Int) < 2 ∧ ∀ r ∈ qs, r ∈ pairsI ((m + 1 : Nat) : Int)) (L := fun zs => ∃ rs2 : List (Int × Int), zs = rs2.map encP ∧ (∀ r ∈ rs2, r ∈ pairsI ((m + 1 : Nat) : Int)) ∧ rs2 ≠ [] ∧ rs2.length ≤ rs1.length + 1) (EvP.imp (P := fun d => d = .list (rs1.map encP)) (ev_var rfl) (fun d e => ⟨_, e, rfl⟩)) (fun xs hx => EvN.frz (hcut (m + 1) ((pairsI ((m + 1 : Nat) : Int)).filter (fun r => !((rs1.map encP).any fun z => PyData.eqv z (encP r)))) 2 _ (by omega) (by decide) (by decide) (fun r hr => (List.mem_filter.mp hr).1) rfl rfl)) ?_)) ?_
    · rintro xs ys rfl ⟨qs, rfl, hq, hqs⟩
      refine ⟨le_line (by rw [List.length_map, List.length_map]; omega), rs1 ++ qs, by rw [List.map_append], fun r hr => ?_, by simp [hne1], by rw [List.length_append]; omega⟩
      rcases List.mem_append.mp hr with hr | hr
      · exact hs1 r hr
      · exact hqs r hr
    · rintro w ⟨ds, rfl, rs2, rfl, h1, h2, h3⟩
      exact ⟨n - (m + 1), by omega, m + 1, rs2, h1, h2, by omega, by omega, by omega, rfl, _, _, _, _, _, _, _, _, rfl⟩
  · have hnm : m = n := by
      have := of_decide_eq_false hge.symm
      omega
    subst hnm
    clear hge
    have hp8 := pairs_len8 (n := m) (by omega)
    have nR : NC (.list (rs.map encP)) := nc_Ps (n := m) (by omega) (by omega) fun r hr => mem_pairs.mp (hrs r hr)
    refine run_seq (run_setL (ds := ((pairsI (m : Int)).filter (fun r => !((rs.map encP).any fun z => PyData.eqv z (encP r)))).map encP) (by show 9 < 12; decide) (el_lcM (as := pairsI (m : Int)) (en := encP) (l := fun r => [(10, encP r)]) (p := fun r => !((rs.map encP).any fun z => PyData.eqv z (encP r))) (f := encP) (ei_l (ev_call (ea_cons (ev_var rfl) ea_nil) rfl (cP m (by omega)))) (fun _ _ => tg_name) (fun _ _ => rfl) (fun r hr => ?_) (fun _ _ _ => ev_var rfl) (by omega)) ?_)
    · have := mem_pairs.mp hr
      exact et_test (ev_ni_lN (ev_var rfl) (ev_var rfl) (nc_encP4 (by omega)) nR)
    have hfl := List.length_filter_le (fun r => !((rs.map encP).any fun z => PyData.eqv z (encP r))) (pairsI (m : Int))
    refine run_frz1 9 rfl ?_
    refine run_seq (run_set (P := fun w => ∃ ds, w = .list ds ∧ ∃ rs2 : List (Int × Int), ds = rs2.map encP ∧ (∀ r ∈ rs2, r ∈ pairsI (m : Int)) ∧ rs2 ≠ [] ∧ rs2.length ≤ rs.length + 3) (EvN.frz (evn_addL (N := fun xs => xs = rs.map encP) (M := fun ys => ∃ qs : List (Int × Int), ys = qs.map encP ∧ (qs.length : Int) < 4 ∧ ∀ r ∈ qs, r ∈ pairsI (m : Int)) (L := fun zs => ∃ rs2 : List (Int × Int), zs = rs2.map encP ∧ (∀ r ∈ rs2, r ∈ pairsI (m : Int)) ∧ rs2 ≠ [] ∧ rs2.length ≤ rs.length + 3) (EvP.imp (P := fun d => d = .list (rs.map encP)) (ev_var rfl) (fun d e => ⟨_, e, rfl⟩)) (fun xs hx => EvN.frz (hcut m ((pairsI (m : Int)).filter (fun r => !((rs.map encP).any fun z => PyData.eqv z (encP r)))) 4 _ (by omega) (by decide) (by decide) (fun r hr => (List.mem_filter.mp hr).1) rfl rfl)) ?_)) ?_)
    · rintro xs ys rfl ⟨qs, rfl, hq, hqs⟩
      refine ⟨le_line (by rw [List.length_map, List.length_map]; omega), rs ++ qs, by rw [List.map_append], fun r hr => ?_, by simp [hne], by rw [List.length_append]; omega⟩
      rcases List.mem_append.mp hr with hr | hr
      · exact hrs r hr
      · exact hqs r hr
    rintro w ⟨ds, rfl, rs2, rfl, h1, h2, h3⟩
    clear hfl nR
    refine run_seq (run_set (P := fun w => ∃ is : List Int, w = .list (is.map .int) ∧ is.length = m ∧ is.Nodup ∧ ∀ i ∈ is, 0 ≤ i ∧ i < m) (EvP.of_imp (evp_call (P := fun w => ∃ es : List PyData, w = .list es ∧ es.Perm ((List.range m).map fun i : Nat => PyData.int (i : Int))) (N := fun bs => bs = [.src, .dat (.list ((List.range m).map fun i : Nat => PyData.int (i : Int)))]) (ea_src (N1 := fun bs => bs = [.dat (.list ((List.range m).map fun i : Nat => PyData.int (i : Int)))]) rfl (ea_cons (el_frz (el_listRg (n := (m : Int)) (ev_var rfl) (by omega) (by omega))) ea_nil) (fun bs e => by rw [e])) (fun bs e => by subst e; exact ⟨rfl, hM, _, _, rfl, .inl rfl, by rw [List.length_map, List.length_range]; omega, rfl⟩)) ?_) ?_)
    · rintro d ⟨es, rfl, hp⟩
      obtain ⟨is, rfl, a1, a2, a3⟩ := perm_natsI hp
      exact ⟨is, rfl, a1, a2, a3⟩
    rintro w ⟨is, rfl, a1, a2, a3⟩
    have hs := el_sortPr (K := K) (rs := rs2.map fun p => swP (gI is p.1) (gI is p.2)) (te := tLc (iSeq K (tVar 2)) (gTup K 2 (gCons (gName 4) (gCons (gName 5) gNil))) tYes (tCall (spOf 2 R__law_rod) [] E (tCons (tOp (rIx2 K) (tVar 11) (tVar 4)) (tCons (tOp (rIx2 K) (tVar 11) (tVar 5)) tNil))) [4, 5]) (el_frz (A := M) (ds := (rs2.map fun p => swP (gI is p.1) (gI is p.2)).map encP) (ρ := List.map fz [.src, .dat (.int (m : Int)), .dat (.list (rs2.map encP)), .dat (.int (m : Int)), b4, b5, b6, b7, b8, .dat (.list (((pairsI (m : Int)).filter (fun r => !((rs.map encP).any fun z => PyData.eqv z (encP r)))).map encP)), b10, .dat (.list (is.map .int))]) (by
      rw [List.map_map]
      refine el_lc1M (as := rs2) (en := encP) (l := fun p => [(4, .int p.1), (5, .int p.2)]) (f := encP ∘ fun p => swP (gI is p.1) (gI is p.2)) (ei_l (ev_var rfl)) (fun _ _ => tg_tup rfl (tgs_cons tg_name (tgs_cons tg_name tgs_nil))) (fun _ _ => rfl) (fun p hp => ?_) (by omega)
      have := mem_pairs.mp (h1 p hp)
      exact ev_call (ea_cons (ev_ix_l (ev_var rfl) (ev_var rfl) (gI_E (by omega) (by omega))) (ea_cons (ev_ix_l (ev_var rfl) (ev_var rfl) (gI_E (by omega) (by omega))) ea_nil)) rfl ⟨_, _, rfl, rfl⟩))
    have hq := sortPr_perm (rs2.map fun p => swP (gI is p.1) (gI is p.2))
    generalize sortPr (rs2.map fun p => swP (gI is p.1) (gI is p.2)) = qs at hs hq
    refine run_retD (d := encF m qs) (ev_tup2 (ev_var rfl) (ev_tuple_l (el_frz hs))) ⟨qs, rfl, ⟨fun r hr => ?_, ?_, by omega, by omega⟩, fun z => ?_⟩
    · obtain ⟨p, hp, rfl⟩ := List.mem_map.mp (hq.mem_iff.mp hr)
      have hb := mem_pairs.mp (h1 p hp)
      have n1 := gI_ne a2 hb.1 hb.2.1 (by omega)
      have n2 := a3 _ (gI_mem (is := is) (a := p.1) hb.1 (by omega))
      have n3 := a3 _ (gI_mem (is := is) (a := p.2) (by omega) (by omega))
      unfold swP
      simp only
      omega
    · have := hq.length_eq
      rw [List.length_map] at this
      omega
    · subst z
      have := hq.length_eq
      rw [List.length_map] at this
      exact h2 (List.length_eq_zero_iff.mp this.symm)
end
end K53

namespace K53
open PySem L2 Pu
local macro_rules | `(tactic| walk_at "pr") => `(tactic| first | with_reducible assumption | ((with_reducible apply Nb.up); (walk_at "nb"); decide) | omega | ((with_reducible apply_assumption) <;> with_reducible assumption) | ((with_reducible apply is_eq); first | exact atI_map (by with_reducible assumption) | exact rfl) | ((simp only [List.length_cons, List.length_nil]) <;> omega) | exact Or.inl rfl | exact Or.inr (Or.inl rfl) | exact Or.inr (Or.inr (Or.inl rfl)) | exact Or.inr (Or.inr (Or.inr (Or.inl rfl))) | exact Or.inr (Or.inr (Or.inr (Or.inr (Or.inl rfl)))) | exact Or.inr (Or.inr (Or.inr (Or.inr (Or.inr rfl)))) | (fail_if_success (with_reducible apply is_at)))
local macro_rules | `(tactic| walk_at "sd") => `(tactic| first | ((with_reducible refine is_pr ?_); walk_at "pr") | (fail_if_success (with_reducible refine is_pr ?_)))
local macro_rules | `(tactic| walk_at "cl") => `(tactic| first | ((with_reducible apply_assumption) <;> with_reducible assumption) | fail)
local macro_rules | `(tactic| walk_at "no") => `(tactic| (fail_if_success (first | with_reducible apply is_evp | with_reducible apply is_evn | with_reducible apply is_evb | with_reducible apply is_evi | with_reducible apply is_eva | with_reducible apply is_evas | with_reducible apply is_evo | with_reducible apply is_tg | with_reducible apply is_tgs)))
local macro_rules | `(tactic| walk_at "wk") => `(tactic| first | exact Wk.nil | (apply Wk.same; walk_at "wk") | (apply Wk.no; walk_at "wk"))
local macro_rules | `(tactic| walk_at "nb") => `(tactic| first | with_reducible assumption | exact Nb.two | exact Nb.one | exact Nb.zero | ((with_reducible apply Nb.mul) <;> walk_at "nb") | ((with_reducible apply Nb.add) <;> walk_at "nb") | ((with_reducible apply Nb.sub) <;> walk_at "nb") | ((with_reducible apply Nb.neg) <;> walk_at "nb"))
local macro_rules | `(tactic| walk_at "bd") => `(tactic| first | ((with_reducible intro _); walk_at "bd") | ((with_reducible apply EvT.to) <;> walk_at "ev") | ((with_reducible apply EvD.to) <;> walk_at "ev") | walk_at "ev")
local macro_rules | `(tactic| walk_at "ev") => `(tactic| first
  | with_reducible exact ev_int | with_reducible exact ev_bl | with_reducible exact ev_str | with_reducible exact ev_non
  | ((with_reducible apply ev_var); exact rfl)
  | ((with_reducible apply ev_addI) <;> walk_at "ev")
  | ((with_reducible apply ev_sub) <;> walk_at "ev")
  | ((with_reducible apply ev_mulW) <;> walk_at "ev")
  | ((with_reducible apply ev_mod) <;> walk_at "ev")
  | ((with_reducible apply ev_fdiv) <;> walk_at "ev")
  | ((with_reducible apply ev_sqW) <;> walk_at "ev")
  | ((with_reducible apply ev_neg) <;> walk_at "ev")
  | ((with_reducible apply ev_abs) <;> walk_at "ev")
  | ((with_reducible apply ev_max2) <;> walk_at "ev")
  | ((with_reducible apply ev_min2) <;> walk_at "ev")
  | ((with_reducible apply ev_lt) <;> walk_at "ev")
  | ((with_reducible apply ev_le) <;> walk_at "ev")
  | ((with_reducible apply ev_gt) <;> walk_at "ev")
  | ((with_reducible apply ev_ge) <;> walk_at "ev")
  | ((with_reducible apply ev_eqI2) <;> walk_at "ev")
  | ((with_reducible apply ev_neI2) <;> walk_at "ev")
  | ((with_reducible apply ev_neS2) <;> walk_at "ev")
  | ((with_reducible apply ev_eqS2) <;> walk_at "ev")
  | ((with_reducible apply ev_eqN) <;> walk_at "ev")
  | ((with_reducible apply ev_neN) <;> walk_at "ev")
  | ((with_reducible apply ev_in_lN) <;> walk_at "ev")
  | ((with_reducible apply ev_in_tN) <;> walk_at "ev")
  | ((with_reducible apply ev_ni_lN) <;> walk_at "ev")
  | ((with_reducible apply ev_ni_tN) <;> walk_at "ev")
  | ((with_reducible apply ev_reprN) <;> walk_at "ev")
  | ((with_reducible apply ev_isN) <;> walk_at "ev")
  | ((with_reducible apply ev_notN) <;> walk_at "ev")
  | ((with_reducible apply ev_andV) <;> walk_at "ev")
  | ((with_reducible apply ev_orV) <;> walk_at "ev")
  | ((with_reducible apply ev_notV) <;> walk_at "ev")
  | ((with_reducible apply ev_if) <;> walk_at "ev")
  | ((with_reducible apply ev_ix_t) <;> walk_at "ev")
  | ((with_reducible apply ev_ix_l) <;> walk_at "ev")
  | ((with_reducible apply ev_len_t) <;> walk_at "ev")
  | ((with_reducible apply ev_len_l) <;> walk_at "ev")
  | ((with_reducible apply ev_tuple_l) <;> walk_at "ev")
  | ((with_reducible apply ev_tuple_t) <;> walk_at "ev")
  | ((with_reducible apply ev_isi) <;> walk_at "ev")
  | ((with_reducible apply ev_addTM) <;> walk_at "ev")
  | ((with_reducible apply ev_tup0) <;> walk_at "ev")
  | ((with_reducible apply ev_tup1) <;> walk_at "ev")
  | ((with_reducible apply ev_tup2) <;> walk_at "ev")
  | ((with_reducible apply ev_tupM) <;> walk_at "ev")
  | ((with_reducible apply ev_any) <;> walk_at "ev")
  | ((with_reducible apply ev_all) <;> walk_at "ev")
  | ((with_reducible apply ev_sum) <;> walk_at "ev")
  | ((with_reducible apply ev_int1) <;> walk_at "ev")
  | ((with_reducible apply ev_intb) <;> walk_at "ev")
  | ((with_reducible apply ev_call) <;> walk_at "ev")
  | ((with_reducible apply ev_chain) <;> walk_at "ev")
  | ((with_reducible apply ev_chain3) <;> walk_at "ev")
  | ((with_reducible apply ev_empL) <;> walk_at "ev")
  | ((with_reducible apply ev_empT) <;> walk_at "ev")
  | ((with_reducible apply ev_dict0) <;> walk_at "ev")
  | ((with_reducible apply ev_sl_t) <;> walk_at "ev")
  | ((with_reducible apply ev_rev_t) <;> walk_at "ev")
  | ((with_reducible apply el_frz) <;> walk_at "ev")
  | ((with_reducible apply el_lst0) <;> walk_at "ev")
  | ((with_reducible apply el_lst1) <;> walk_at "ev")
  | ((with_reducible apply el_lst2) <;> walk_at "ev")
  | ((with_reducible apply el_lst3) <;> walk_at "ev")
  | ((with_reducible apply el_lstM) <;> walk_at "ev")
  | ((with_reducible apply el_list_l) <;> walk_at "ev")
  | ((with_reducible apply el_list_t) <;> walk_at "ev")
  | ((with_reducible apply el_addLM) <;> walk_at "ev")
  | ((with_reducible apply el_mulLM) <;> walk_at "ev")
  | ((with_reducible apply el_lc1M) <;> walk_at "ev")
  | ((with_reducible apply el_lcM) <;> walk_at "ev")
  | ((with_reducible apply el_sl_l) <;> walk_at "ev")
  | ((with_reducible apply el_rev_l) <;> walk_at "ev")
  | ((with_reducible apply et_yes) <;> walk_at "ev")
  | ((with_reducible apply et_test) <;> walk_at "ev")
  | ((with_reducible apply et_B) <;> walk_at "ev")
  | ((with_reducible apply et_not) <;> walk_at "ev")
  | ((with_reducible apply et_and) <;> walk_at "ev")
  | ((with_reducible apply et_or) <;> walk_at "ev")
  | ((with_reducible apply ei_t) <;> walk_at "ev")
  | ((with_reducible apply ei_l) <;> walk_at "ev")
  | ((with_reducible apply ei_r1M) <;> walk_at "ev")
  | ((with_reducible apply ei_r2M) <;> walk_at "ev")
  | ((with_reducible apply ei_en_t) <;> walk_at "ev")
  | ((with_reducible apply ei_en_l) <;> walk_at "ev")
  | ((with_reducible apply ea_nil) <;> walk_at "ev")
  | ((with_reducible apply ea_cons) <;> walk_at "ev")
  | ((with_reducible apply EvAs.nil) <;> walk_at "ev")
  | ((with_reducible apply EvAs.cons) <;> walk_at "ev")
  | ((with_reducible apply eo_none) <;> walk_at "ev")
  | ((with_reducible apply eo_some) <;> walk_at "ev")
  | ((with_reducible apply tg_name) <;> walk_at "ev")
  | ((with_reducible apply tg_tup) <;> walk_at "ev")
  | ((with_reducible apply tgs_nil) <;> walk_at "ev")
  | ((with_reducible apply tgs_cons) <;> walk_at "ev")
  | ((with_reducible apply r2_lt) <;> walk_at "ev")
  | ((with_reducible apply r2_le) <;> walk_at "ev")
  | ((with_reducible intro _); walk_at "bd")
  | walk_at "cl"
  | (walk_at "no"; walk_at "sd"))
local macro_rules | `(tactic| walk_at "hl") => `(tactic| first | decide | ((simp only [List.length_cons, List.length_nil, List.length_append, List.length_map, List.length_take, List.length_drop]) <;> omega))
local macro_rules | `(tactic| walk_at "ha") => `(tactic| first | exact hall0 | with_reducible assumption | ((with_reducible refine hallC ?_ ?_) <;> first | walk_at "ha" | walk_at "hc") | ((with_reducible refine hallA ?_ ?_) <;> walk_at "ha") | ((with_reducible refine hallM ?_); (with_reducible intro _ _); walk_at "hc"))
local macro_rules | `(tactic| walk_at "hc") => `(tactic| first
  | with_reducible assumption | exact Hc.non | exact Hc.bool
  | ((with_reducible refine Hc.int ?_); first | with_reducible assumption | (unfold Nb; omega))
  | ((with_reducible apply_assumption) <;> with_reducible assumption)
  | ((with_reducible refine Hc.str ?_); exact Nc.str (by decide +kernel) (by decide +kernel))
  | ((with_reducible refine Hc.tup ?_ ?_); (walk_at "hl"); (walk_at "ha"))
  | ((with_reducible refine Hc.lst ?_ ?_); (walk_at "hl"); (walk_at "ha")))
section
variable {P : Program} {w : World} {K : PySem.W.Frag} {mg : Str → Option Value} {base : Heap} {a : Nat → Addr} {d : Nat → FuncData}
theorem G__law_drawn (T : Txt K mg a d) : FnG P w K mg base CX0 4 (a 20) (d 20) ["source", "most"] (spOf 2 R__law_drawn) := by
  refine fn_run T.F__law_drawn sc__law_drawn rfl (fun cdv A outer s H E hgu hr => ?_)
  have hgu := hgu_of hgu (env := PyProof.Rows.envOfC "_law_drawn" (defScope s__law_drawn) s.heap.objs.size (a 20) cdv)
  have hu64 := hr.units; have hu65 := hu65_of hr; have hrep := hrep_of hr; have hu1 := hu_of hr
  refine ⟨_, (pss_cons (ps_par (i := 2) (j := 3) rfl sc__law_drawn.nd rfl rfl (by decide) rfl rfl (pa_cons (pe_op (k_add K) pe_int (pe_callG (G__law_pick T) hgu (hr.mono (by decide)) (by rfl) T.g__law_pick T.F__law_pick.kp T.b__law_pick .nil pass0 (pa_cons (pv 0) (pa_cons (pe_op op_sub (pv 1) pe_int) pa_nil)))) (pa_cons (pe_callG (G__law_pick T) hgu (hr.mono (by decide)) (by rfl) T.g__law_pick T.F__law_pick.kp T.b__law_pick .nil pass0 (pa_cons (pv 0) (pa_cons pe_int pa_nil))) pa_nil)) rfl)
      (pss_cons (ps_if (pt_cmpR op_lt (pv 3) pe_int (by rfl)) (pss_one (ps_ret (pe_callG (G__law_grown T) hgu (hr.mono (by decide)) (by rfl) T.g__law_grown T.F__law_grown.kp T.b__law_grown .nil pass0 (pa_cons (pv 0) (pa_cons (pv 2) pa_nil))))) pss_nil)
      (pss_cons (ps_if (pt_cmpR (k_eq K hu64) (pv 3) pe_int (by rfl)) (pss_cons (ps_set (i := 4) sc__law_drawn.nd rfl (Or.inl rfl) (pe_callG (G__law_grown T) hgu (hr.mono (by decide)) (by rfl) T.g__law_grown T.F__law_grown.kp T.b__law_grown .nil pass0 (pa_cons (pv 0) (pa_cons (pv 2) pa_nil))))
      (pss_cons (ps_set (i := 5) sc__law_drawn.nd rfl (Or.inr rfl) (pe_callG (G__law_of T) hgu (hr.mono (by decide)) (by rfl) T.g__law_of T.F__law_of.kp T.b__law_of .nil pass0 (pa_cons (pv 0) (pa_cons (pe_callTy (kc_list K) (by rfl) T.z_list (by decide +kernel) (pa_cons (pe_ix (k_ix K) (pv 4) pe_int (fun _ _ => rfl)) pa_nil)) pa_nil))))
      (pss_one (ps_ret (pe_tup (pa_cons (pv 2) (pa_cons (pe_callTy (kc_tuple K) (by rfl) T.z_tuple (by decide +kernel) (pa_cons (pe_lc (own := [("rod", 6)]) (g := (gName 6)) rfl sc__law_drawn.nd (kpi_seq K (pe_ix (k_ix K) (pv 4) pe_int (fun _ _ => rfl))) (blkOk_by (N := ["source", "most", "n", "way", "frame", "gone", "rod", "k", "one", "other", "some", "a", "b", "pair"]) (sc := defScope s__law_drawn) (by decide +kernel)) (fun _ _ _ _ _ => (pg_name (i := 6) sc__law_drawn.nd rfl (Or.inl rfl))) (fun _ _ _ _ _ => (pts_one (pt_cmpR (k_ne K hu64) (pv 6) (pv 5) (by rfl)))) (fun _ _ _ _ _ => (pv 6))) pa_nil)) pa_nil))))))) pss_nil)
      (pss_cons (ps_if (PW.pt (pw_and (pt_cmpR (k_eq K hu64) (pv 3) pe_int (by rfl)) (pw_and1 (pt_cmpR op_gt (pv 2) pe_int (by rfl))))) (pss_cons (ps_set (i := 7) sc__law_drawn.nd rfl (Or.inl rfl) (pe_op (k_add K) pe_int (pe_callG (G__law_pick T) hgu (hr.mono (by decide)) (by rfl) T.g__law_pick T.F__law_pick.kp T.b__law_pick .nil pass0 (pa_cons (pv 0) (pa_cons (pe_op op_sub (pv 2) pe_int) pa_nil)))))
      (pss_cons (ps_asg (pe_tup (pa_cons (pe_listRg rfl (by rfl) T.z_list (prg_1 (by rfl) T.z_range (pv 7))) (pa_cons (pe_op (k_add K) (pe_lst (pa_cons pe_int (pa_cons pe_int pa_nil))) (pe_listRg rfl (by rfl) T.z_list (prg_2 (by rfl) T.z_range (pv 7) (pv 2)))) pa_nil))) (pg_tup rfl (pgs_cons (pg_name (i := 8) sc__law_drawn.nd rfl (Or.inr rfl)) (pgs_cons (pg_name (i := 9) sc__law_drawn.nd rfl (Or.inr rfl)) pgs_nil))))
      (pss_cons (ps_setLc (i := 10) (own := [("a", 11), ("b", 12)]) (g := (gTup K 2 (gCons (gName 11) (gCons (gName 12) gNil)))) rfl sc__law_drawn.nd rfl rfl (sw_true rfl rfl rfl (by decide +kernel)) (kpi_seq K (pe_callG (G__law_pairs T) hgu (hr.mono (by decide)) (by rfl) T.g__law_pairs T.F__law_pairs.kp T.b__law_pairs .nil pass0 (pa_cons (pv 2) pa_nil))) (blkOk_by (N := ["source", "most", "n", "way", "frame", "gone", "rod", "k", "one", "other", "some", "a", "b", "pair"]) (sc := defScope s__law_drawn) (by decide +kernel)) (fun _ _ _ _ _ => (pg_tup rfl (pgs_cons (pg_name (i := 11) sc__law_drawn.nd rfl (Or.inl rfl)) (pgs_cons (pg_name (i := 12) sc__law_drawn.nd rfl (Or.inl rfl)) pgs_nil)))) (fun _ _ _ _ _ => (pts_one (PW.pt (pw_or (PW.pt (pw_and (pt_cmpR (k_in K hu65) (pv 11) (pv 8) (by rfl)) (pw_and1 (pt_cmpR (k_in K hu65) (pv 12) (pv 8) (by rfl))))) (pw_or1 (PW.pt (pw_and (pt_cmpR (k_in K hu65) (pv 11) (pv 9) (by rfl)) (pw_and1 (pt_cmpR (k_in K hu65) (pv 12) (pv 9) (by rfl)))))))))) (fun _ _ _ _ _ => (pe_tup (pa_cons (pv 11) (pa_cons (pv 12) pa_nil)))))
      (pss_one (ps_ret (pe_tup (pa_cons (pv 2) (pa_cons (pe_callTy (kc_tuple K) (by rfl) T.z_tuple (by decide +kernel) (pa_cons (pe_lc (own := [("pair", 13)]) (g := (gName 13)) rfl sc__law_drawn.nd (kpi_seq K (pv 10)) (blkOk_by (N := ["source", "most", "n", "way", "frame", "gone", "rod", "k", "one", "other", "some", "a", "b", "pair"]) (sc := defScope s__law_drawn) (by decide +kernel)) (fun _ _ _ _ _ => (pg_name (i := 13) sc__law_drawn.nd rfl (Or.inl rfl))) (fun _ _ _ _ _ => (pts_one (pt_cmpR op_gt (pe_callG (G__law_pick T) hgu (hr.mono (by decide)) (by rfl) T.g__law_pick T.F__law_pick.kp T.b__law_pick .nil pass0 (pa_cons (pv 0) (pa_cons pe_int pa_nil))) pe_int (by rfl)))) (fun _ _ _ _ _ => (pv 13))) pa_nil)) pa_nil)))))))) pss_nil)
      (pss_one (ps_ret (pe_callG (G__law_frame T) hgu (hr.mono (by decide)) (by rfl) T.g__law_frame T.F__law_frame.kp T.b__law_frame .nil pass0 (pa_cons (pv 0) (pa_cons (pv 2) (pa_cons (pv 2) pa_nil)))))))))), fun M bs Q hR hl => ?_⟩
  obtain ⟨hM, rfl, rfl⟩ := hR
  refine run_seq (run_parP (P1 := IntIn (4 + 0) (4 + (8 - 3))) (N := fun _ y => IntIn 0 5 y) (evp_addD (i := 4) (lo := 0) (hi := 8 - 3) ev_int (evp_pick (m := 8 - 3) hM rfl (ev_sub (ev_var rfl) ev_int) (by decide))) (fun _ _ => evp_pick (m := 5) hM rfl ev_int (by decide)) ?_)
  rintro _ _ ⟨n, rfl, n0, n1⟩ ⟨way, rfl, w0, w1⟩
  obtain ⟨m, rfl⟩ := Int.eq_ofNat_of_zero_le (show 0 ≤ n by omega)
  have hp8 := pairs_len8 (n := m) (by omega)
  have c0 : R__law_pairs M [.dat (.int (m : Int))] (fun w => w = .list ((pairsI m).map encP)) := ⟨m, rfl, by omega, by omega, rfl⟩
  show Pu.Run M _ [.src, .dat (.int 8), .dat (.int (m : Int)), .dat (.int way), .no, .no, .no, .no, .no, .no, .no, .no, .no, .no] _
  have hg : ∀ ρ : List Ab, ρ[0]? = some .src → ρ[2]? = some (.dat (.int (m : Int))) → EvP M (tCall (spOf 2 R__law_grown) [] E (tCons (tVar 0) (tCons (tVar 2) tNil))) ρ (fun w => ∃ rods : List (Int × Int), w = encF m rods ∧ Rods m rods ∧ rods ≠ []) := fun ρ e0 e2 => evp_call (N := fun bs => bs = [.src, .dat (.int (m : Int))]) (ea_src (N1 := fun bs => bs = [.dat (.int (m : Int))]) e0 (ea_cons (ev_var e2) ea_nil) (fun bs e => by rw [e])) (fun bs e => by subst e; exact ⟨rfl, hM, m, rfl, by omega, rfl⟩)
  refine run_seq (run_ifD (b := decide (way < 2)) (et_test (ev_lt (ev_var rfl) ev_int)) (fun _ => run_ret (P := fun w => ∃ (m : Nat) (rods : List (Int × Int)), w = encF m rods ∧ Rods m rods ∧ (4 ≤ m ∧ m ≤ 8)) (EvP.of_imp (hg _ rfl rfl) ?_) (fun d e => e)) (fun _ => run_next ?_))
  · rintro w ⟨rods, rfl, h1, h2⟩
    exact ⟨m, rods, rfl, h1, by omega⟩
  refine run_seq (run_ifD (b := decide (way = 2)) (et_test (ev_eqI2 (ev_var rfl) ev_int)) (fun _ => ?_) (fun _ => run_next ?_))
  · refine run_seq (run_set (hg _ rfl rfl) ?_)
    rintro w ⟨rods, rfl, h, hne⟩
    have h1 : ∀ ρ : List Ab, ρ[4]? = some (.dat (encF m rods)) → EvD M (tOp (rIx2 K) (tVar 4) (tC (V.int 1))) ρ (encPs rods) := fun ρ e => ev_ix_t (xs := [PyData.int (m : Int), encPs rods]) (i := 1) (ev_var e) ev_int rfl
    have hle := h.le
    refine run_seq (run_set (P := fun w => w ∈ rods.map encP) (evp_of hM rfl (el_frz (el_list_t (h1 _ rfl))) (by rw [List.length_map]; exact List.length_pos_iff.mpr hne) (by rw [List.length_map]; omega)) ?_)
    rintro w hw
    obtain ⟨g, hgm, rfl⟩ := List.mem_map.mp hw
    have hg1 := h.ok g hgm
    have hfl := List.length_filter_le (fun r => !PyData.eqv (encP r) (encP g)) rods
    refine run_retD (d := encF m (rods.filter (fun r => !PyData.eqv (encP r) (encP g)))) (ev_tup2 (ev_var rfl) (ev_tuple_l (el_frz (el_lcM (as := rods) (en := encP) (l := fun r => [(6, encP r)]) (p := fun r => !PyData.eqv (encP r) (encP g)) (f := encP) (ei_t (h1 _ rfl)) (fun _ _ => tg_name) (fun _ _ => rfl) (fun r hr => ?_) (fun _ _ _ => ev_var rfl) (by omega))))) ⟨m, _, rfl, ⟨fun r hr => h.ok r (List.mem_filter.mp hr).1, by omega, h.n1, h.n2⟩, by omega⟩
    have := h.ok r hr
    exact et_test (ev_neN (ev_var rfl) (ev_var rfl) (nc_encP4 (by omega)) (nc_encP4 (by omega)))
  refine run_seq (run_ifD (b := decide (way = 3) && decide ((4 : Int) < (m : Int))) (et_and (et_test (ev_eqI2 (ev_var rfl) ev_int)) (fun _ => et_test (ev_gt (ev_var rfl) ev_int))) (fun z => ?_) (fun _ => run_next ?_))
  · rw [Bool.and_eq_true, decide_eq_true_iff, decide_eq_true_iff] at z
    have hm5 := z.2
    refine run_seq (run_set (P := IntIn (3 + 0) (3 + ((m : Int) - 4))) (evp_addD (i := 3) (lo := 0) (hi := (m : Int) - 4) ev_int (evp_pick hM rfl (ev_sub (ev_var rfl) ev_int) (by omega))) ?_)
    rintro w ⟨k, rfl, k0, k1⟩
    obtain ⟨j, rfl⟩ := Int.eq_ofNat_of_zero_le (show 0 ≤ k by omega)
    refine run_seq (run_asgD (d := .tuple [.list ((List.range (j : Int).toNat).map fun i : Nat => PyData.int (i : Int)), .list ([.int 0, .int 1] ++ (List.range ((m : Int) - (j : Int)).toNat).map fun i : Nat => PyData.int ((j : Int) + (i : Int)))]) (ev_tup2 (el_frz (el_listRg (ev_var rfl) (by omega) (by omega))) (el_frz (el_addLM (el_frz (el_lstM (ds := [.int 0, .int 1]) (EvAs.cons ev_int (EvAs.cons ev_int EvAs.nil)) (by decide))) (el_frz (el_listRg2 (ev_var rfl) (ev_var rfl) (by omega))) (by rw [List.length_map, List.length_range]; show 2 + _ ≤ _; omega)))) (tg_tup rfl (tgs_cons tg_name (tgs_cons tg_name tgs_nil))) ?_)
    have N1 : NC (.list ((List.range (j : Int).toNat).map fun i : Nat => PyData.int (i : Int))) := NC.list (n := 0) (m := 45) 10 (by rw [List.length_map, List.length_range]; omega) (nc_map fun i hi => (Nc.int (Nat.lt_of_lt_of_le (show (i : Int).natAbs < 1000 by have := List.mem_range.mp hi; omega) (by decide)))) (by decide) (by decide)
    have N2 : NC (.list ([.int 0, .int 1] ++ (List.range ((m : Int) - (j : Int)).toNat).map fun i : Nat => PyData.int ((j : Int) + (i : Int)))) := NC.list (n := 0) (m := 45) 12 (by rw [List.length_append, List.length_map, List.length_range]; show 2 + _ ≤ _; omega) (fun d hd => by
      rcases List.mem_append.mp hd with hd | hd
      · rcases List.mem_cons.mp hd with rfl | hd
        · exact Nc.int (by decide)
        · rw [List.mem_singleton.mp hd]
          exact Nc.int (by decide)
      · obtain ⟨i, hi, rfl⟩ := List.mem_map.mp hd
        exact Nc.int (Nat.lt_of_lt_of_le (show ((j : Int) + (i : Int)).natAbs < 1000 by have := List.mem_range.mp hi; omega) (by decide))) (by decide) (by decide)
    generalize ((List.range (j : Int).toNat).map fun i : Nat => PyData.int (i : Int)) = one at N1 ⊢
    generalize ([PyData.int 0, .int 1] ++ (List.range ((m : Int) - (j : Int)).toNat).map fun i : Nat => PyData.int ((j : Int) + (i : Int))) = other at N2 ⊢
    generalize hp : (fun r : Int × Int => ((one.any fun z => PyData.eqv z (.int r.1)) && (one.any fun z => PyData.eqv z (.int r.2))) || ((other.any fun z => PyData.eqv z (.int r.1)) && (other.any fun z => PyData.eqv z (.int r.2)))) = p
    have hfl := List.length_filter_le p (pairsI m)
    refine run_seq (run_setL (ds := ((pairsI (m : Int)).filter p).map encP) (by show 10 < 14; decide) (el_lcM (as := pairsI (m : Int)) (en := encP) (l := fun r => [(11, .int r.1), (12, .int r.2)]) (p := p) (f := encP) (ei_l (ev_call (ea_cons (ev_var rfl) ea_nil) rfl c0)) (fun _ _ => tg_tup rfl (tgs_cons tg_name (tgs_cons tg_name tgs_nil))) (fun _ _ => rfl) (fun r hr => ?_) (fun _ _ _ => ev_tup2 (ev_var rfl) (ev_var rfl)) (by omega)) ?_)
    · have := mem_pairs.mp hr
      rw [← hp]
      exact et_or (et_and (et_test (ev_in_lN (ev_var rfl) (ev_var rfl) (nc_small (by omega)) N1)) (fun _ => et_test (ev_in_lN (ev_var rfl) (ev_var rfl) (nc_small (by omega)) N1))) (fun _ => et_and (et_test (ev_in_lN (ev_var rfl) (ev_var rfl) (nc_small (by omega)) N2)) (fun _ => et_test (ev_in_lN (ev_var rfl) (ev_var rfl) (nc_small (by omega)) N2)))
    refine run_ret (P := fun w => ∃ (m : Nat) (rods : List (Int × Int)), w = encF m rods ∧ Rods m rods ∧ (4 ≤ m ∧ m ≤ 8)) ((evp_tupQ (evq_cons (P1 := fun w => w = .int (m : Int)) (ev_var rfl) (evq_cons (evp_tuple (N := fun es => ∃ rs : List (Int × Int), es = rs.map encP ∧ rs.length ≤ 64 ∧ ∀ r ∈ rs, r ∈ pairsI m) (EvP.imp (EvN.frz (evn_lc (N := fun w => w = ((pairsI m).filter p).map encP) (M := fun es => ∃ rs : List (Int × Int), es = rs.map encP ∧ rs.length ≤ 64 ∧ ∀ r ∈ rs, r ∈ pairsI m) (E := fun k d o => o = none ∨ o = some d) (ei_l (as := (pairsI m).filter p) (en := encP) (ev_var rfl)) ?_ ?_ ?_)) ?_)) evq_nil)) ?_).of_imp ?_) (fun d e => e)
    · rintro ds k dd rfl hd
      obtain ⟨p, hp, hpm, rfl⟩ := mem_of_dd hd
      exact ⟨_, tg_name, fun q hq => by rw [List.mem_singleton.mp hq]; exact List.mem_cons_self, fun _ => True, evb_any (evb_gt (lo := 0) (hi := 9) (evp_pick hM rfl ev_int (by decide)) ev_int), fun _ => .inl rfl, fun _ => ⟨fun w => w = encP p, ev_var rfl, fun x hx => by rw [hx]; exact .inr rfl⟩⟩
    · rintro ds rfl
      rw [List.length_map]
      exact lt_line (by omega)
    · rintro ds es rfl hm
      obtain ⟨rs, e1, e2⟩ := unmap (made_sub (fun _ _ _ h => h) hm)
      have hle := hm.len
      subst e1
      rw [List.length_map, List.length_map] at hle
      exact ⟨rs, rfl, by omega, fun r hr => (List.mem_filter.mp (e2 r hr)).1⟩
    · rintro d ⟨ds, rfl, h⟩
      exact ⟨ds, .inl rfl, h⟩
    · rintro ds ⟨x1, xs1, rfl, h1, x2, xs2, rfl, h2, rfl⟩
      show 2 ≤ 1000000
      decide
    · rintro w ⟨ds, rfl, x1, xs1, rfl, rfl, x2, xs2, rfl, ⟨es, rfl, rs, rfl, hl, hs⟩, rfl⟩
      exact ⟨m, rs, rfl, rods_sub (by omega) hs (by omega), by omega⟩
  refine run_ret (P := fun w => ∃ (m : Nat) (rods : List (Int × Int)), w = encF m rods ∧ Rods m rods ∧ (4 ≤ m ∧ m ≤ 8)) (evp_call (N := fun bs => bs = [.src, .dat (.int (m : Int)), .dat (.int (m : Int))]) (ea_src (N1 := fun bs => bs = [.dat (.int (m : Int)), .dat (.int (m : Int))]) rfl (ea_cons (ev_var rfl) (ea_cons (ev_var rfl) ea_nil)) (fun bs e => by rw [e])) (fun bs e => by subst e; exact ⟨rfl, hM, _, rfl, by omega, rfl⟩)) (fun d e => e)
end
end K53

namespace K53
open PySem L2 Pu
local macro_rules | `(tactic| walk_at "pr") => `(tactic| first | with_reducible assumption | ((with_reducible apply Nb.up); (walk_at "nb"); decide) | omega | ((with_reducible apply_assumption) <;> with_reducible assumption) | ((with_reducible apply is_eq); first | exact atI_map (by with_reducible assumption) | exact rfl) | ((simp only [List.length_cons, List.length_nil]) <;> omega) | exact Or.inl rfl | exact Or.inr (Or.inl rfl) | exact Or.inr (Or.inr (Or.inl rfl)) | exact Or.inr (Or.inr (Or.inr (Or.inl rfl))) | exact Or.inr (Or.inr (Or.inr (Or.inr (Or.inl rfl)))) | exact Or.inr (Or.inr (Or.inr (Or.inr (Or.inr rfl)))) | (fail_if_success (with_reducible apply is_at)))
local macro_rules | `(tactic| walk_at "sd") => `(tactic| first | ((with_reducible refine is_pr ?_); walk_at "pr") | (fail_if_success (with_reducible refine is_pr ?_)))
local macro_rules | `(tactic| walk_at "cl") => `(tactic| first | ((with_reducible apply_assumption) <;> with_reducible assumption) | fail)
local macro_rules | `(tactic| walk_at "no") => `(tactic| (fail_if_success (first | with_reducible apply is_evp | with_reducible apply is_evn | with_reducible apply is_evb | with_reducible apply is_evi | with_reducible apply is_eva | with_reducible apply is_evas | with_reducible apply is_evo | with_reducible apply is_tg | with_reducible apply is_tgs)))
local macro_rules | `(tactic| walk_at "wk") => `(tactic| first | exact Wk.nil | (apply Wk.same; walk_at "wk") | (apply Wk.no; walk_at "wk"))
local macro_rules | `(tactic| walk_at "nb") => `(tactic| first | with_reducible assumption | exact Nb.two | exact Nb.one | exact Nb.zero | ((with_reducible apply Nb.mul) <;> walk_at "nb") | ((with_reducible apply Nb.add) <;> walk_at "nb") | ((with_reducible apply Nb.sub) <;> walk_at "nb") | ((with_reducible apply Nb.neg) <;> walk_at "nb"))
local macro_rules | `(tactic| walk_at "bd") => `(tactic| first | ((with_reducible intro _); walk_at "bd") | ((with_reducible apply EvT.to) <;> walk_at "ev") | ((with_reducible apply EvD.to) <;> walk_at "ev") | walk_at "ev")
local macro_rules | `(tactic| walk_at "ev") => `(tactic| first
  | with_reducible exact ev_int | with_reducible exact ev_bl | with_reducible exact ev_str | with_reducible exact ev_non
  | ((with_reducible apply ev_var); exact rfl)
  | ((with_reducible apply ev_addI) <;> walk_at "ev")
  | ((with_reducible apply ev_sub) <;> walk_at "ev")
  | ((with_reducible apply ev_mulW) <;> walk_at "ev")
  | ((with_reducible apply ev_mod) <;> walk_at "ev")
  | ((with_reducible apply ev_fdiv) <;> walk_at "ev")
  | ((with_reducible apply ev_sqW) <;> walk_at "ev")
  | ((with_reducible apply ev_neg) <;> walk_at "ev")
  | ((with_reducible apply ev_abs) <;> walk_at "ev")
  | ((with_reducible apply ev_max2) <;> walk_at "ev")
  | ((with_reducible apply ev_min2) <;> walk_at "ev")
  | ((with_reducible apply ev_lt) <;> walk_at "ev")
  | ((with_reducible apply ev_le) <;> walk_at "ev")
  | ((with_reducible apply ev_gt) <;> walk_at "ev")
  | ((with_reducible apply ev_ge) <;> walk_at "ev")
  | ((with_reducible apply ev_eqI2) <;> walk_at "ev")
  | ((with_reducible apply ev_neI2) <;> walk_at "ev")
  | ((with_reducible apply ev_neS2) <;> walk_at "ev")
  | ((with_reducible apply ev_eqS2) <;> walk_at "ev")
  | ((with_reducible apply ev_eqN) <;> walk_at "ev")
  | ((with_reducible apply ev_neN) <;> walk_at "ev")
  | ((with_reducible apply ev_in_lN) <;> walk_at "ev")
  | ((with_reducible apply ev_in_tN) <;> walk_at "ev")
  | ((with_reducible apply ev_ni_lN) <;> walk_at "ev")
  | ((with_reducible apply ev_ni_tN) <;> walk_at "ev")
  | ((with_reducible apply ev_reprN) <;> walk_at "ev")
  | ((with_reducible apply ev_isN) <;> walk_at "ev")
  | ((with_reducible apply ev_notN) <;> walk_at "ev")
  | ((with_reducible apply ev_andV) <;> walk_at "ev")
  | ((with_reducible apply ev_orV) <;> walk_at "ev")
  | ((with_reducible apply ev_notV) <;> walk_at "ev")
  | ((with_reducible apply ev_if) <;> walk_at "ev")
  | ((with_reducible apply ev_ix_t) <;> walk_at "ev")
  | ((with_reducible apply ev_ix_l) <;> walk_at "ev")
  | ((with_reducible apply ev_len_t) <;> walk_at "ev")
  | ((with_reducible apply ev_len_l) <;> walk_at "ev")
  | ((with_reducible apply ev_tuple_l) <;> walk_at "ev")
  | ((with_reducible apply ev_tuple_t) <;> walk_at "ev")
  | ((with_reducible apply ev_isi) <;> walk_at "ev")
  | ((with_reducible apply ev_addTM) <;> walk_at "ev")
  | ((with_reducible apply ev_tup0) <;> walk_at "ev")
  | ((with_reducible apply ev_tup1) <;> walk_at "ev")
  | ((with_reducible apply ev_tup2) <;> walk_at "ev")
  | ((with_reducible apply ev_tupM) <;> walk_at "ev")
  | ((with_reducible apply ev_any) <;> walk_at "ev")
  | ((with_reducible apply ev_all) <;> walk_at "ev")
  | ((with_reducible apply ev_sum) <;> walk_at "ev")
  | ((with_reducible apply ev_int1) <;> walk_at "ev")
  | ((with_reducible apply ev_intb) <;> walk_at "ev")
  | ((with_reducible apply ev_call) <;> walk_at "ev")
  | ((with_reducible apply ev_chain) <;> walk_at "ev")
  | ((with_reducible apply ev_chain3) <;> walk_at "ev")
  | ((with_reducible apply ev_empL) <;> walk_at "ev")
  | ((with_reducible apply ev_empT) <;> walk_at "ev")
  | ((with_reducible apply ev_dict0) <;> walk_at "ev")
  | ((with_reducible apply ev_sl_t) <;> walk_at "ev")
  | ((with_reducible apply ev_rev_t) <;> walk_at "ev")
  | ((with_reducible apply el_frz) <;> walk_at "ev")
  | ((with_reducible apply el_lst0) <;> walk_at "ev")
  | ((with_reducible apply el_lst1) <;> walk_at "ev")
  | ((with_reducible apply el_lst2) <;> walk_at "ev")
  | ((with_reducible apply el_lst3) <;> walk_at "ev")
  | ((with_reducible apply el_lstM) <;> walk_at "ev")
  | ((with_reducible apply el_list_l) <;> walk_at "ev")
  | ((with_reducible apply el_list_t) <;> walk_at "ev")
  | ((with_reducible apply el_addLM) <;> walk_at "ev")
  | ((with_reducible apply el_mulLM) <;> walk_at "ev")
  | ((with_reducible apply el_lc1M) <;> walk_at "ev")
  | ((with_reducible apply el_lcM) <;> walk_at "ev")
  | ((with_reducible apply el_sl_l) <;> walk_at "ev")
  | ((with_reducible apply el_rev_l) <;> walk_at "ev")
  | ((with_reducible apply et_yes) <;> walk_at "ev")
  | ((with_reducible apply et_test) <;> walk_at "ev")
  | ((with_reducible apply et_B) <;> walk_at "ev")
  | ((with_reducible apply et_not) <;> walk_at "ev")
  | ((with_reducible apply et_and) <;> walk_at "ev")
  | ((with_reducible apply et_or) <;> walk_at "ev")
  | ((with_reducible apply ei_t) <;> walk_at "ev")
  | ((with_reducible apply ei_l) <;> walk_at "ev")
  | ((with_reducible apply ei_r1M) <;> walk_at "ev")
  | ((with_reducible apply ei_r2M) <;> walk_at "ev")
  | ((with_reducible apply ei_en_t) <;> walk_at "ev")
  | ((with_reducible apply ei_en_l) <;> walk_at "ev")
  | ((with_reducible apply ea_nil) <;> walk_at "ev")
  | ((with_reducible apply ea_cons) <;> walk_at "ev")
  | ((with_reducible apply EvAs.nil) <;> walk_at "ev")
  | ((with_reducible apply EvAs.cons) <;> walk_at "ev")
  | ((with_reducible apply eo_none) <;> walk_at "ev")
  | ((with_reducible apply eo_some) <;> walk_at "ev")
  | ((with_reducible apply tg_name) <;> walk_at "ev")
  | ((with_reducible apply tg_tup) <;> walk_at "ev")
  | ((with_reducible apply tgs_nil) <;> walk_at "ev")
  | ((with_reducible apply tgs_cons) <;> walk_at "ev")
  | ((with_reducible apply r2_lt) <;> walk_at "ev")
  | ((with_reducible apply r2_le) <;> walk_at "ev")
  | ((with_reducible intro _); walk_at "bd")
  | walk_at "cl"
  | (walk_at "no"; walk_at "sd"))
local macro_rules | `(tactic| walk_at "hl") => `(tactic| first | decide | ((simp only [List.length_cons, List.length_nil, List.length_append, List.length_map, List.length_take, List.length_drop]) <;> omega))
local macro_rules | `(tactic| walk_at "ha") => `(tactic| first | exact hall0 | with_reducible assumption | ((with_reducible refine hallC ?_ ?_) <;> first | walk_at "ha" | walk_at "hc") | ((with_reducible refine hallA ?_ ?_) <;> walk_at "ha") | ((with_reducible refine hallM ?_); (with_reducible intro _ _); walk_at "hc"))
local macro_rules | `(tactic| walk_at "hc") => `(tactic| first
  | with_reducible assumption | exact Hc.non | exact Hc.bool
  | ((with_reducible refine Hc.int ?_); first | with_reducible assumption | (unfold Nb; omega))
  | ((with_reducible apply_assumption) <;> with_reducible assumption)
  | ((with_reducible refine Hc.str ?_); exact Nc.str (by decide +kernel) (by decide +kernel))
  | ((with_reducible refine Hc.tup ?_ ?_); (walk_at "hl"); (walk_at "ha"))
  | ((with_reducible refine Hc.lst ?_ ?_); (walk_at "hl"); (walk_at "ha")))
section
variable {P : Program} {w : World} {K : PySem.W.Frag} {mg : Str → Option Value} {base : Heap} {a : Nat → Addr} {d : Nat → FuncData}
theorem hc_smI {n : Nat} {i : Int} (h : -1000 ≤ i ∧ i ≤ 1000) : Hc n (.int i) := .int (nb_small h)
theorem hc_few {n : Nat} {lot : List Int} (h : Few lot) : Hc (n + 1) (encI lot) := Hc.tup (by rw [List.length_map]; exact h.len) (hallM fun i hi => hc_smI (by have := h.sm i hi; omega))
theorem hc_odd {n : Nat} {lot : List Int} {w : PyData} (hn : n ≤ 8) (hl : Few lot) (h : w ∈ [.none, .bool true, .int (n : Int), .int (-1), .tuple [], .list [], .str ⟨#[48]⟩, .int 0, encI lot, .tuple [.int (n : Int)]]) : Hc 2 w := by
  have : ∀ w ∈ [PyData.none, .bool true, .int (n : Int), .int (-1), .tuple [], .list [], .str ⟨#[48]⟩, .int 0, encI lot, .tuple [.int (n : Int)]], Hc 2 w := hallC .non (hallC .bool (hallC (hc_smI (by omega)) (hallC (hc_smI (by omega)) (hallC (Hc.tup (by decide) hall0) (hallC (Hc.lst (by decide) hall0) (hallC (.str (Nc.str (by decide +kernel) (by decide +kernel))) (hallC (hc_smI (by omega)) (hallC (hc_few hl) (hallC (Hc.tup (by show 1 ≤ 24; decide) (hallC (hc_smI (by omega)) hall0)) hall0)))))))))
  exact this w h
theorem mem_cut {xs : List PyData} {lo hi : Option Int} {d : PyData} (h : d ∈ cutD xs lo hi) : d ∈ xs := List.mem_of_mem_drop (List.mem_of_mem_take h)
theorem len_cut {xs : List PyData} {lo hi : Option Int} : (cutD xs lo hi).length ≤ xs.length := by
  unfold cutD
  rw [List.length_take, List.length_drop]
  omega
theorem sort_few {n : Nat} {is : List Int} (hn : n ≤ 8) (hl : is.length ≤ 8) (h : ∀ i ∈ is, 0 ≤ i ∧ i < (n : Int)) : Few (sortIs is) ∧ (sortIs is).length ≤ 8 := by
  have hp := sortIs_perm is
  have e := hp.length_eq
  exact ⟨⟨by omega, fun i hi => by have := h i (hp.mem_iff.mp hi); omega⟩, by omega⟩
theorem G__law_near (T : Txt K mg a d) : FnG P w K mg base CX0 3 (a 23) (d 23) ["source", "frame", "value"] (spOf 3 R__law_near) := by
  refine fn_run T.F__law_near sc__law_near rfl (fun cdv A outer s H E hgu hr => ?_)
  have hgu := hgu_of hgu (env := PyProof.Rows.envOfC "_law_near" (defScope s__law_near) s.heap.objs.size (a 23) cdv)
  have hu64 := hr.units; have hu65 := hu65_of hr; have hrep := hrep_of hr; have hu1 := hu_of hr
  refine ⟨_, (pss_cons (ps_par (i := 3) (j := 4) rfl sc__law_near.nd rfl rfl (by decide) rfl rfl (pa_cons (pe_ix (k_ix K) (pv 1) pe_int (fun _ _ => rfl)) (pa_cons (pe_callG (G__law_pick T) hgu (hr.mono (by decide)) (by rfl) T.g__law_pick T.F__law_pick.kp T.b__law_pick .nil pass0 (pa_cons (pv 0) (pa_cons pe_int pa_nil))) pa_nil)) rfl)
      (pss_cons (ps_set (i := 5) sc__law_near.nd rfl (Or.inl rfl) (pe_callTy (kc_tuple K) (by rfl) T.z_tuple (by decide +kernel) (pa_cons (pe_callB (cr_sortD K hrep) (by rfl) T.z_sorted (by decide +kernel) (pa_cons (pe_slice (k_sl K) (pe_callG (G__law_mixed T) hgu (hr.mono (by decide)) (by rfl) T.g__law_mixed T.F__law_mixed.kp T.b__law_mixed .nil pass0 (pa_cons (pv 0) (pa_cons (pe_listRg rfl (by rfl) T.z_list (prg_1 (by rfl) T.z_range (pv 3))) pa_nil))) po_none (po_some (pe_callG (G__law_pick T) hgu (hr.mono (by decide)) (by rfl) T.g__law_pick T.F__law_pick.kp T.b__law_pick .nil pass0 (pa_cons (pv 0) (pa_cons (pv 3) pa_nil))))) pa_nil)) pa_nil)))
      (pss_cons (ps_asg (pe_callB (cr_sortD K hrep) (by rfl) T.z_sorted (by decide +kernel) (pa_cons (pe_slice (k_sl K) (pe_callG (G__law_mixed T) hgu (hr.mono (by decide)) (by rfl) T.g__law_mixed T.F__law_mixed.kp T.b__law_mixed .nil pass0 (pa_cons (pv 0) (pa_cons (pe_listRg rfl (by rfl) T.z_list (prg_1 (by rfl) T.z_range (pv 3))) pa_nil))) po_none (po_some pe_int)) pa_nil)) (kpg_lst K rfl (pgs_cons (pg_name (i := 6) sc__law_near.nd rfl (Or.inl rfl)) (pgs_cons (pg_name (i := 7) sc__law_near.nd rfl (Or.inl rfl)) pgs_nil))))
      (pss_cons (ps_set (i := 8) sc__law_near.nd rfl (Or.inl rfl) (pe_callG (G__law_of T) hgu (hr.mono (by decide)) (by rfl) T.g__law_of T.F__law_of.kp T.b__law_of .nil pass0 (pa_cons (pv 0) (pa_cons (pe_lst (pa_cons pe_non (pa_cons pe_bl (pa_cons (pv 3) (pa_cons (pe_un un_neg pe_int) (pa_cons (pe_tup pa_nil) (pa_cons (pe_lst pa_nil) (pa_cons pe_str (pa_cons pe_int (pa_cons (pv 5) (pa_cons (pe_tup (pa_cons (pv 3) pa_nil)) pa_nil))))))))))) pa_nil))))
      (pss_cons (ps_set (i := 9) sc__law_near.nd rfl (Or.inl rfl) (pe_lst (pa_cons (pe_op (k_add K) (pe_op (k_add K) (pe_slice (k_sl K) (pv 2) po_none (po_some (pv 4))) (pe_tup (pa_cons (pv 8) pa_nil))) (pe_slice (k_sl K) (pv 2) (po_some (pe_op (k_add K) (pv 4) pe_int)) po_none)) (pa_cons (pe_tup (pa_cons (pv 6) (pa_cons (pv 7) (pa_cons (pv 5) pa_nil)))) (pa_cons (pe_op (k_add K) (pe_slice (k_sl K) (pv 2) po_none (po_some pe_int)) (pe_tup (pa_cons (pv 5) pa_nil))) (pa_cons (pe_op (k_add K) (pe_tup (pa_cons (pv 6) (pa_cons (pv 7) pa_nil))) (pe_slice (k_sl K) (pv 2) (po_some pe_int) po_none)) (pa_cons (pe_callTy (kc_list K) (by rfl) T.z_list (by decide +kernel) (pa_cons (pv 2) pa_nil)) pa_nil)))))))
      (pss_one (ps_ret (pe_callG (G__law_of T) hgu (hr.mono (by decide)) (by rfl) T.g__law_of T.F__law_of.kp T.b__law_of .nil pass0 (pa_cons (pv 0) (pa_cons (pe_op (k_add K) (pv 9) (pe_lst (pa_cons (pe_slice (k_sl K) (pv 2) po_none (po_some pe_int)) (pa_cons (pe_op (k_add K) (pv 2) (pe_tup (pa_cons pe_int pa_nil))) (pa_cons (pe_tup (pa_cons (pe_ix (k_ix K) (pv 2) pe_int (fun _ _ => rfl)) (pa_cons (pe_ix (k_ix K) (pv 2) pe_int (fun _ _ => rfl)) (pa_cons (pe_ix (k_ix K) (pv 2) pe_int (fun _ _ => rfl)) pa_nil)))) (pa_cons (pv 8) pa_nil)))))) pa_nil)))))))))), fun M bs Q hR hl => ?_⟩
  obtain ⟨hM, n, rods, a0, b0, lot0, rfl, hn, ha0, hb0, hl0, hl8, rfl⟩ := hR
  have h0 := hc_few (n := 1) hl0
  have hv : ∀ d ∈ [PyData.int a0, .int b0, encI lot0], Hc 2 d := hallC (hc_smI (by omega)) (hallC (hc_smI (by omega)) (hallC h0 hall0))
  refine run_seq (run_parP (P1 := fun w => w = .int (n : Int)) (N := fun _ y => IntIn 0 3 y) (ev_ix_t (xs := [PyData.int (n : Int), encPs rods]) (i := 0) (ev_var rfl) ev_int rfl) (fun _ _ => evp_pick (m := 3) hM rfl ev_int (by decide)) ?_)
  rintro _ _ rfl ⟨k, rfl, k0, k1⟩
  show Pu.Run M _ [.src, .dat (encF n rods), .dat (.tuple [.int a0, .int b0, encI lot0]), .dat (.int (n : Int)), .dat (.int k), .no, .no, .no, .no, .no] _
  have hmix : ∀ ρ : List Ab, ρ[0]? = some .src → ρ[3]? = some (.dat (.int (n : Int))) → EvP M (tCall (spOf 2 R__law_mixed) [] E (tCons (tVar 0) (tCons (tLstRg (tRg1 (tVar 3))) tNil))) ρ (fun d => ∃ ds, d = .list ds ∧ ∃ is : List Int, ds = is.map .int ∧ is.length = n ∧ ∀ i ∈ is, 0 ≤ i ∧ i < n) := fun ρ e0 e3 => by
    refine EvP.of_imp (evp_call (P := fun w => ∃ es : List PyData, w = .list es ∧ es.Perm ((List.range n).map fun i : Nat => PyData.int (i : Int))) (N := fun bs => bs = [.src, .dat (.list ((List.range n).map fun i : Nat => PyData.int (i : Int)))]) (ea_src (N1 := fun bs => bs = [.dat (.list ((List.range n).map fun i : Nat => PyData.int (i : Int)))]) e0 (ea_cons (el_frz (el_listRg (n := (n : Int)) (ev_var e3) (by omega) (by omega))) ea_nil) (fun bs e => by rw [e])) (fun bs e => by subst e; exact ⟨rfl, hM, _, _, rfl, .inl rfl, by rw [List.length_map, List.length_range]; omega, rfl⟩)) ?_
    rintro d ⟨es, rfl, hp⟩
    obtain ⟨is, rfl, a1, a2, a3⟩ := perm_natsI hp
    exact ⟨_, rfl, is, rfl, a1, a3⟩
  refine run_seq (run_set (P := fun w => ∃ lot : List Int, w = encI lot ∧ Few lot ∧ lot.length ≤ 8) (EvP.of_imp (evp_tuple (N := fun ds => ∃ lot : List Int, ds = lot.map .int ∧ Few lot ∧ lot.length ≤ 8) (EvP.imp (EvN.frz (el_sortIsN (N := fun ds => ∃ is : List Int, ds = is.map .int ∧ is.length ≤ 8 ∧ ∀ i ∈ is, 0 ≤ i ∧ i < n) (M := fun ds => ∃ lot : List Int, ds = lot.map .int ∧ Few lot ∧ lot.length ≤ 8) (EvN.frz (evn_sl_toP (hi := (n : Int)) (hmix _ rfl rfl) (evp_pick hM rfl (ev_var rfl) (by omega)) ?_)) ?_ ?_)) ?_)) ?_) ?_)
  · rintro xs j ⟨is, rfl, h1, h2⟩
    exact ⟨is.take j, by rw [List.map_take], by rw [List.length_take]; omega, fun i hi => h2 i (List.mem_of_mem_take hi)⟩
  · rintro ds ⟨is, rfl, _⟩
    exact ⟨is, rfl⟩
  · rintro is ⟨js, e, h1, h2⟩
    obtain rfl := map_int_inj e
    exact ⟨_, rfl, sort_few hn.2 h1 h2⟩
  · rintro d ⟨ds, rfl, h⟩
    exact ⟨ds, .inl rfl, h⟩
  · rintro d ⟨ds, rfl, lot, rfl, h⟩
    exact ⟨lot, rfl, h⟩
  rintro w ⟨lot, rfl, hlf, hll⟩
  refine run_seq (run_asg (P := fun w => ∃ a b : Int, w = .list [.int a, .int b] ∧ (0 ≤ a ∧ a ≤ 100) ∧ 0 ≤ b ∧ b ≤ 100) (EvP.of_imp (EvN.frz (el_sortIsN (N := fun ds => ∃ is : List Int, ds = is.map .int ∧ is.length = 2 ∧ ∀ i ∈ is, 0 ≤ i ∧ i < n) (M := fun ds => ∃ a b : Int, ds = [.int a, .int b] ∧ (0 ≤ a ∧ a ≤ 100) ∧ 0 ≤ b ∧ b ≤ 100) (EvN.frz (evn_sl_l (lo := none) (hi := some 2) (hmix _ rfl rfl) eo_none (eo_some ev_int) ?_)) ?_ ?_)) ?_) ?_)
  · rintro xs ⟨is, rfl, h1, h2⟩
    have e := cut_to (xs := is.map PyData.int) (k := 2) (by rw [List.length_map]; omega)
    exact ⟨is.take 2, by rw [List.map_take]; exact e, by rw [List.length_take]; omega, fun i hi => h2 i (List.mem_of_mem_take hi)⟩
  · rintro ds ⟨is, rfl, _⟩
    exact ⟨is, rfl⟩
  · rintro is ⟨js, e, h1, h2⟩
    obtain rfl := map_int_inj e
    have hp := sortIs_perm is
    have hl := hp.length_eq
    rw [h1] at hl
    have hq : ∀ i ∈ sortIs is, 0 ≤ i ∧ i ≤ 100 := fun i hi => by have := h2 i (hp.mem_iff.mp hi); omega
    match sortIs is, hl, hq with
    | [a, b], _, hq => exact ⟨a, b, rfl, hq a (by simp), hq b (by simp)⟩
  · rintro d ⟨ds, rfl, a, b, rfl, h⟩
    exact ⟨a, b, rfl, h⟩
  rintro w ⟨a, b, rfl, ha, hb⟩
  refine ⟨_, tg_lst rfl (tgs_cons tg_name (tgs_cons tg_name tgs_nil)), ?_⟩
  show Pu.Run M _ [.src, .dat (encF n rods), .dat (.tuple [.int a0, .int b0, encI lot0]), .dat (.int (n : Int)), .dat (.int k), .dat (encI lot), .dat (.int a), .dat (.int b), .no, .no] _
  refine run_seq (run_set (P := fun w => Hc 2 w) (EvP.of_imp (evp_of hM rfl (el_frz (el_lstM (ds := [.none, .bool true, .int (n : Int), .int (-1), .tuple [], .list [], .str ⟨#[48]⟩, .int 0, encI lot, .tuple [.int (n : Int)]]) (EvAs.cons ev_non (EvAs.cons ev_bl (EvAs.cons (ev_var rfl) (EvAs.cons (ev_neg ev_int) (EvAs.cons ev_tup0 (EvAs.cons (el_frz el_lst0) (EvAs.cons ev_str (EvAs.cons ev_int (EvAs.cons (ev_var rfl) (EvAs.cons (ev_tup1 (ev_var rfl)) EvAs.nil)))))))))) (by show 10 ≤ 1000000; decide))) (by show 1 ≤ 10; decide) (by show 10 ≤ 1000000; decide)) (fun w h => hc_odd hn.2 hlf h)) ?_)
  intro odd ho
  have hlot := hc_few (n := 1) hlf
  have cl : ∀ lo hi, (cutD [PyData.int a0, .int b0, encI lot0] lo hi).length ≤ 3 := fun lo hi => len_cut
  have c1 := cl none (some k)
  have c2 := cl (some (k + 1)) none
  have c3 := cl none (some 2)
  have c4 := cl (some 2) none
  have hcm : ∀ lo hi, ∀ d ∈ cutD [PyData.int a0, .int b0, encI lot0] lo hi, Hc 2 d := fun lo hi d hd => hv d (mem_cut hd)
  refine run_seq (run_setD (d := .list [.tuple (cutD [PyData.int a0, .int b0, encI lot0] none (some k) ++ [odd] ++ cutD [PyData.int a0, .int b0, encI lot0] (some (k + 1)) none), .tuple [.int a, .int b, encI lot], .tuple (cutD [PyData.int a0, .int b0, encI lot0] none (some 2) ++ [encI lot]), .tuple ([.int a, .int b] ++ cutD [PyData.int a0, .int b0, encI lot0] (some 2) none), .list [.int a0, .int b0, encI lot0]]) (el_frz (el_lstM (EvAs.cons (ev_addTM (ev_addTM (ev_sl_t (ev_var rfl) eo_none (eo_some (ev_var rfl))) (ev_tup1 (ev_var rfl)) (by show _ + 1 ≤ 1000000; omega)) (ev_sl_t (ev_var rfl) (eo_some (ev_addI (ev_var rfl) ev_int)) eo_none) (by rw [List.length_append]; show _ + 1 + _ ≤ 1000000; omega)) (EvAs.cons (ev_tup (ds := [_, _, _]) (ea_cons (ev_var rfl) (ea_cons (ev_var rfl) (ea_cons (ev_var rfl) ea_nil))) (by show 3 ≤ sizeLine; decide)) (EvAs.cons (ev_addTM (ev_sl_t (ev_var rfl) eo_none (eo_some ev_int)) (ev_tup1 (ev_var rfl)) (by show _ + 1 ≤ 1000000; omega)) (EvAs.cons (ev_addTM (ev_tup2 (ev_var rfl) (ev_var rfl)) (ev_sl_t (ev_var rfl) (eo_some ev_int) eo_none) (by show 2 + _ ≤ 1000000; omega)) (EvAs.cons (el_frz (el_list_t (ev_var rfl))) EvAs.nil))))) (by show 5 ≤ 1000000; decide))) ?_)
  refine run_ret (P := fun w => Hc 3 w) (EvP.of_imp (evp_of hM rfl (el_frz (el_addLM (ev_var rfl) (el_frz (el_lstM (ds := [.tuple (cutD [PyData.int a0, .int b0, encI lot0] none (some 2)), .tuple ([PyData.int a0, .int b0, encI lot0] ++ [.int 0]), .tuple [.int b0, .int a0, encI lot0], odd]) (EvAs.cons (ev_sl_t (ev_var rfl) eo_none (eo_some ev_int)) (EvAs.cons (ev_addTM (ev_var rfl) (ev_tup1 ev_int) (by show 4 ≤ 1000000; decide)) (EvAs.cons (ev_tup (ds := [_, _, _]) (ea_cons (ev_ix_t (i := 1) (ev_var rfl) ev_int rfl) (ea_cons (ev_ix_t (i := 0) (ev_var rfl) ev_int rfl) (ea_cons (ev_ix_t (i := 2) (ev_var rfl) ev_int rfl) ea_nil))) (by show 3 ≤ sizeLine; decide)) (EvAs.cons (ev_var rfl) EvAs.nil)))) (by show 4 ≤ 1000000; decide))) (by show 5 + 4 ≤ 1000000; decide))) (by show 1 ≤ 9; decide) (by show 9 ≤ 1000000; decide)) (fun w hw => ?_)) (fun d e => e)
  refine hallA (p := fun d => Hc 3 d) (hallC (Hc.tup (by rw [List.length_append, List.length_append]; show _ + 1 + _ ≤ 24; omega) (hallA (hallA (hcm _ _) (hallC ho hall0)) (hcm _ _))) (hallC (Hc.tup (by show 3 ≤ 24; decide) (hallC (hc_smI (by omega)) (hallC (hc_smI (by omega)) (hallC hlot hall0)))) (hallC (Hc.tup (by rw [List.length_append]; show _ + 1 ≤ 24; omega) (hallA (hcm _ _) (hallC hlot hall0))) (hallC (Hc.tup (by rw [List.length_append]; show 2 + _ ≤ 24; omega) (hallA (hallC (hc_smI (by omega)) (hallC (hc_smI (by omega)) hall0)) (hcm _ _))) (hallC (Hc.lst (by show 3 ≤ 24; decide) hv) hall0))))) (hallC (Hc.tup (by omega) (hcm _ _)) (hallC (Hc.tup (by show 4 ≤ 24; decide) (hallA hv (hallC (hc_smI (by omega)) hall0))) (hallC (Hc.tup (by show 3 ≤ 24; decide) (hallC (hc_smI (by omega)) (hallC (hc_smI (by omega)) (hallC h0 hall0)))) (hallC (ho.mono (by decide)) hall0)))) w hw
end
end K53

namespace K53
open PySem L2 Pu
local macro_rules | `(tactic| walk_at "pr") => `(tactic| first | with_reducible assumption | ((with_reducible apply Nb.up); (walk_at "nb"); decide) | omega | ((with_reducible apply_assumption) <;> with_reducible assumption) | ((with_reducible apply is_eq); first | exact atI_map (by with_reducible assumption) | exact rfl) | ((simp only [List.length_cons, List.length_nil]) <;> omega) | exact Or.inl rfl | exact Or.inr (Or.inl rfl) | exact Or.inr (Or.inr (Or.inl rfl)) | exact Or.inr (Or.inr (Or.inr (Or.inl rfl))) | exact Or.inr (Or.inr (Or.inr (Or.inr (Or.inl rfl)))) | exact Or.inr (Or.inr (Or.inr (Or.inr (Or.inr rfl)))) | (fail_if_success (with_reducible apply is_at)))
local macro_rules | `(tactic| walk_at "sd") => `(tactic| first | ((with_reducible refine is_pr ?_); walk_at "pr") | (fail_if_success (with_reducible refine is_pr ?_)))
local macro_rules | `(tactic| walk_at "cl") => `(tactic| first | ((with_reducible apply_assumption) <;> with_reducible assumption) | fail)
local macro_rules | `(tactic| walk_at "no") => `(tactic| (fail_if_success (first | with_reducible apply is_evp | with_reducible apply is_evn | with_reducible apply is_evb | with_reducible apply is_evi | with_reducible apply is_eva | with_reducible apply is_evas | with_reducible apply is_evo | with_reducible apply is_tg | with_reducible apply is_tgs)))
local macro_rules | `(tactic| walk_at "wk") => `(tactic| first | exact Wk.nil | (apply Wk.same; walk_at "wk") | (apply Wk.no; walk_at "wk"))
local macro_rules | `(tactic| walk_at "nb") => `(tactic| first | with_reducible assumption | exact Nb.two | exact Nb.one | exact Nb.zero | ((with_reducible apply Nb.mul) <;> walk_at "nb") | ((with_reducible apply Nb.add) <;> walk_at "nb") | ((with_reducible apply Nb.sub) <;> walk_at "nb") | ((with_reducible apply Nb.neg) <;> walk_at "nb"))
local macro_rules | `(tactic| walk_at "bd") => `(tactic| first | ((with_reducible intro _); walk_at "bd") | ((with_reducible apply EvT.to) <;> walk_at "ev") | ((with_reducible apply EvD.to) <;> walk_at "ev") | walk_at "ev")
local macro_rules | `(tactic| walk_at "ev") => `(tactic| first
  | with_reducible exact ev_int | with_reducible exact ev_bl | with_reducible exact ev_str | with_reducible exact ev_non
  | ((with_reducible apply ev_var); exact rfl)
  | ((with_reducible apply ev_addI) <;> walk_at "ev")
  | ((with_reducible apply ev_sub) <;> walk_at "ev")
  | ((with_reducible apply ev_mulW) <;> walk_at "ev")
  | ((with_reducible apply ev_mod) <;> walk_at "ev")
  | ((with_reducible apply ev_fdiv) <;> walk_at "ev")
  | ((with_reducible apply ev_sqW) <;> walk_at "ev")
  | ((with_reducible apply ev_neg) <;> walk_at "ev")
  | ((with_reducible apply ev_abs) <;> walk_at "ev")
  | ((with_reducible apply ev_max2) <;> walk_at "ev")
  | ((with_reducible apply ev_min2) <;> walk_at "ev")
  | ((with_reducible apply ev_lt) <;> walk_at "ev")
  | ((with_reducible apply ev_le) <;> walk_at "ev")
  | ((with_reducible apply ev_gt) <;> walk_at "ev")
  | ((with_reducible apply ev_ge) <;> walk_at "ev")
  | ((with_reducible apply ev_eqI2) <;> walk_at "ev")
  | ((with_reducible apply ev_neI2) <;> walk_at "ev")
  | ((with_reducible apply ev_neS2) <;> walk_at "ev")
  | ((with_reducible apply ev_eqS2) <;> walk_at "ev")
  | ((with_reducible apply ev_eqN) <;> walk_at "ev")
  | ((with_reducible apply ev_neN) <;> walk_at "ev")
  | ((with_reducible apply ev_in_lN) <;> walk_at "ev")
  | ((with_reducible apply ev_in_tN) <;> walk_at "ev")
  | ((with_reducible apply ev_ni_lN) <;> walk_at "ev")
  | ((with_reducible apply ev_ni_tN) <;> walk_at "ev")
  | ((with_reducible apply ev_reprN) <;> walk_at "ev")
  | ((with_reducible apply ev_isN) <;> walk_at "ev")
  | ((with_reducible apply ev_notN) <;> walk_at "ev")
  | ((with_reducible apply ev_andV) <;> walk_at "ev")
  | ((with_reducible apply ev_orV) <;> walk_at "ev")
  | ((with_reducible apply ev_notV) <;> walk_at "ev")
  | ((with_reducible apply ev_if) <;> walk_at "ev")
  | ((with_reducible apply ev_ix_t) <;> walk_at "ev")
  | ((with_reducible apply ev_ix_l) <;> walk_at "ev")
  | ((with_reducible apply ev_len_t) <;> walk_at "ev")
  | ((with_reducible apply ev_len_l) <;> walk_at "ev")
  | ((with_reducible apply ev_tuple_l) <;> walk_at "ev")
  | ((with_reducible apply ev_tuple_t) <;> walk_at "ev")
  | ((with_reducible apply ev_isi) <;> walk_at "ev")
  | ((with_reducible apply ev_addTM) <;> walk_at "ev")
  | ((with_reducible apply ev_tup0) <;> walk_at "ev")
  | ((with_reducible apply ev_tup1) <;> walk_at "ev")
  | ((with_reducible apply ev_tup2) <;> walk_at "ev")
  | ((with_reducible apply ev_tupM) <;> walk_at "ev")
  | ((with_reducible apply ev_any) <;> walk_at "ev")
  | ((with_reducible apply ev_all) <;> walk_at "ev")
  | ((with_reducible apply ev_sum) <;> walk_at "ev")
  | ((with_reducible apply ev_int1) <;> walk_at "ev")
  | ((with_reducible apply ev_intb) <;> walk_at "ev")
  | ((with_reducible apply ev_call) <;> walk_at "ev")
  | ((with_reducible apply ev_chain) <;> walk_at "ev")
  | ((with_reducible apply ev_chain3) <;> walk_at "ev")
  | ((with_reducible apply ev_empL) <;> walk_at "ev")
  | ((with_reducible apply ev_empT) <;> walk_at "ev")
  | ((with_reducible apply ev_dict0) <;> walk_at "ev")
  | ((with_reducible apply ev_sl_t) <;> walk_at "ev")
  | ((with_reducible apply ev_rev_t) <;> walk_at "ev")
  | ((with_reducible apply el_frz) <;> walk_at "ev")
  | ((with_reducible apply el_lst0) <;> walk_at "ev")
  | ((with_reducible apply el_lst1) <;> walk_at "ev")
  | ((with_reducible apply el_lst2) <;> walk_at "ev")
  | ((with_reducible apply el_lst3) <;> walk_at "ev")
  | ((with_reducible apply el_lstM) <;> walk_at "ev")
  | ((with_reducible apply el_list_l) <;> walk_at "ev")
  | ((with_reducible apply el_list_t) <;> walk_at "ev")
  | ((with_reducible apply el_addLM) <;> walk_at "ev")
  | ((with_reducible apply el_mulLM) <;> walk_at "ev")
  | ((with_reducible apply el_lc1M) <;> walk_at "ev")
  | ((with_reducible apply el_lcM) <;> walk_at "ev")
  | ((with_reducible apply el_sl_l) <;> walk_at "ev")
  | ((with_reducible apply el_rev_l) <;> walk_at "ev")
  | ((with_reducible apply et_yes) <;> walk_at "ev")
  | ((with_reducible apply et_test) <;> walk_at "ev")
  | ((with_reducible apply et_B) <;> walk_at "ev")
  | ((with_reducible apply et_not) <;> walk_at "ev")
  | ((with_reducible apply et_and) <;> walk_at "ev")
  | ((with_reducible apply et_or) <;> walk_at "ev")
  | ((with_reducible apply ei_t) <;> walk_at "ev")
  | ((with_reducible apply ei_l) <;> walk_at "ev")
  | ((with_reducible apply ei_r1M) <;> walk_at "ev")
  | ((with_reducible apply ei_r2M) <;> walk_at "ev")
  | ((with_reducible apply ei_en_t) <;> walk_at "ev")
  | ((with_reducible apply ei_en_l) <;> walk_at "ev")
  | ((with_reducible apply ea_nil) <;> walk_at "ev")
  | ((with_reducible apply ea_cons) <;> walk_at "ev")
  | ((with_reducible apply EvAs.nil) <;> walk_at "ev")
  | ((with_reducible apply EvAs.cons) <;> walk_at "ev")
  | ((with_reducible apply eo_none) <;> walk_at "ev")
  | ((with_reducible apply eo_some) <;> walk_at "ev")
  | ((with_reducible apply tg_name) <;> walk_at "ev")
  | ((with_reducible apply tg_tup) <;> walk_at "ev")
  | ((with_reducible apply tgs_nil) <;> walk_at "ev")
  | ((with_reducible apply tgs_cons) <;> walk_at "ev")
  | ((with_reducible apply r2_lt) <;> walk_at "ev")
  | ((with_reducible apply r2_le) <;> walk_at "ev")
  | ((with_reducible intro _); walk_at "bd")
  | walk_at "cl"
  | (walk_at "no"; walk_at "sd"))
local macro_rules | `(tactic| walk_at "hl") => `(tactic| first | decide | ((simp only [List.length_cons, List.length_nil, List.length_append, List.length_map, List.length_take, List.length_drop]) <;> omega))
local macro_rules | `(tactic| walk_at "ha") => `(tactic| first | exact hall0 | with_reducible assumption | ((with_reducible refine hallC ?_ ?_) <;> first | walk_at "ha" | walk_at "hc") | ((with_reducible refine hallA ?_ ?_) <;> walk_at "ha") | ((with_reducible refine hallM ?_); (with_reducible intro _ _); walk_at "hc"))
local macro_rules | `(tactic| walk_at "hc") => `(tactic| first
  | with_reducible assumption | exact Hc.non | exact Hc.bool
  | ((with_reducible refine Hc.int ?_); first | with_reducible assumption | (unfold Nb; omega))
  | ((with_reducible apply_assumption) <;> with_reducible assumption)
  | ((with_reducible refine Hc.str ?_); exact Nc.str (by decide +kernel) (by decide +kernel))
  | ((with_reducible refine Hc.tup ?_ ?_); (walk_at "hl"); (walk_at "ha"))
  | ((with_reducible refine Hc.lst ?_ ?_); (walk_at "hl"); (walk_at "ha")))
section
variable {P : Program} {w : World} {K : PySem.W.Frag} {mg : Str → Option Value} {base : Heap} {a : Nat → Addr} {d : Nat → FuncData}
theorem find_filter {p : Int × Int → Bool} {l : List (Int × Int)} : l.find? p = (l.filter p).head? := List.head?_filter.symm
theorem hc_parD {n : Nat} {rods : List (Int × Int)} {o : Option (Int × Int)} (hn : n ≤ 24) (h : ∀ r, o = some r → 0 ≤ r.1 ∧ r.1 < r.2 ∧ r.2 < n) : Hc 3 (parD n rods o) := by
  cases o with
  | none => exact .non
  | some r =>
    have := h r rfl
    exact Hc.tup (by show 3 ≤ 24; decide) (hallC (hc_smI (by omega)) (hallC (hc_smI (by omega)) (hallC (hc_few (few_reach hn)) hall0)))
theorem part_rest {n : Nat} {rods : List (Int × Int)} {a b : Int} (h : partB n rods (a, b) = true) : ∃ r rs, restI n [a, b] = r :: rs := by
  unfold partB at h
  simp only at h
  cases e : restI n [a, b] with
  | nil => rw [e] at h; cases h
  | cons r rs => exact ⟨r, rs, rfl⟩
set_option maxHeartbeats 0 in
theorem G_law (T : Txt K mg a d) : FnG P w K mg base CX0 7 (a 24) (d 24) ["script"] (spLaw K) := by
  refine fng_of T.F_law sc_law (fun vs H Q E h => by obtain ⟨x, ns, rfl, _⟩ := h; rfl) (fun cdv A outer s H vs Q E hgu hr h => ?_)
  have hgu := hgu_of hgu (env := PyProof.Rows.envOfC "law" (defScope s_law) s.heap.objs.size (a 24) cdv)
  have hu64 := hr.units; have hu65 := hu65_of hr; have hrep := hrep_of hr; have hu1 := hu_of hr
  obtain ⟨x, ns, rfl, hS, hn, hSy, q⟩ := h
  refine ⟨_, PSs.nox (pss_cons (ps_set (i := 1) sc_law.nd rfl (Or.inr rfl) (pe_callG (G__law_source T) hgu (hr.mono (by decide)) (by rfl) T.g__law_source T.F__law_source.kp T.b__law_source .nil pass0 (pa_cons (pv 0) pa_nil)))
      (pss_cons (ps_for PassesOwn.never rfl (pi_range1 (by rfl) T.z_range (pa_cons pe_int pa_nil)) (pg_name (i := 2) sc_law.nd rfl (Or.inl rfl)) (pss_cons (ps_set (i := 3) sc_law.nd rfl (Or.inr rfl) (pe_callG (G__law_drawn T) hgu (hr.mono (by decide)) (by rfl) T.g__law_drawn T.F__law_drawn.kp T.b__law_drawn .nil pass0 (pa_cons (pv 1) (pa_cons pe_int pa_nil))))
      (pss_cons (ps_par3 (i := 4) (j := 5) (l := 6) rfl sc_law.nd rfl rfl rfl (by decide) (by decide) (by decide) rfl rfl rfl (pa_cons (pe_callG (G__law_parters T) hgu (hr.mono (by decide)) (by rfl) T.g__law_parters T.F__law_parters.kp T.b__law_parters .nil pass0 (pa_cons (pv 3) pa_nil)) (pa_cons (pe_callB (kc_repr K hgu hrep) (by rfl) T.z_repr (by decide +kernel) (pa_cons (pv 3) pa_nil)) (pa_cons (pe_callG (G_first_parter T) hgu (hr.mono (by decide)) (by rfl) T.g_first_parter T.F_first_parter.kp T.b_first_parter .nil pass0 (pa_cons (pv 3) pa_nil)) pa_nil))) rfl)
      (pss_cons (ps_set (i := 7) sc_law.nd rfl (Or.inl rfl) pe_non)
      (pss_cons (ps_if (pt_cmpR (op_neE hu64) (pv 4) (pe_lst pa_nil) (by rfl)) (pss_cons (ps_asg (pe_ix (k_ix K) (pv 4) pe_int (fun _ _ => rfl)) (pg_tup rfl (pgs_cons (pg_name (i := 8) sc_law.nd rfl (Or.inr rfl)) (pgs_cons (pg_name (i := 9) sc_law.nd rfl (Or.inr rfl)) pgs_nil))))
      (pss_cons (ps_setLc (i := 10) (own := [("joint", 11)]) (g := (gName 11)) rfl sc_law.nd rfl rfl (sw_true rfl rfl rfl (by decide +kernel)) (pi_range1 (by rfl) T.z_range (pa_cons (pe_ix (k_ix K) (pv 3) pe_int (fun _ _ => rfl)) pa_nil)) (blkOk_by (N := ["script", "source", "lap", "frame", "some", "held", "told", "due", "a", "b", "rest", "joint", "base", "value", "turn", "shown"]) (sc := defScope s_law) (by decide +kernel)) (fun _ _ _ _ _ => (pg_name (i := 11) sc_law.nd rfl (Or.inl rfl))) (fun _ _ _ _ _ => (pts_one (pt_cmpR (k_notIn K hu65) (pv 11) (pe_tup (pa_cons (pv 8) (pa_cons (pv 9) pa_nil))) (by rfl)))) (fun _ _ _ _ _ => (pv 11)))
      (pss_one (ps_set (i := 7) sc_law.nd rfl (Or.inl rfl) (pe_tup (pa_cons (pv 8) (pa_cons (pv 9) (pa_cons (pe_callTy (kc_tuple K) (by rfl) T.z_tuple (by decide +kernel) (pa_cons (pe_callG (G__law_come_to T) hgu (hr.mono (by decide)) (by rfl) T.g__law_come_to T.F__law_come_to.kp T.b__law_come_to .nil pass0 (pa_cons (pv 3) (pa_cons (pe_ix (k_ix K) (pv 10) pe_int (fun _ _ => rfl)) (pa_cons (pe_tup (pa_cons (pv 8) (pa_cons (pv 9) pa_nil))) pa_nil)))) pa_nil)) pa_nil)))))))) pss_nil)
      (pss_cons (ps_if (pt_cmpR (k_ne K hu64) (pe_callB (kc_repr K hgu hrep) (by rfl) T.z_repr (by decide +kernel) (pa_cons (pv 6) pa_nil)) (pe_callB (kc_repr K hgu hrep) (by rfl) T.z_repr (by decide +kernel) (pa_cons (pv 7) pa_nil)) (by rfl)) (pss_one (ps_ret pe_bl)) pss_nil)
      (pss_cons (ps_set (i := 12) sc_law.nd rfl (Or.inr rfl) (pe_ifExp (pt_cmp (pc_notN (pv 7))) (pv 7) (pe_tup (pa_cons pe_int (pa_cons pe_int (pa_cons (pe_tup (pa_cons pe_int pa_nil)) pa_nil))))))
      (pss_cons (ps_for PassesOwn.never rfl (kpi_seq K (pe_op (k_add K) (pe_lst (pa_cons (pv 12) pa_nil)) (pe_lc (own := [("turn", 14)]) (g := (gName 14)) (tt := tYes) rfl sc_law.nd (pi_range1 (by rfl) T.z_range (pa_cons pe_int pa_nil)) (blkOk_by (N := ["script", "source", "lap", "frame", "some", "held", "told", "due", "a", "b", "rest", "joint", "base", "value", "turn", "shown"]) (sc := defScope s_law) (by decide +kernel)) (fun _ _ _ _ _ => (pg_name (i := 14) sc_law.nd rfl (Or.inl rfl))) (fun _ _ _ _ _ => pts_nil) (fun _ _ _ _ _ => (pe_callG (G__law_near T) hgu (hr.mono (by decide)) (by rfl) T.g__law_near T.F__law_near.kp T.b__law_near .nil pass0 (pa_cons (pv 1) (pa_cons (pv 3) (pa_cons (pv 12) pa_nil)))))))) (pg_name (i := 13) sc_law.nd rfl (Or.inl rfl)) (pss_cons (ps_set (i := 15) sc_law.nd rfl (Or.inl rfl) (pe_callB (kc_repr K hgu hrep) (by rfl) T.z_repr (by decide +kernel) (pa_cons (pv 13) pa_nil)))
      (pss_one (ps_if (PW.pt (pw_or (pt_cmpR (k_ne K hu64) (pe_callB (kc_repr K hgu hrep) (by rfl) T.z_repr (by decide +kernel) (pa_cons (pe_callG (G_is_parter T) hgu (hr.mono (by decide)) (by rfl) T.g_is_parter T.F_is_parter.kp T.b_is_parter .nil pass0 (pa_cons (pv 3) (pa_cons (pv 13) pa_nil))) pa_nil)) (pe_callB (kc_repr K hgu hrep) (by rfl) T.z_repr (by decide +kernel) (pa_cons (pe_callG (G__law_is_parter T) hgu (hr.mono (by decide)) (by rfl) T.g__law_is_parter T.F__law_is_parter.kp T.b__law_is_parter .nil pass0 (pa_cons (pv 3) (pa_cons (pv 13) pa_nil))) pa_nil)) (by rfl)) (pw_or1 (pt_cmpR (k_ne K hu64) (pe_callB (kc_repr K hgu hrep) (by rfl) T.z_repr (by decide +kernel) (pa_cons (pv 13) pa_nil)) (pv 15) (by rfl))))) (pss_one (ps_ret pe_bl)) pss_nil))))
      (pss_one (ps_if (pt_cmpR (k_ne K hu64) (pe_callB (kc_repr K hgu hrep) (by rfl) T.z_repr (by decide +kernel) (pa_cons (pv 3) pa_nil)) (pv 5) (by rfl)) (pss_one (ps_ret pe_bl)) pss_nil))))))))))
      (pss_one (ps_ret pe_bl)))), law_start (n := 14) hS hn hSy rfl q (fun M hM => ?_)⟩
  clear hgu hu64 hu65 hrep hu1 hr hS hSy q
  refine run_seq (run_for (N := fun w => w = (List.range (3 : Int).toNat).map fun i : Nat => PyData.int (i : Int)) (ei_r1M (j := 3) ev_int (by decide)) (fun ds k ρ' => Wk (.no :: .src :: List.replicate 14 .no) ρ') (fun _ _ => Wk.refl _) ?_ ?_)
  · rintro ds lp dd ρ' hN hdd hw
    subst hN
    refine ⟨_, tg_name, run_wk (hw.setNo rfl) ?_⟩
    clear hw hdd
    refine run_seq (run_set (P := fun w => ∃ (m : Nat) (rods : List (Int × Int)), w = encF m rods ∧ Rods m rods ∧ (4 ≤ m ∧ m ≤ 8)) (evp_call (N := fun bs => bs = [.src, .dat (.int 8)]) (ea_src (N1 := fun bs => bs = [.dat (.int 8)]) rfl (ea_cons ev_int ea_nil) (fun bs e => by rw [e])) (fun bs e => by subst e; exact ⟨rfl, hM, rfl, rfl⟩)) ?_)
    rintro w ⟨n, rods, rfl, h, n4, n8⟩
    have hn := h.n2
    have nF : NC (encF n rods) := (nc_frame h).up
    have c1 : R__law_parters M [.dat (encF n rods)] (fun w => w = .list (((pairsI n).filter (partB n rods)).map encP)) := ⟨n, rods, rfl, h, rfl⟩
    have c2 : R_first_parter M [.dat (encF n rods)] (fun w => w = parD n rods ((pairsI n).find? (partB n rods))) := ⟨n, rods, rfl, h, rfl⟩
    refine run_seq (run_par3 (x := .list (((pairsI n).filter (partB n rods)).map encP)) (y := .str (encF n rods).shown) (z := parD n rods ((pairsI n).find? (partB n rods))) (EvAs.cons (ev_call (ea_cons (ev_var rfl) ea_nil) rfl c1) (EvAs.cons (ev_reprN (ev_var rfl) nF) (EvAs.cons (ev_call (ea_cons (ev_var rfl) ea_nil) rfl c2) EvAs.nil))) ?_)
    clear c1 c2
    generalize hkept : (encF n rods).shown = kept
    have hmem : ∀ r, (pairsI n).find? (partB n rods) = some r → 0 ≤ r.1 ∧ r.1 < r.2 ∧ r.2 < n := fun r e => mem_pairs.mp (List.mem_of_find?_eq_some e)
    have hD := hc_parD (rods := rods) hn hmem
    refine run_seq (run_setD (d := .none) ev_non ?_)
    show Pu.Run M _ [.no, .src, .no, .dat (encF n rods), .dat (.list (((pairsI n).filter (partB n rods)).map encP)), .dat (.str kept), .dat (parD n rods ((pairsI n).find? (partB n rods))), .dat .none, .no, .no, .no, .no, .no, .no, .no, .no] _
    refine run_cut (fun ρ' => Wk [.no, .src, .no, .dat (encF n rods), .no, .dat (.str kept), .dat (parD n rods ((pairsI n).find? (partB n rods))), .dat (parD n rods ((pairsI n).find? (partB n rods))), .no, .no, .no, .no, .no, .no, .no, .no] ρ') ?_ ?_
    · cases hf : (pairsI n).filter (partB n rods) with
      | nil =>
        have e : (pairsI n).find? (partB n rods) = none := by rw [find_filter, hf]; rfl
        rw [e]
        exact run_ifD (b := false) ((et_test (ev_empL (f := not) (xs := []) (ev_var rfl) (el_frz el_lst0))).to rfl) (fun z => by cases z) (fun _ => run_next (by walk_at "wk"))
      | cons p ps =>
        have e : (pairsI n).find? (partB n rods) = some p := by rw [find_filter, hf]; rfl
        rw [e]
        obtain ⟨p0, p1, p2⟩ := hmem p e
        have hpt := List.find?_some e
        obtain ⟨a, b⟩ := p
        simp only at p0 p1 p2
        obtain ⟨r, rs, hr⟩ := part_rest hpt
        have hfew : Few [a, b] := ⟨by show 2 ≤ 24; decide, fun i hi => by
          rcases List.mem_cons.mp hi with rfl | hi
          · omega
          · rw [List.mem_singleton.mp hi]
            omega⟩
        have x0 : ∀ ρ : List Ab, ρ[3]? = some (.dat (encF n rods)) → EvD M (tOp (rIx2 K) (tVar 3) (tC (V.int 0))) ρ (.int (n : Int)) := fun ρ e => ev_ix_t (xs := [PyData.int (n : Int), encPs rods]) (i := 0) (ev_var e) ev_int rfl
        refine run_ifD (b := true) ((et_test (ev_empL (f := not) (xs := ((a, b) :: ps).map encP) (ev_var rfl) (el_frz el_lst0))).to rfl) (fun _ => ?_) (fun z => by cases z)
        refine run_seq (run_asgD (d := encP (a, b)) (ev_ix_l (i := 0) (xs := ((a, b) :: ps).map encP) (ev_var rfl) ev_int atI_c0) (tg_tup rfl (tgs_cons tg_name (tgs_cons tg_name tgs_nil))) ?_)
        refine run_seq (run_setL (ds := (restI n [a, b]).map PyData.int) (by show 10 < 16; decide) (EvN.imp (el_lcM (as := List.range n) (en := fun i : Nat => PyData.int (i : Int)) (l := fun i => [(11, .int (i : Int))]) (p := fun i : Nat => !decide ((i : Int) ∈ [a, b])) (f := fun i : Nat => .int (i : Int)) (ei_r1M (j := (n : Int)) (x0 _ rfl) (by omega)) (fun _ _ => tg_name) (fun _ _ => rfl) (fun i hi => ?_) (fun _ _ _ => ev_var rfl) (by rw [List.length_range]; omega)) (fun ds e => e.trans (rest_in n a b))) ?_)
        · have hi := List.mem_range.mp hi
          exact (et_test (ev_ni_tN (ev_var rfl) (ev_tup2 (ev_var rfl) (ev_var rfl)) (nc_small (by omega)) (nc_lot hfew))).to (by rw [← in_lot]; rfl)
        have hr0 := (mem_rest.mp (show r ∈ restI n [a, b] by rw [hr]; simp)).1
        have cc : R__law_come_to M [.dat (encF n rods), .dat (.int r), .dat (encI [a, b])] (fun w => w = encL (reachI n rods [a, b] r)) := ⟨n, rods, r, [a, b], rfl, h, hr0, hfew, rfl⟩
        refine run_frz1 10 rfl ?_
        rw [hr]
        refine run_setD (d := parD n rods (some (a, b))) ?_ (by walk_at "wk")
        show EvD M _ _ (.tuple [.int a, .int b, encI (reachI n rods [a, b] ((restI n [a, b]).headD 0))])
        rw [hr]
        exact ev_tup (ds := [_, _, _]) (ea_cons (ev_var rfl) (ea_cons (ev_var rfl) (ea_cons (ev_tuple_l (ev_call (ea_cons (ev_var rfl) (ea_cons (ev_ix_l (i := 0) (d := .int r) (xs := (r :: rs).map PyData.int) (ev_var rfl) ev_int atI_c0) (ea_cons (ev_tup2 (ev_var rfl) (ev_var rfl)) ea_nil))) rfl cc)) ea_nil))) (by show 3 ≤ sizeLine; decide)
    rintro ρ' hw
    refine run_wk hw ?_
    clear hw
    refine run_seq (run_no (et_rep _ (ev_var rfl) (ev_var rfl) hD.nc) ?_)
    refine run_seq (run_set (P := fun w => ∃ (a b : Int) (lot : List Int), w = .tuple [.int a, .int b, encI lot] ∧ (0 ≤ a ∧ a ≤ 100) ∧ (0 ≤ b ∧ b ≤ 100) ∧ Few lot ∧ lot.length ≤ 8) ?_ ?_)
    · cases e : (pairsI n).find? (partB n rods) with
      | none =>
        refine EvD.imp (ev_ifF (b := false) ((et_test (ev_notN (x := .none) (ev_var rfl))).to rfl) rfl (ev_tup (ds := [.int 0, .int 1, encI [2]]) (ea_cons ev_int (ea_cons ev_int (ea_cons (ev_tup1 ev_int) ea_nil))) (by show 3 ≤ sizeLine; decide))) ⟨0, 1, [2], rfl, by decide, by decide, ⟨by decide, by simp⟩, by decide⟩
      | some r =>
        have hr := hmem r e
        exact EvD.imp (ev_ifT (b := true) ((et_test (ev_notN (x := parD n rods (some r)) (ev_var rfl))).to rfl) rfl (ev_var rfl)) ⟨_, _, _, rfl, by omega, by omega, few_reach hn, Nat.le_trans natsI_len n8⟩
    rintro w ⟨a, b, lot, rfl, ha, hb, hlf, hll⟩
    generalize parD n rods ((pairsI n).find? (partB n rods)) = told
    show Pu.Run M _ [.no, .src, .no, .dat (encF n rods), .no, .dat (.str kept), .dat told, .dat told, .no, .no, .no, .no, .dat (.tuple [.int a, .int b, encI lot]), .no, .no, .no] _
    refine run_seq (run_for (N := fun ds => ds.length ≤ 100 ∧ ∀ d ∈ ds, Hc 3 d) (eip_seq (EvP.imp (EvN.frz (evn_addL (N := fun xs => xs = [.tuple [.int a, .int b, encI lot]]) (M := fun ys => ys.length = 10 ∧ ∀ d ∈ ys, Hc 3 d) (L := fun ds => ds.length ≤ 100 ∧ ∀ d ∈ ds, Hc 3 d) (EvP.imp (el_frz (el_lst1 (ev_var rfl))) (fun d e => ⟨_, e, rfl⟩)) (fun xs _ => EvN.frz (evn_many 10 (fun e => Hc 3 e) (ei_r1M (j := 10) ev_int (by decide)) ?_ (fun ds e => by rw [e, List.length_map, List.length_range]; rfl) (by decide))) ?_)) (fun (d : PyData) (h : ∃ ds : List PyData, d = .list ds ∧ ds.length ≤ 100 ∧ ∀ d ∈ ds, Hc 3 d) => by obtain ⟨ds, e, h⟩ := h; exact ⟨ds, .inl e, h⟩))) (fun _ _ ρ' => Wk [.no, .src, .no, .dat (encF n rods), .no, .dat (.str kept), .no, .no, .no, .no, .no, .no, .no, .no, .no, .no] ρ') (fun _ _ => by walk_at "wk") ?_ ?_)
    · intro ds k d hN hd
      refine ⟨_, tg_name, rfl, evp_call (N := fun bs => bs = [.src, .dat (encF n rods), .dat (.tuple [.int a, .int b, encI lot])]) (ea_src (N1 := fun bs => bs = [.dat (encF n rods), .dat (.tuple [.int a, .int b, encI lot])]) rfl (ea_cons (ev_var rfl) (ea_cons (ev_var rfl) ea_nil)) (fun bs e => by rw [e])) (fun bs e => by subst e; exact ⟨rfl, hM, n, rods, a, b, lot, rfl, ⟨n4, n8⟩, ha, hb, hlf, hll, rfl⟩)⟩
    · rintro xs ys rfl ⟨h1, h2⟩
      refine ⟨le_line (by show 1 + _ ≤ _; omega), by rw [List.length_append]; show 1 + _ ≤ 100; omega, hallA (hallC (Hc.tup (by show 3 ≤ 24; decide) (hallC (hc_smI (by omega)) (hallC (hc_smI (by omega)) (hallC (hc_few hlf) hall0)))) hall0) h2⟩
    · rintro ds i v ρ' ⟨_, hds⟩ hv hw
      have hcv := hds v (List.mem_of_getElem? hv)
      refine ⟨_, tg_name, run_wk (hw.set 13 (.dat v)) ?_⟩
      clear hw
      refine run_seq (run_setD (d := .str v.shown) (ev_reprN (ev_var rfl) hcv.nc) ?_)
      have c1 : R_is_parter M [.dat (encF n rods), .dat v] (fun w => w = .bool (parV n rods v)) := ⟨n, rods, v, rfl, h, hcv, rfl⟩
      exact run_no (et_orF (et_rep (.bool (parV n rods v)) (ev_call (ea_cons (ev_var rfl) (ea_cons (ev_var rfl) ea_nil)) rfl c1) (ev_call (ea_cons (ev_var rfl) (ea_cons (ev_var rfl) ea_nil)) rfl c1) (Nc.bool _).up) (et_shn (x := v) (ev_var rfl) (ev_var rfl) hcv.nc)) (by walk_at "wk")
    rintro _ ρ1 _ hw
    refine run_wk hw ?_
    clear hw
    subst hkept
    exact run_no (et_shn (x := encF n rods) (ev_var rfl) (ev_var rfl) nF) (by walk_at "wk")
  · rintro ds ρ' hN hw
    refine run_wk hw ?_
    exact run_retD (d := .bool true) ev_bl rfl
end
end K53

namespace K53
open PySem L2 Pu
theorem all_mk {l : PySem.W.OpenLaw} {w : World} {K : PySem.W.Frag} {h : Heap} {mg : Str → Option Value} {fa f0 f1 f2 f3 f4 f5 f6 f7 f8 f9 f10 f11 f12 f13 f14 f15 f16 f17 f18 f19 f20 f21 f22 f23 f24 : Addr} (X : K.In h) (G : h.Ns mainGlobals mg) (hfa : mg "law" = some (.ref fa))
    {od0 an0 od1 an1 od2 an2 od3 an3 od4 an4 od5 an5 od6 an6 od7 an7 od8 an8 od9 an9 od10 an10 od11 an11 od12 an12 od13 an13 od14 an14 od15 an15 od16 an16 od17 an17 od18 an18 od19 an19 od20 an20 od21 an21 od22 an22 od23 an23 od24 an24 : Option Addr} {sl0 sl1 sl2 sl3 sl4 sl5 sl6 sl7 sl8 sl9 sl10 sl11 sl12 sl13 sl14 sl15 sl16 sl17 sl18 sl19 sl20 sl21 sl22 sl23 sl24 : Array (Option Value)} {oc0 kV0 dc0 pm0 cd0 ct0 oc1 kV1 dc1 pm1 cd1 ct1 oc2 kV2 dc2 pm2 cd2 ct2 oc3 kV3 dc3 pm3 cd3 ct3 oc4 kV4 dc4 pm4 cd4 ct4 oc5 kV5 dc5 pm5 cd5 ct5 oc6 kV6 dc6 pm6 cd6 ct6 oc7 kV7 dc7 pm7 cd7 ct7 oc8 kV8 dc8 pm8 cd8 ct8 oc9 kV9 dc9 pm9 cd9 ct9 oc10 kV10 dc10 pm10 cd10 ct10 oc11 kV11 dc11 pm11 cd11 ct11 oc12 kV12 dc12 pm12 cd12 ct12 oc13 kV13 dc13 pm13 cd13 ct13 oc14 kV14 dc14 pm14 cd14 ct14 oc15 kV15 dc15 pm15 cd15 ct15 oc16 kV16 dc16 pm16 cd16 ct16 oc17 kV17 dc17 pm17 cd17 ct17 oc18 kV18 dc18 pm18 cd18 ct18 oc19 kV19 dc19 pm19 cd19 ct19 oc20 kV20 dc20 pm20 cd20 ct20 oc21 kV21 dc21 pm21 cd21 ct21 oc22 kV22 dc22 pm22 cd22 ct22 oc23 kV23 dc23 pm23 cd23 ct23 oc24 kV24 dc24 pm24 cd24 ct24 : Value}
    (q0 : PySem.W.nsIn K mainGlobals "is_number" = some (some (.ref f0))) (l0 : K.lookup f0 = some ⟨oc0, od0, .func (PySem.W.fnOf "is_number" "is_number" (defArgs s_is_number) (defBody s_is_number) (defScope s_is_number) .none kV0 dc0 pm0 an0 cd0 ct0), sl0⟩) (c0 : PySem.W.codeIn K cd0 "is_number" = true) (k0 : PySem.W.keepIn K (.ref f0) = true)
    (q1 : PySem.W.nsIn K mainGlobals "is_joint" = some (some (.ref f1))) (l1 : K.lookup f1 = some ⟨oc1, od1, .func (PySem.W.fnOf "is_joint" "is_joint" (defArgs s_is_joint) (defBody s_is_joint) (defScope s_is_joint) .none kV1 dc1 pm1 an1 cd1 ct1), sl1⟩) (c1 : PySem.W.codeIn K cd1 "is_joint" = true) (k1 : PySem.W.keepIn K (.ref f1) = true)
    (q2 : PySem.W.nsIn K mainGlobals "are_tied" = some (some (.ref f2))) (l2 : K.lookup f2 = some ⟨oc2, od2, .func (PySem.W.fnOf "are_tied" "are_tied" (defArgs s_are_tied) (defBody s_are_tied) (defScope s_are_tied) .none kV2 dc2 pm2 an2 cd2 ct2), sl2⟩) (c2 : PySem.W.codeIn K cd2 "are_tied" = true) (k2 : PySem.W.keepIn K (.ref f2) = true)
    (q3 : PySem.W.nsIn K mainGlobals "neighbours" = some (some (.ref f3))) (l3 : K.lookup f3 = some ⟨oc3, od3, .func (PySem.W.fnOf "neighbours" "neighbours" (defArgs s_neighbours) (defBody s_neighbours) (defScope s_neighbours) .none kV3 dc3 pm3 an3 cd3 ct3), sl3⟩) (c3 : PySem.W.codeIn K cd3 "neighbours" = true) (k3 : PySem.W.keepIn K (.ref f3) = true)
    (q4 : PySem.W.nsIn K mainGlobals "come_to" = some (some (.ref f4))) (l4 : K.lookup f4 = some ⟨oc4, od4, .func (PySem.W.fnOf "come_to" "come_to" (defArgs s_come_to) (defBody s_come_to) (defScope s_come_to) .none kV4 dc4 pm4 an4 cd4 ct4), sl4⟩) (c4 : PySem.W.codeIn K cd4 "come_to" = true) (k4 : PySem.W.keepIn K (.ref f4) = true)
    (q5 : PySem.W.nsIn K mainGlobals "pieces_without" = some (some (.ref f5))) (l5 : K.lookup f5 = some ⟨oc5, od5, .func (PySem.W.fnOf "pieces_without" "pieces_without" (defArgs s_pieces_without) (defBody s_pieces_without) (defScope s_pieces_without) .none kV5 dc5 pm5 an5 cd5 ct5), sl5⟩) (c5 : PySem.W.codeIn K cd5 "pieces_without" = true) (k5 : PySem.W.keepIn K (.ref f5) = true)
    (q6 : PySem.W.nsIn K mainGlobals "is_lot" = some (some (.ref f6))) (l6 : K.lookup f6 = some ⟨oc6, od6, .func (PySem.W.fnOf "is_lot" "is_lot" (defArgs s_is_lot) (defBody s_is_lot) (defScope s_is_lot) .none kV6 dc6 pm6 an6 cd6 ct6), sl6⟩) (c6 : PySem.W.codeIn K cd6 "is_lot" = true) (k6 : PySem.W.keepIn K (.ref f6) = true)
    (q7 : PySem.W.nsIn K mainGlobals "first_parter" = some (some (.ref f7))) (l7 : K.lookup f7 = some ⟨oc7, od7, .func (PySem.W.fnOf "first_parter" "first_parter" (defArgs s_first_parter) (defBody s_first_parter) (defScope s_first_parter) .none kV7 dc7 pm7 an7 cd7 ct7), sl7⟩) (c7 : PySem.W.codeIn K cd7 "first_parter" = true) (k7 : PySem.W.keepIn K (.ref f7) = true)
    (q8 : PySem.W.nsIn K mainGlobals "is_parter" = some (some (.ref f8))) (l8 : K.lookup f8 = some ⟨oc8, od8, .func (PySem.W.fnOf "is_parter" "is_parter" (defArgs s_is_parter) (defBody s_is_parter) (defScope s_is_parter) .none kV8 dc8 pm8 an8 cd8 ct8), sl8⟩) (c8 : PySem.W.codeIn K cd8 "is_parter" = true) (k8 : PySem.W.keepIn K (.ref f8) = true)
    (q9 : PySem.W.nsIn K mainGlobals "_law_source" = some (some (.ref f9))) (l9 : K.lookup f9 = some ⟨oc9, od9, .func (PySem.W.fnOf "_law_source" "_law_source" (defArgs s__law_source) (defBody s__law_source) (defScope s__law_source) .none kV9 dc9 pm9 an9 cd9 ct9), sl9⟩) (c9 : PySem.W.codeIn K cd9 "_law_source" = true) (k9 : PySem.W.keepIn K (.ref f9) = true)
    (q10 : PySem.W.nsIn K mainGlobals "_law_pick" = some (some (.ref f10))) (l10 : K.lookup f10 = some ⟨oc10, od10, .func (PySem.W.fnOf "_law_pick" "_law_pick" (defArgs s__law_pick) (defBody s__law_pick) (defScope s__law_pick) .none kV10 dc10 pm10 an10 cd10 ct10), sl10⟩) (c10 : PySem.W.codeIn K cd10 "_law_pick" = true) (k10 : PySem.W.keepIn K (.ref f10) = true)
    (q11 : PySem.W.nsIn K mainGlobals "_law_of" = some (some (.ref f11))) (l11 : K.lookup f11 = some ⟨oc11, od11, .func (PySem.W.fnOf "_law_of" "_law_of" (defArgs s__law_of) (defBody s__law_of) (defScope s__law_of) .none kV11 dc11 pm11 an11 cd11 ct11), sl11⟩) (c11 : PySem.W.codeIn K cd11 "_law_of" = true) (k11 : PySem.W.keepIn K (.ref f11) = true)
    (q12 : PySem.W.nsIn K mainGlobals "_law_mixed" = some (some (.ref f12))) (l12 : K.lookup f12 = some ⟨oc12, od12, .func (PySem.W.fnOf "_law_mixed" "_law_mixed" (defArgs s__law_mixed) (defBody s__law_mixed) (defScope s__law_mixed) .none kV12 dc12 pm12 an12 cd12 ct12), sl12⟩) (c12 : PySem.W.codeIn K cd12 "_law_mixed" = true) (k12 : PySem.W.keepIn K (.ref f12) = true)
    (q13 : PySem.W.nsIn K mainGlobals "_law_pairs" = some (some (.ref f13))) (l13 : K.lookup f13 = some ⟨oc13, od13, .func (PySem.W.fnOf "_law_pairs" "_law_pairs" (defArgs s__law_pairs) (defBody s__law_pairs) (defScope s__law_pairs) .none kV13 dc13 pm13 an13 cd13 ct13), sl13⟩) (c13 : PySem.W.codeIn K cd13 "_law_pairs" = true) (k13 : PySem.W.keepIn K (.ref f13) = true)
    (q14 : PySem.W.nsIn K mainGlobals "_law_frame" = some (some (.ref f14))) (l14 : K.lookup f14 = some ⟨oc14, od14, .func (PySem.W.fnOf "_law_frame" "_law_frame" (defArgs s__law_frame) (defBody s__law_frame) (defScope s__law_frame) .none kV14 dc14 pm14 an14 cd14 ct14), sl14⟩) (c14 : PySem.W.codeIn K cd14 "_law_frame" = true) (k14 : PySem.W.keepIn K (.ref f14) = true)
    (q15 : PySem.W.nsIn K mainGlobals "_law_tied" = some (some (.ref f15))) (l15 : K.lookup f15 = some ⟨oc15, od15, .func (PySem.W.fnOf "_law_tied" "_law_tied" (defArgs s__law_tied) (defBody s__law_tied) (defScope s__law_tied) .none kV15 dc15 pm15 an15 cd15 ct15), sl15⟩) (c15 : PySem.W.codeIn K cd15 "_law_tied" = true) (k15 : PySem.W.keepIn K (.ref f15) = true)
    (q16 : PySem.W.nsIn K mainGlobals "_law_come_to" = some (some (.ref f16))) (l16 : K.lookup f16 = some ⟨oc16, od16, .func (PySem.W.fnOf "_law_come_to" "_law_come_to" (defArgs s__law_come_to) (defBody s__law_come_to) (defScope s__law_come_to) .none kV16 dc16 pm16 an16 cd16 ct16), sl16⟩) (c16 : PySem.W.codeIn K cd16 "_law_come_to" = true) (k16 : PySem.W.keepIn K (.ref f16) = true)
    (q17 : PySem.W.nsIn K mainGlobals "_law_parters" = some (some (.ref f17))) (l17 : K.lookup f17 = some ⟨oc17, od17, .func (PySem.W.fnOf "_law_parters" "_law_parters" (defArgs s__law_parters) (defBody s__law_parters) (defScope s__law_parters) .none kV17 dc17 pm17 an17 cd17 ct17), sl17⟩) (c17 : PySem.W.codeIn K cd17 "_law_parters" = true) (k17 : PySem.W.keepIn K (.ref f17) = true)
    (q18 : PySem.W.nsIn K mainGlobals "_law_rod" = some (some (.ref f18))) (l18 : K.lookup f18 = some ⟨oc18, od18, .func (PySem.W.fnOf "_law_rod" "_law_rod" (defArgs s__law_rod) (defBody s__law_rod) (defScope s__law_rod) .none kV18 dc18 pm18 an18 cd18 ct18), sl18⟩) (c18 : PySem.W.codeIn K cd18 "_law_rod" = true) (k18 : PySem.W.keepIn K (.ref f18) = true)
    (q19 : PySem.W.nsIn K mainGlobals "_law_grown" = some (some (.ref f19))) (l19 : K.lookup f19 = some ⟨oc19, od19, .func (PySem.W.fnOf "_law_grown" "_law_grown" (defArgs s__law_grown) (defBody s__law_grown) (defScope s__law_grown) .none kV19 dc19 pm19 an19 cd19 ct19), sl19⟩) (c19 : PySem.W.codeIn K cd19 "_law_grown" = true) (k19 : PySem.W.keepIn K (.ref f19) = true)
    (q20 : PySem.W.nsIn K mainGlobals "_law_drawn" = some (some (.ref f20))) (l20 : K.lookup f20 = some ⟨oc20, od20, .func (PySem.W.fnOf "_law_drawn" "_law_drawn" (defArgs s__law_drawn) (defBody s__law_drawn) (defScope s__law_drawn) .none kV20 dc20 pm20 an20 cd20 ct20), sl20⟩) (c20 : PySem.W.codeIn K cd20 "_law_drawn" = true) (k20 : PySem.W.keepIn K (.ref f20) = true)
    (q21 : PySem.W.nsIn K mainGlobals "_law_is_lot" = some (some (.ref f21))) (l21 : K.lookup f21 = some ⟨oc21, od21, .func (PySem.W.fnOf "_law_is_lot" "_law_is_lot" (defArgs s__law_is_lot) (defBody s__law_is_lot) (defScope s__law_is_lot) .none kV21 dc21 pm21 an21 cd21 ct21), sl21⟩) (c21 : PySem.W.codeIn K cd21 "_law_is_lot" = true) (k21 : PySem.W.keepIn K (.ref f21) = true)
    (q22 : PySem.W.nsIn K mainGlobals "_law_is_parter" = some (some (.ref f22))) (l22 : K.lookup f22 = some ⟨oc22, od22, .func (PySem.W.fnOf "_law_is_parter" "_law_is_parter" (defArgs s__law_is_parter) (defBody s__law_is_parter) (defScope s__law_is_parter) .none kV22 dc22 pm22 an22 cd22 ct22), sl22⟩) (c22 : PySem.W.codeIn K cd22 "_law_is_parter" = true) (k22 : PySem.W.keepIn K (.ref f22) = true)
    (q23 : PySem.W.nsIn K mainGlobals "_law_near" = some (some (.ref f23))) (l23 : K.lookup f23 = some ⟨oc23, od23, .func (PySem.W.fnOf "_law_near" "_law_near" (defArgs s__law_near) (defBody s__law_near) (defScope s__law_near) .none kV23 dc23 pm23 an23 cd23 ct23), sl23⟩) (c23 : PySem.W.codeIn K cd23 "_law_near" = true) (k23 : PySem.W.keepIn K (.ref f23) = true)
    (q24 : PySem.W.nsIn K mainGlobals "law" = some (some (.ref f24))) (l24 : K.lookup f24 = some ⟨oc24, od24, .func (PySem.W.fnOf "law" "law" (defArgs s_law) (defBody s_law) (defScope s_law) .none kV24 dc24 pm24 an24 cd24 ct24), sl24⟩) (c24 : PySem.W.codeIn K cd24 "law" = true) (k24 : PySem.W.keepIn K (.ref f24) = true)
    (z_abs : PySem.W.nsIn K mainGlobals "abs" = some none)
    (z_all : PySem.W.nsIn K mainGlobals "all" = some none)
    (z_any : PySem.W.nsIn K mainGlobals "any" = some none)
    (z_bool : PySem.W.nsIn K mainGlobals "bool" = some none)
    (z_dict : PySem.W.nsIn K mainGlobals "dict" = some none)
    (z_int : PySem.W.nsIn K mainGlobals "int" = some none)
    (z_isinstance : PySem.W.nsIn K mainGlobals "isinstance" = some none)
    (z_len : PySem.W.nsIn K mainGlobals "len" = some none)
    (z_list : PySem.W.nsIn K mainGlobals "list" = some none)
    (z_max : PySem.W.nsIn K mainGlobals "max" = some none)
    (z_min : PySem.W.nsIn K mainGlobals "min" = some none)
    (z_range : PySem.W.nsIn K mainGlobals "range" = some none)
    (z_repr : PySem.W.nsIn K mainGlobals "repr" = some none)
    (z_sorted : PySem.W.nsIn K mainGlobals "sorted" = some none)
    (z_tuple : PySem.W.nsIn K mainGlobals "tuple" = some none)
    (z_zip : PySem.W.nsIn K mainGlobals "zip" = some none) :
    ∃ fd : FuncData, (∀ (s : Shared) (v : Value), BindsTo s fd ⟨[v], []⟩ [("script", v)]) ∧ ∀ base : Heap, K.In base → base.Ns mainGlobals mg → FnG l.prog w K mg base CX0 7 fa fd ["script"] (spLaw K) := by
  have e := hfa.symm.trans (PySem.W.mg_of X G q24)
  cases e
  have T : Txt K mg (fun n => ([f0, f1, f2, f3, f4, f5, f6, f7, f8, f9, f10, f11, f12, f13, f14, f15, f16, f17, f18, f19, f20, f21, f22, f23, fa] : List Addr).getD n f0) (fun n => ([PySem.W.fnOf "is_number" "is_number" (defArgs s_is_number) (defBody s_is_number) (defScope s_is_number) .none kV0 dc0 pm0 an0 cd0 ct0, PySem.W.fnOf "is_joint" "is_joint" (defArgs s_is_joint) (defBody s_is_joint) (defScope s_is_joint) .none kV1 dc1 pm1 an1 cd1 ct1, PySem.W.fnOf "are_tied" "are_tied" (defArgs s_are_tied) (defBody s_are_tied) (defScope s_are_tied) .none kV2 dc2 pm2 an2 cd2 ct2, PySem.W.fnOf "neighbours" "neighbours" (defArgs s_neighbours) (defBody s_neighbours) (defScope s_neighbours) .none kV3 dc3 pm3 an3 cd3 ct3, PySem.W.fnOf "come_to" "come_to" (defArgs s_come_to) (defBody s_come_to) (defScope s_come_to) .none kV4 dc4 pm4 an4 cd4 ct4, PySem.W.fnOf "pieces_without" "pieces_without" (defArgs s_pieces_without) (defBody s_pieces_without) (defScope s_pieces_without) .none kV5 dc5 pm5 an5 cd5 ct5, PySem.W.fnOf "is_lot" "is_lot" (defArgs s_is_lot) (defBody s_is_lot) (defScope s_is_lot) .none kV6 dc6 pm6 an6 cd6 ct6, PySem.W.fnOf "first_parter" "first_parter" (defArgs s_first_parter) (defBody s_first_parter) (defScope s_first_parter) .none kV7 dc7 pm7 an7 cd7 ct7, PySem.W.fnOf "is_parter" "is_parter" (defArgs s_is_parter) (defBody s_is_parter) (defScope s_is_parter) .none kV8 dc8 pm8 an8 cd8 ct8, PySem.W.fnOf "_law_source" "_law_source" (defArgs s__law_source) (defBody s__law_source) (defScope s__law_source) .none kV9 dc9 pm9 an9 cd9 ct9, PySem.W.fnOf "_law_pick" "_law_pick" (defArgs s__law_pick) (defBody s__law_pick) (defScope s__law_pick) .none kV10 dc10 pm10 an10 cd10 ct10, PySem.W.fnOf "_law_of" "_law_of" (defArgs s__law_of) (defBody s__law_of) (defScope s__law_of) .none kV11 dc11 pm11 an11 cd11 ct11, PySem.W.fnOf "_law_mixed" "_law_mixed" (defArgs s__law_mixed) (defBody s__law_mixed) (defScope s__law_mixed) .none kV12 dc12 pm12 an12 cd12 ct12, PySem.W.fnOf "_law_pairs" "_law_pairs" (defArgs s__law_pairs) (defBody s__law_pairs) (defScope s__law_pairs) .none kV13 dc13 pm13 an13 cd13 ct13, PySem.W.fnOf "_law_frame" "_law_frame" (defArgs s__law_frame) (defBody s__law_frame) (defScope s__law_frame) .none kV14 dc14 pm14 an14 cd14 ct14, PySem.W.fnOf "_law_tied" "_law_tied" (defArgs s__law_tied) (defBody s__law_tied) (defScope s__law_tied) .none kV15 dc15 pm15 an15 cd15 ct15, PySem.W.fnOf "_law_come_to" "_law_come_to" (defArgs s__law_come_to) (defBody s__law_come_to) (defScope s__law_come_to) .none kV16 dc16 pm16 an16 cd16 ct16, PySem.W.fnOf "_law_parters" "_law_parters" (defArgs s__law_parters) (defBody s__law_parters) (defScope s__law_parters) .none kV17 dc17 pm17 an17 cd17 ct17, PySem.W.fnOf "_law_rod" "_law_rod" (defArgs s__law_rod) (defBody s__law_rod) (defScope s__law_rod) .none kV18 dc18 pm18 an18 cd18 ct18, PySem.W.fnOf "_law_grown" "_law_grown" (defArgs s__law_grown) (defBody s__law_grown) (defScope s__law_grown) .none kV19 dc19 pm19 an19 cd19 ct19, PySem.W.fnOf "_law_drawn" "_law_drawn" (defArgs s__law_drawn) (defBody s__law_drawn) (defScope s__law_drawn) .none kV20 dc20 pm20 an20 cd20 ct20, PySem.W.fnOf "_law_is_lot" "_law_is_lot" (defArgs s__law_is_lot) (defBody s__law_is_lot) (defScope s__law_is_lot) .none kV21 dc21 pm21 an21 cd21 ct21, PySem.W.fnOf "_law_is_parter" "_law_is_parter" (defArgs s__law_is_parter) (defBody s__law_is_parter) (defScope s__law_is_parter) .none kV22 dc22 pm22 an22 cd22 ct22, PySem.W.fnOf "_law_near" "_law_near" (defArgs s__law_near) (defBody s__law_near) (defScope s__law_near) .none kV23 dc23 pm23 an23 cd23 ct23, PySem.W.fnOf "law" "law" (defArgs s_law) (defBody s_law) (defScope s_law) .none kV24 dc24 pm24 an24 cd24 ct24] : List FuncData).getD n (PySem.W.fnOf "is_number" "is_number" (defArgs s_is_number) (defBody s_is_number) (defScope s_is_number) .none kV0 dc0 pm0 an0 cd0 ct0)) := {
    F_is_number := fun_mk (st := s_is_number) l0 c0 k0
    b_is_number := (fun_mk (st := s_is_number) l0 c0 k0).binds (ps := ["value"]) fun _ _ _ _ _ _ us hl => match us, hl with | [_], _ => rfl
    g_is_number := PySem.W.mg_of X G q0
    F_is_joint := fun_mk (st := s_is_joint) l1 c1 k1
    b_is_joint := (fun_mk (st := s_is_joint) l1 c1 k1).binds (ps := ["frame", "value"]) fun _ _ _ _ _ _ us hl => match us, hl with | [_, _], _ => rfl
    g_is_joint := PySem.W.mg_of X G q1
    F_are_tied := fun_mk (st := s_are_tied) l2 c2 k2
    b_are_tied := (fun_mk (st := s_are_tied) l2 c2 k2).binds (ps := ["frame", "a", "b"]) fun _ _ _ _ _ _ us hl => match us, hl with | [_, _, _], _ => rfl
    g_are_tied := PySem.W.mg_of X G q2
    F_neighbours := fun_mk (st := s_neighbours) l3 c3 k3
    b_neighbours := (fun_mk (st := s_neighbours) l3 c3 k3).binds (ps := ["frame", "joint"]) fun _ _ _ _ _ _ us hl => match us, hl with | [_, _], _ => rfl
    g_neighbours := PySem.W.mg_of X G q3
    F_come_to := fun_mk (st := s_come_to) l4 c4 k4
    b_come_to := (fun_mk (st := s_come_to) l4 c4 k4).binds (ps := ["frame", "joint", "gone"]) fun _ _ _ _ _ _ us hl => match us, hl with | [_, _, _], _ => rfl
    g_come_to := PySem.W.mg_of X G q4
    F_pieces_without := fun_mk (st := s_pieces_without) l5 c5 k5
    b_pieces_without := (fun_mk (st := s_pieces_without) l5 c5 k5).binds (ps := ["frame", "gone"]) fun _ _ _ _ _ _ us hl => match us, hl with | [_, _], _ => rfl
    g_pieces_without := PySem.W.mg_of X G q5
    F_is_lot := fun_mk (st := s_is_lot) l6 c6 k6
    b_is_lot := (fun_mk (st := s_is_lot) l6 c6 k6).binds (ps := ["value", "most"]) fun _ _ _ _ _ _ us hl => match us, hl with | [_, _], _ => rfl
    g_is_lot := PySem.W.mg_of X G q6
    F_first_parter := fun_mk (st := s_first_parter) l7 c7 k7
    b_first_parter := (fun_mk (st := s_first_parter) l7 c7 k7).binds (ps := ["frame"]) fun _ _ _ _ _ _ us hl => match us, hl with | [_], _ => rfl
    g_first_parter := PySem.W.mg_of X G q7
    F_is_parter := fun_mk (st := s_is_parter) l8 c8 k8
    b_is_parter := (fun_mk (st := s_is_parter) l8 c8 k8).binds (ps := ["frame", "value"]) fun _ _ _ _ _ _ us hl => match us, hl with | [_, _], _ => rfl
    g_is_parter := PySem.W.mg_of X G q8
    F__law_source := fun_mk (st := s__law_source) l9 c9 k9
    b__law_source := (fun_mk (st := s__law_source) l9 c9 k9).binds (ps := ["script"]) fun _ _ _ _ _ _ us hl => match us, hl with | [_], _ => rfl
    g__law_source := PySem.W.mg_of X G q9
    F__law_pick := fun_mk (st := s__law_pick) l10 c10 k10
    b__law_pick := (fun_mk (st := s__law_pick) l10 c10 k10).binds (ps := ["source", "many"]) fun _ _ _ _ _ _ us hl => match us, hl with | [_, _], _ => rfl
    g__law_pick := PySem.W.mg_of X G q10
    F__law_of := fun_mk (st := s__law_of) l11 c11 k11
    b__law_of := (fun_mk (st := s__law_of) l11 c11 k11).binds (ps := ["source", "some"]) fun _ _ _ _ _ _ us hl => match us, hl with | [_, _], _ => rfl
    g__law_of := PySem.W.mg_of X G q11
    F__law_mixed := fun_mk (st := s__law_mixed) l12 c12 k12
    b__law_mixed := (fun_mk (st := s__law_mixed) l12 c12 k12).binds (ps := ["source", "things"]) fun _ _ _ _ _ _ us hl => match us, hl with | [_, _], _ => rfl
    g__law_mixed := PySem.W.mg_of X G q12
    F__law_pairs := fun_mk (st := s__law_pairs) l13 c13 k13
    b__law_pairs := (fun_mk (st := s__law_pairs) l13 c13 k13).binds (ps := ["n"]) fun _ _ _ _ _ _ us hl => match us, hl with | [_], _ => rfl
    g__law_pairs := PySem.W.mg_of X G q13
    F__law_frame := fun_mk (st := s__law_frame) l14 c14 k14
    b__law_frame := (fun_mk (st := s__law_frame) l14 c14 k14).binds (ps := ["source", "least", "most"]) fun _ _ _ _ _ _ us hl => match us, hl with | [_, _, _], _ => rfl
    g__law_frame := PySem.W.mg_of X G q14
    F__law_tied := fun_mk (st := s__law_tied) l15 c15 k15
    b__law_tied := (fun_mk (st := s__law_tied) l15 c15 k15).binds (ps := ["frame", "a", "b"]) fun _ _ _ _ _ _ us hl => match us, hl with | [_, _, _], _ => rfl
    g__law_tied := PySem.W.mg_of X G q15
    F__law_come_to := fun_mk (st := s__law_come_to) l16 c16 k16
    b__law_come_to := (fun_mk (st := s__law_come_to) l16 c16 k16).binds (ps := ["frame", "joint", "gone"]) fun _ _ _ _ _ _ us hl => match us, hl with | [_, _, _], _ => rfl
    g__law_come_to := PySem.W.mg_of X G q16
    F__law_parters := fun_mk (st := s__law_parters) l17 c17 k17
    b__law_parters := (fun_mk (st := s__law_parters) l17 c17 k17).binds (ps := ["frame"]) fun _ _ _ _ _ _ us hl => match us, hl with | [_], _ => rfl
    g__law_parters := PySem.W.mg_of X G q17
    F__law_rod := fun_mk (st := s__law_rod) l18 c18 k18
    b__law_rod := (fun_mk (st := s__law_rod) l18 c18 k18).binds (ps := ["a", "b"]) fun _ _ _ _ _ _ us hl => match us, hl with | [_, _], _ => rfl
    g__law_rod := PySem.W.mg_of X G q18
    F__law_grown := fun_mk (st := s__law_grown) l19 c19 k19
    b__law_grown := (fun_mk (st := s__law_grown) l19 c19 k19).binds (ps := ["source", "n"]) fun _ _ _ _ _ _ us hl => match us, hl with | [_, _], _ => rfl
    g__law_grown := PySem.W.mg_of X G q19
    F__law_drawn := fun_mk (st := s__law_drawn) l20 c20 k20
    b__law_drawn := (fun_mk (st := s__law_drawn) l20 c20 k20).binds (ps := ["source", "most"]) fun _ _ _ _ _ _ us hl => match us, hl with | [_, _], _ => rfl
    g__law_drawn := PySem.W.mg_of X G q20
    F__law_is_lot := fun_mk (st := s__law_is_lot) l21 c21 k21
    b__law_is_lot := (fun_mk (st := s__law_is_lot) l21 c21 k21).binds (ps := ["value", "n"]) fun _ _ _ _ _ _ us hl => match us, hl with | [_, _], _ => rfl
    g__law_is_lot := PySem.W.mg_of X G q21
    F__law_is_parter := fun_mk (st := s__law_is_parter) l22 c22 k22
    b__law_is_parter := (fun_mk (st := s__law_is_parter) l22 c22 k22).binds (ps := ["frame", "value"]) fun _ _ _ _ _ _ us hl => match us, hl with | [_, _], _ => rfl
    g__law_is_parter := PySem.W.mg_of X G q22
    F__law_near := fun_mk (st := s__law_near) l23 c23 k23
    b__law_near := (fun_mk (st := s__law_near) l23 c23 k23).binds (ps := ["source", "frame", "value"]) fun _ _ _ _ _ _ us hl => match us, hl with | [_, _, _], _ => rfl
    g__law_near := PySem.W.mg_of X G q23
    F_law := fun_mk (st := s_law) l24 c24 k24
    b_law := (fun_mk (st := s_law) l24 c24 k24).binds (ps := ["script"]) fun _ _ _ _ _ _ us hl => match us, hl with | [_], _ => rfl
    g_law := PySem.W.mg_of X G q24
    z_abs := PySem.W.mg_none_of X G z_abs
    z_all := PySem.W.mg_none_of X G z_all
    z_any := PySem.W.mg_none_of X G z_any
    z_bool := PySem.W.mg_none_of X G z_bool
    z_dict := PySem.W.mg_none_of X G z_dict
    z_int := PySem.W.mg_none_of X G z_int
    z_isinstance := PySem.W.mg_none_of X G z_isinstance
    z_len := PySem.W.mg_none_of X G z_len
    z_list := PySem.W.mg_none_of X G z_list
    z_max := PySem.W.mg_none_of X G z_max
    z_min := PySem.W.mg_none_of X G z_min
    z_range := PySem.W.mg_none_of X G z_range
    z_repr := PySem.W.mg_none_of X G z_repr
    z_sorted := PySem.W.mg_none_of X G z_sorted
    z_tuple := PySem.W.mg_none_of X G z_tuple
    z_zip := PySem.W.mg_none_of X G z_zip
  }
  exact ⟨PySem.W.fnOf "law" "law" (defArgs s_law) (defBody s_law) (defScope s_law) .none kV24 dc24 pm24 an24 cd24 ct24, fun s v => .of_eq rfl, fun base _ _ => G_law T⟩
end K53
open PySem PySem.W PyProof.Rows
set_option maxRecDepth 100000 in
set_option maxHeartbeats 0 in
theorem PySem.Challenge.cw_framesheld_k53_parters_of_frames_holds : PySem.Challenge.rw_framesheld_k53_parters_of_frames.Holds := by
  w_on; o_law; k_head; (case hw => w_witness2)
  k_fill
  refine Pu.walk_ofG (l := PySem.Challenge.rw_framesheld_k53_parters_of_frames) (n := 63) (k := 7) (x := "script") (sp := fun w => Pu.spLaw _) rfl (by decide) rfl ⟨rfl, by decide, by decide⟩ (fun _ => rfl) (by decide +kernel) (fun w h Y => PySem.W.kIn_of Y) ?F (fun _ _ a ns hl hS hSy => ⟨a, ns, rfl, hS, hl, hSy, fun _ => rfl⟩)
  case F =>
    intro w mg fa h KX G hmg
    refine' K53.all_mk KX G hmg ?q0 ?l0 ?c0 ?k0 ?q1 ?l1 ?c1 ?k1 ?q2 ?l2 ?c2 ?k2 ?q3 ?l3 ?c3 ?k3 ?q4 ?l4 ?c4 ?k4 ?q5 ?l5 ?c5 ?k5 ?q6 ?l6 ?c6 ?k6 ?q7 ?l7 ?c7 ?k7 ?q8 ?l8 ?c8 ?k8 ?q9 ?l9 ?c9 ?k9 ?q10 ?l10 ?c10 ?k10 ?q11 ?l11 ?c11 ?k11 ?q12 ?l12 ?c12 ?k12 ?q13 ?l13 ?c13 ?k13 ?q14 ?l14 ?c14 ?k14 ?q15 ?l15 ?c15 ?k15 ?q16 ?l16 ?c16 ?k16 ?q17 ?l17 ?c17 ?k17 ?q18 ?l18 ?c18 ?k18 ?q19 ?l19 ?c19 ?k19 ?q20 ?l20 ?c20 ?k20 ?q21 ?l21 ?c21 ?k21 ?q22 ?l22 ?c22 ?k22 ?q23 ?l23 ?c23 ?k23 ?q24 ?l24 ?c24 ?k24 ?z_abs ?z_all ?z_any ?z_bool ?z_dict ?z_int ?z_isinstance ?z_len ?z_list ?z_max ?z_min ?z_range ?z_repr ?z_sorted ?z_tuple ?z_zip
    (case q0 => k_is)
    (case l0 => k_is)
    (case c0 => k_is)
    (case k0 => k_is)
    (case q1 => k_is)
    (case l1 => k_is)
    (case c1 => k_is)
    (case k1 => k_is)
    (case q2 => k_is)
    (case l2 => k_is)
    (case c2 => k_is)
    (case k2 => k_is)
    (case q3 => k_is)
    (case l3 => k_is)
    (case c3 => k_is)
    (case k3 => k_is)
    (case q4 => k_is)
    (case l4 => k_is)
    (case c4 => k_is)
    (case k4 => k_is)
    (case q5 => k_is)
    (case l5 => k_is)
    (case c5 => k_is)
    (case k5 => k_is)
    (case q6 => k_is)
    (case l6 => k_is)
    (case c6 => k_is)
    (case k6 => k_is)
    (case q7 => k_is)
    (case l7 => k_is)
    (case c7 => k_is)
    (case k7 => k_is)
    (case q8 => k_is)
    (case l8 => k_is)
    (case c8 => k_is)
    (case k8 => k_is)
    (case q9 => k_is)
    (case l9 => k_is)
    (case c9 => k_is)
    (case k9 => k_is)
    (case q10 => k_is)
    (case l10 => k_is)
    (case c10 => k_is)
    (case k10 => k_is)
    (case q11 => k_is)
    (case l11 => k_is)
    (case c11 => k_is)
    (case k11 => k_is)
    (case q12 => k_is)
    (case l12 => k_is)
    (case c12 => k_is)
    (case k12 => k_is)
    (case q13 => k_is)
    (case l13 => k_is)
    (case c13 => k_is)
    (case k13 => k_is)
    (case q14 => k_is)
    (case l14 => k_is)
    (case c14 => k_is)
    (case k14 => k_is)
    (case q15 => k_is)
    (case l15 => k_is)
    (case c15 => k_is)
    (case k15 => k_is)
    (case q16 => k_is)
    (case l16 => k_is)
    (case c16 => k_is)
    (case k16 => k_is)
    (case q17 => k_is)
    (case l17 => k_is)
    (case c17 => k_is)
    (case k17 => k_is)
    (case q18 => k_is)
    (case l18 => k_is)
    (case c18 => k_is)
    (case k18 => k_is)
    (case q19 => k_is)
    (case l19 => k_is)
    (case c19 => k_is)
    (case k19 => k_is)
    (case q20 => k_is)
    (case l20 => k_is)
    (case c20 => k_is)
    (case k20 => k_is)
    (case q21 => k_is)
    (case l21 => k_is)
    (case c21 => k_is)
    (case k21 => k_is)
    (case q22 => k_is)
    (case l22 => k_is)
    (case c22 => k_is)
    (case k22 => k_is)
    (case q23 => k_is)
    (case l23 => k_is)
    (case c23 => k_is)
    (case k23 => k_is)
    (case q24 => k_is)
    (case l24 => k_is)
    (case c24 => k_is)
    (case k24 => k_is)
    (case z_abs => k_is)
    (case z_all => k_is)
    (case z_any => k_is)
    (case z_bool => k_is)
    (case z_dict => k_is)
    (case z_int => k_is)
    (case z_isinstance => k_is)
    (case z_len => k_is)
    (case z_list => k_is)
    (case z_max => k_is)
    (case z_min => k_is)
    (case z_range => k_is)
    (case z_repr => k_is)
    (case z_sorted => k_is)
    (case z_tuple => k_is)
    (case z_zip => k_is)
