import PyProof.Rows.All
import Wide.All
import OpenK.AllK
import Wide.FinOn
import HandS.ForMost
import HandS.ExcOwn
import HandS.TryOnly
import HandS.Exc
import HandS.Wide
import HandS.Flow
import HandS.SortInts
import HandS.More
import HandS.Small
import HandS.TupAny
import HandS.IsInst
import PyProof.AutoSeq1
import HandS.Rev
import HandS.WordsExc
import HandS.DictComp
import PySem.Challenge.RW_passproven_k33_symbolic_terms
set_option Elab.async false
set_option linter.all false
set_option maxRecDepth 100000
set_option maxHeartbeats 4000000
/-! Own, part A: plain values W with owned mutable parts, and how they stand in the heap -/
namespace Own
open PySem L2

/-- a Python value as plain data; lst, dict, ins are owned by who holds them, flst is a list nobody changes -/
inductive W where
  | non | bl (b : Bool) | int (i : Int) | str (x : Str)
  | tup (xs : List W) | flst (xs : List W)
  | lst (xs : List W) | dict (ks : List Key) (ws : List W) | fdict (ks : List Key) (ws : List W) | ins (c : Str) (fs : List (Str × W))
deriving Inhabited

mutual
def W.pure : W → Bool
  | .non => true | .bl _ => true | .int _ => true | .str _ => true
  | .tup xs => pureL xs | .flst xs => pureL xs
  | .lst _ => false | .dict _ _ => false | .fdict _ xs => pureL xs | .ins _ _ => false
def pureL : List W → Bool
  | [] => true
  | x :: xs => x.pure && pureL xs
end
theorem pureL_iff {xs : List W} : pureL xs = true ↔ ∀ x ∈ xs, x.pure = true := by
  induction xs with
  | nil => simp [pureL]
  | cons x xs ih => simp [pureL, ih]
theorem pureL_append {xs ys : List W} : pureL (xs ++ ys) = (pureL xs && pureL ys) := by
  induction xs with
  | nil => simp [pureL]
  | cons x xs ih => simp [pureL, ih, Bool.and_assoc]

/-- a list that is not changed -/
def FzL (K : PySem.W.Frag) (H : Hp) (a : Addr) (xs : List V) : Prop :=
  (∃ o, H a = some (.frz o (.lst xs))) ∨ ∃ (o : Obj) (its : Array Value) (n : Nat), K.lookup a = some o ∧ o.cls = .type "list" ∧ o.dict = none ∧ o.data = .seq its n ∧ its.size ≤ sizeLine ∧ Vals xs its.toList
def Tp (K : PySem.W.Frag) (H : Hp) (a : Addr) (xs : List V) : Prop :=
  H a = some (.tup xs) ∨ ∃ (o : Obj) (its : Array Value) (n : Nat), K.lookup a = some o ∧ o.cls = .type "tuple" ∧ o.data = .seq its n ∧ its.size ≤ sizeLine ∧ Vals xs its.toList
theorem FzL.sq {K : PySem.W.Frag} {H : Hp} {a : Addr} {xs : List V} (h : FzL K H a xs) : SqL K H a xs := by
  rcases h with ⟨o, h⟩ | h
  · exact .inl (.inr ⟨o, h⟩)
  · exact .inr h
theorem Tp.sq {K : PySem.W.Frag} {H : Hp} {a : Addr} {xs : List V} (h : Tp K H a xs) : SqT K H a xs := by
  rcases h with h | h
  · exact .inl (.inl h)
  · exact .inr h

/-- a dict that is not changed -/
def FzD (H : Hp) (a : Addr) (kvs : List (Key × V)) : Prop := ∃ o, H a = some (.frz o (.dK kvs))
/-! how a plain value stands in the heap; the last: the addresses that it owns -/
mutual
inductive Rep (K : PySem.W.Frag) (H : Hp) : W → V → List Addr → Prop
  | non : Rep K H .non .non []
  | bl (b : Bool) : Rep K H (.bl b) (.bl b) []
  | int (i : Int) : Rep K H (.int i) (.int i) []
  | str (x : Str) : Rep K H (.str x) (.str x) []
  | tup {a : Addr} {xs : List W} {vs : List V} {f : List Addr} (h : Tp K H a vs) (r : Reps K H xs vs f) : Rep K H (.tup xs) (.ref a) f
  | flst {a : Addr} {xs : List W} {vs : List V} {f : List Addr} (h : FzL K H a vs) (r : Reps K H xs vs f) : Rep K H (.flst xs) (.ref a) f
  | lst {a : Addr} {xs : List W} {vs : List V} {f : List Addr} (h : H a = some (.lst vs)) (r : Reps K H xs vs f) : Rep K H (.lst xs) (.ref a) (a :: f)
  | dict {a : Addr} {ks : List Key} {ws : List W} {kvs : List (Key × V)} {f : List Addr} (h : H a = some (.dK kvs)) (hk : kvs.map (·.1) = ks) (r : Reps K H ws (kvs.map (·.2)) f) : Rep K H (.dict ks ws) (.ref a) (a :: f)
  | fdict {a : Addr} {ks : List Key} {ws : List W} {kvs : List (Key × V)} {f : List Addr} (h : FzD H a kvs) (hk : kvs.map (·.1) = ks) (r : Reps K H ws (kvs.map (·.2)) f) : Rep K H (.fdict ks ws) (.ref a) f
inductive Reps (K : PySem.W.Frag) (H : Hp) : List W → List V → List Addr → Prop
  | nil : Reps K H [] [] []
  | cons {x : W} {v : V} {xs : List W} {vs : List V} {f g : List Addr} (r : Rep K H x v f) (t : Reps K H xs vs g) : Reps K H (x :: xs) (v :: vs) (f ++ g)
end

/-- a thing that may be changed in its place -/
def isMut : HO → Bool
  | .lst _ => true | .dK _ => true | .dT _ => true | .ins _ _ _ => true | _ => false
def Keep (O : Addr → Prop) (H H' : Hp) : Prop := ∀ a o, H a = some o → ¬ O a → H' a = some o
def AllMut (H : Hp) (O : Addr → Prop) : Prop := ∀ a, O a → ∃ o, H a = some o ∧ isMut o = true
abbrev All (H H' : Hp) : Prop := Keep (fun _ => False) H H'
theorem Keep.refl {O : Addr → Prop} {H : Hp} : Keep O H H := fun _ _ h _ => h
theorem Keep.trans {O : Addr → Prop} {H H1 H2 : Hp} (a : Keep O H H1) (b : Keep O H1 H2) : Keep O H H2 := fun c o h n => b c o (a c o h n) n
theorem Keep.mono {O O' : Addr → Prop} {H H1 : Hp} (a : Keep O H H1) (h : ∀ x, O x → O' x) : Keep O' H H1 := fun c o q n => a c o q fun z => n (h c z)
theorem Keep.all {O : Addr → Prop} {H H1 : Hp} (a : All H H1) : Keep O H H1 := a.mono fun _ z => z.elim
theorem Keep.new {O : Addr → Prop} {H : Hp} {p : Addr} {o : HO} (h : H p = none) : Keep O H (upd H p o) := fun c u q _ => by
  rw [upd_ne (ne_of_none q h)]; exact q
theorem Keep.at {O : Addr → Prop} {H : Hp} {p : Addr} {o : HO} (h : O p) : Keep O H (upd H p o) := fun c u q n => by
  rw [upd_ne (fun e => n (by rw [e]; exact h))]; exact q
theorem Keep.none_of {O : Addr → Prop} {H H' : Hp} (k : Keep O H H') {a : Addr} (h : H' a = none) : H a = none ∨ O a := by
  by_cases q : O a
  · exact .inr q
  · cases e : H a with
    | none => exact .inl rfl
    | some o => rw [k a o e q] at h; cases h

section
variable {K : PySem.W.Frag} {H H' : Hp}
theorem FzD.keep {a : Addr} {xs : List (Key × V)} {O : Addr → Prop} (h : FzD H a xs) (k : Keep O H H') (m : AllMut H O) : FzD H' a xs := by
  obtain ⟨o, h⟩ := h
  refine ⟨o, k a _ h fun z => ?_⟩
  obtain ⟨o, e, q⟩ := m a z
  rw [h] at e; cases e; cases q
theorem Tp.keep {a : Addr} {xs : List V} {O : Addr → Prop} (h : Tp K H a xs) (k : Keep O H H') (m : AllMut H O) : Tp K H' a xs := by
  rcases h with h | h
  · refine .inl (k a _ h fun z => ?_)
    obtain ⟨o, e, q⟩ := m a z
    rw [h] at e; cases e; cases q
  · exact .inr h
theorem FzL.keep {a : Addr} {xs : List V} {O : Addr → Prop} (h : FzL K H a xs) (k : Keep O H H') (m : AllMut H O) : FzL K H' a xs := by
  rcases h with ⟨o, h⟩ | h
  · refine .inl ⟨o, k a _ h fun z => ?_⟩
    obtain ⟨o, e, q⟩ := m a z
    rw [h] at e; cases e; cases q
  · exact .inr h
mutual
theorem Rep.keep {O : Addr → Prop} (k : Keep O H H') (m : AllMut H O) : ∀ {w : W} {v : V} {f : List Addr}, Rep K H w v f → (∀ a ∈ f, ¬ O a) → Rep K H' w v f
  | _, _, _, .non, _ => .non
  | _, _, _, .bl b, _ => .bl b
  | _, _, _, .int i, _ => .int i
  | _, _, _, .str x, _ => .str x
  | _, _, _, .tup h r, n => .tup (h.keep k m) (Reps.keep k m r n)
  | _, _, _, .flst h r, n => .flst (h.keep k m) (Reps.keep k m r n)
  | _, _, _, .lst h r, n => .lst (k _ _ h (n _ List.mem_cons_self)) (Reps.keep k m r fun a ha => n a (List.mem_cons_of_mem _ ha))
  | _, _, _, .dict h hk r, n => .dict (k _ _ h (n _ List.mem_cons_self)) hk (Reps.keep k m r fun a ha => n a (List.mem_cons_of_mem _ ha))
  | _, _, _, .fdict h hk r, n => .fdict (h.keep k m) hk (Reps.keep k m r n)
theorem Reps.keep {O : Addr → Prop} (k : Keep O H H') (m : AllMut H O) : ∀ {w : List W} {v : List V} {f : List Addr}, Reps K H w v f → (∀ a ∈ f, ¬ O a) → Reps K H' w v f
  | _, _, _, .nil, _ => .nil
  | _, _, _, .cons r t, n => .cons (Rep.keep k m r fun a ha => n a (List.mem_append_left _ ha)) (Reps.keep k m t fun a ha => n a (List.mem_append_right _ ha))
end
mutual
theorem Rep.mut : ∀ {w : W} {v : V} {f : List Addr}, Rep K H w v f → ∀ a ∈ f, ∃ o, H a = some o ∧ isMut o = true
  | _, _, _, .non, _, h => nomatch h
  | _, _, _, .bl b, _, h => nomatch h
  | _, _, _, .int i, _, h => nomatch h
  | _, _, _, .str x, _, h => nomatch h
  | _, _, _, .tup _ r, a, h => Reps.mut r a h
  | _, _, _, .flst _ r, a, h => Reps.mut r a h
  | _, _, _, .lst e r, a, h => (List.mem_cons.mp h).elim (fun z => ⟨_, z ▸ e, rfl⟩) fun z => Reps.mut r a z
  | _, _, _, .dict e _ r, a, h => (List.mem_cons.mp h).elim (fun z => ⟨_, z ▸ e, rfl⟩) fun z => Reps.mut r a z
  | _, _, _, .fdict _ _ r, a, h => Reps.mut r a h
theorem Reps.mut : ∀ {w : List W} {v : List V} {f : List Addr}, Reps K H w v f → ∀ a ∈ f, ∃ o, H a = some o ∧ isMut o = true
  | _, _, _, .nil, _, h => nomatch h
  | _, _, _, .cons r t, a, h => (List.mem_append.mp h).elim (fun z => Rep.mut r a z) fun z => Reps.mut t a z
end
mutual
theorem Rep.own_pure : ∀ {w : W} {v : V} {f : List Addr}, Rep K H w v f → w.pure = true → f = []
  | _, _, _, .non, _ => rfl
  | _, _, _, .bl b, _ => rfl
  | _, _, _, .int i, _ => rfl
  | _, _, _, .str x, _ => rfl
  | _, _, _, .tup _ r, h => Reps.own_pure r (by simpa [W.pure] using h)
  | _, _, _, .flst _ r, h => Reps.own_pure r (by simpa [W.pure] using h)
  | _, _, _, .lst _ _, h => by simp [W.pure] at h
  | _, _, _, .dict _ _ _, h => by simp [W.pure] at h
  | _, _, _, .fdict _ _ r, h => Reps.own_pure r (by simpa [W.pure] using h)
theorem Reps.own_pure : ∀ {w : List W} {v : List V} {f : List Addr}, Reps K H w v f → pureL w = true → f = []
  | _, _, _, .nil, _ => rfl
  | _, _, _, .cons r t, h => by
    simp only [pureL, Bool.and_eq_true] at h
    rw [Rep.own_pure r h.1, Reps.own_pure t h.2]; rfl
end
theorem Rep.all {w : W} {v : V} {f : List Addr} (r : Rep K H w v f) (k : All H H') : Rep K H' w v f := r.keep k (fun _ z => z.elim) fun _ _ z => z
theorem Reps.all {w : List W} {v : List V} {f : List Addr} (r : Reps K H w v f) (k : All H H') : Reps K H' w v f := r.keep k (fun _ z => z.elim) fun _ _ z => z
theorem Rep.trk {w : W} {v : V} {f : List Addr} (r : Rep K H w v f) {a : Addr} (h : a ∈ f) : H a ≠ none := fun z => by
  obtain ⟨o, e, _⟩ := r.mut a h
  rw [z] at e; cases e
theorem Reps.trk {w : List W} {v : List V} {f : List Addr} (r : Reps K H w v f) {a : Addr} (h : a ∈ f) : H a ≠ none := fun z => by
  obtain ⟨o, e, _⟩ := r.mut a h
  rw [z] at e; cases e
theorem Reps.length : ∀ {w : List W} {v : List V} {f : List Addr}, Reps K H w v f → w.length = v.length
  | _, _, _, .nil => rfl
  | _, _, _, .cons _ t => by simp [Reps.length t]
theorem Reps.append : ∀ {w w' : List W} {v v' : List V} {f f' : List Addr}, Reps K H w v f → Reps K H w' v' f' → Reps K H (w ++ w') (v ++ v') (f ++ f')
  | _, _, _, _, _, _, .nil, s => s
  | _, _, _, _, _, _, .cons r t, s => by
    rw [List.cons_append, List.cons_append, List.append_assoc]
    exact .cons r (Reps.append t s)
/-- one item -/
theorem Reps.get : ∀ {w : List W} {v : List V} {f : List Addr} {i : Nat} {x : W}, Reps K H w v f → w[i]? = some x → ∃ y g, v[i]? = some y ∧ Rep K H x y g ∧ ∀ a ∈ g, a ∈ f
  | _, _, _, _, _, .nil, e => by simp at e
  | _, _, _, 0, _, .cons r t, e => by
    simp at e; subst e
    exact ⟨_, _, rfl, r, fun a h => List.mem_append_left _ h⟩
  | _, _, _, i + 1, _, .cons r t, e => by
    obtain ⟨y, g, h1, h2, h3⟩ := Reps.get (i := i) t (by simpa using e)
    exact ⟨y, g, by simpa using h1, h2, fun a h => List.mem_append_right _ (h3 a h)⟩
theorem Reps.get_pure {w : List W} {v : List V} {f : List Addr} {i : Nat} {x : W} (r : Reps K H w v f) (e : w[i]? = some x) (p : x.pure = true) : ∃ y, v[i]? = some y ∧ Rep K H x y [] := by
  obtain ⟨y, g, h1, h2, _⟩ := r.get e
  have := h2.own_pure p
  subst this
  exact ⟨y, h1, h2⟩
/-- pure items, each for itself -/
theorem Reps.of_pure : ∀ {w : List W} {v : List V}, (∀ p ∈ List.zip w v, Rep K H p.1 p.2 []) → w.length = v.length → Reps K H w v []
  | [], [], _, _ => .nil
  | x :: w, y :: v, h, e => by
    have a := Reps.of_pure (w := w) (v := v) (fun p hp => h p (List.mem_cons_of_mem _ hp)) (by simpa using e)
    exact .cons (f := []) (h (x, y) (by simp)) a
  | [], _ :: _, _, e => by simp at e
  | _ :: _, [], _, e => by simp at e
/-- cut in two -/
theorem Reps.split : ∀ {w : List W} {v : List V} {f : List Addr} (n : Nat), Reps K H w v f → ∃ f1 f2, f = f1 ++ f2 ∧ Reps K H (w.take n) (v.take n) f1 ∧ Reps K H (w.drop n) (v.drop n) f2
  | _, _, _, 0, r => ⟨[], _, rfl, .nil, r⟩
  | _, _, _, _ + 1, .nil => ⟨[], [], rfl, .nil, .nil⟩
  | _, _, _, n + 1, .cons r t => by
    obtain ⟨f1, f2, e, h1, h2⟩ := Reps.split n t
    exact ⟨_ ++ f1, f2, by rw [e, List.append_assoc], .cons r h1, h2⟩
theorem Reps.take_pure {w : List W} {v : List V} {f : List Addr} (r : Reps K H w v f) (p : pureL w = true) (n : Nat) : Reps K H (w.take n) (v.take n) [] := by
  obtain rfl := r.own_pure p
  obtain ⟨f1, f2, e, h1, h2⟩ := r.split n
  obtain ⟨rfl, rfl⟩ : f1 = [] ∧ f2 = [] := by simpa using e.symm
  exact h1
theorem Reps.drop_pure {w : List W} {v : List V} {f : List Addr} (r : Reps K H w v f) (p : pureL w = true) (n : Nat) : Reps K H (w.drop n) (v.drop n) [] := by
  obtain rfl := r.own_pure p
  obtain ⟨f1, f2, e, h1, h2⟩ := r.split n
  obtain ⟨rfl, rfl⟩ : f1 = [] ∧ f2 = [] := by simpa using e.symm
  exact h2
end

/-! ### slots -/
abbrev SW := List (Option W)
def gt (S : SW) (i : Nat) : Option W := (S[i]?).join
theorem gt_set {S : SW} {i j : Nat} {x : Option W} : gt (S.set i x) j = if i = j ∧ i < S.length then x else gt S j := by
  unfold gt
  by_cases h : i = j
  · subst h
    by_cases l : i < S.length
    · rw [List.getElem?_set_self l, if_pos ⟨rfl, l⟩]; rfl
    · rw [if_neg (fun z => l z.2), List.getElem?_eq_none (by simpa using Nat.le_of_not_lt l), List.getElem?_eq_none (Nat.le_of_not_lt l)]
  · rw [List.getElem?_set_ne h, if_neg (fun z => h z.1)]
theorem gt_lt {S : SW} {i : Nat} {w : W} (h : gt S i = some w) : i < S.length := by
  unfold gt at h
  by_cases l : i < S.length
  · exact l
  · rw [List.getElem?_eq_none (Nat.le_of_not_lt l)] at h; cases h
def put (g : Nat → List Addr) (i : Nat) (f : List Addr) : Nat → List Addr := fun j => if j = i then f else g j
theorem put_same {g : Nat → List Addr} {i : Nat} {f : List Addr} : put g i f i = f := if_pos rfl
theorem put_ne {g : Nat → List Addr} {i j : Nat} {f : List Addr} (h : j ≠ i) : put g i f j = g j := if_neg h

/-- the slots stand in the heap, each with what it owns -/
structure SR (K : PySem.W.Frag) (H : Hp) (S : SW) (σ : St) (g : Nat → List Addr) : Prop where
  len : S.length = σ.length
  rep : ∀ i w, gt S i = some w → ∃ v, σ[i]? = some (some v) ∧ Rep K H w v (g i)
  emp : ∀ i, gt S i = none → g i = []
  nd : ∀ i, (g i).Nodup
  dj : ∀ i j a, a ∈ g i → a ∈ g j → i = j
/-- owned by the slots m -/
def Ow (m : Nat → Prop) (g : Nat → List Addr) : Addr → Prop := fun a => ∃ i, m i ∧ a ∈ g i
abbrev any : Nat → Prop := fun _ => True
section
variable {K : PySem.W.Frag} {H H' : Hp} {S : SW} {σ : St} {g : Nat → List Addr} {m : Nat → Prop}
theorem SR.mut (r : SR K H S σ g) : AllMut H (Ow m g) := fun a ⟨i, _, h⟩ => by
  cases e : gt S i with
  | none => rw [r.emp i e] at h; cases h
  | some w =>
    obtain ⟨v, _, q⟩ := r.rep i w e
    exact q.mut a h
theorem SR.trk (r : SR K H S σ g) {a : Addr} {i : Nat} (h : a ∈ g i) : H a ≠ none := fun z => by
  obtain ⟨o, e, _⟩ := r.mut (m := any) a ⟨i, True.intro, h⟩
  rw [z] at e; cases e
theorem SR.all (r : SR K H S σ g) (k : All H H') : SR K H' S σ g :=
  ⟨r.len, fun i w e => let ⟨v, h1, h2⟩ := r.rep i w e; ⟨v, h1, h2.all k⟩, r.emp, r.nd, r.dj⟩
/-- slot i changed in its place (same object) -/
theorem SR.inplace {i : Nat} {w w' : W} {v : V} {f : List Addr} (r : SR K H S σ g) (e : gt S i = some w) (hv : σ[i]? = some (some v)) (k : Keep (fun a => a ∈ g i) H H') (q : Rep K H' w' v f) (nd : f.Nodup)
    (sub : ∀ a ∈ f, a ∈ g i ∨ H a = none) : SR K H' (S.set i (some w')) σ (put g i f) where
  len := by rw [List.length_set]; exact r.len
  rep := fun j x ej => by
    rw [gt_set] at ej
    by_cases h : i = j
    · subst h
      rw [if_pos ⟨rfl, gt_lt e⟩] at ej; cases ej
      exact ⟨v, hv, by rw [put_same]; exact q⟩
    · rw [if_neg (fun z => h z.1)] at ej
      obtain ⟨u, h1, h2⟩ := r.rep j x ej
      refine ⟨u, h1, ?_⟩
      rw [put_ne (fun z => h z.symm)]
      exact h2.keep k (fun a z => r.mut (m := any) a ⟨i, True.intro, z⟩) fun a ha z => h (r.dj i j a z ha)
  emp := fun j ej => by
    rw [gt_set] at ej
    by_cases h : i = j
    · subst h; rw [if_pos ⟨rfl, gt_lt e⟩] at ej; cases ej
    · rw [if_neg (fun z => h z.1)] at ej
      rw [put_ne (fun z => h z.symm)]; exact r.emp j ej
  nd := fun j => by
    by_cases h : j = i
    · subst h; rw [put_same]; exact nd
    · rw [put_ne h]; exact r.nd j
  dj := fun j l a ha hl => by
    by_cases h1 : j = i
    · by_cases h2 : l = i
      · rw [h1, h2]
      · rw [h1, put_same] at ha
        rw [put_ne h2] at hl
        rcases sub a ha with z | z
        · rw [h1]; exact r.dj i l a z hl
        · exact absurd z (r.trk hl)
    · by_cases h2 : l = i
      · rw [h2, put_same] at hl
        rw [put_ne h1] at ha
        rcases sub a hl with z | z
        · rw [h2]; exact r.dj j i a ha z
        · exact absurd z (r.trk ha)
      · rw [put_ne h1] at ha; rw [put_ne h2] at hl
        exact r.dj j l a ha hl
/-- slot i gets another value -/
theorem SR.assign {i : Nat} {w : W} {v : V} {f : List Addr} (r : SR K H S σ g) (q : Rep K H w v f) (nd : f.Nodup) (sub : ∀ a ∈ f, ∀ j, j ≠ i → a ∉ g j) (hi : i < σ.length) :
    SR K H (S.set i (some w)) (σ.set i (some v)) (put g i f) where
  len := by rw [List.length_set, List.length_set]; exact r.len
  rep := fun j x ej => by
    rw [gt_set] at ej
    by_cases h : i = j
    · subst h
      rw [if_pos ⟨rfl, r.len ▸ hi⟩] at ej; cases ej
      exact ⟨v, List.getElem?_set_self hi, by rw [put_same]; exact q⟩
    · rw [if_neg (fun z => h z.1)] at ej
      obtain ⟨u, h1, h2⟩ := r.rep j x ej
      refine ⟨u, by rw [List.getElem?_set_ne h]; exact h1, ?_⟩
      rw [put_ne (fun z => h z.symm)]
      exact h2
  emp := fun j ej => by
    rw [gt_set] at ej
    by_cases h : i = j
    · subst h; rw [if_pos ⟨rfl, r.len ▸ hi⟩] at ej; cases ej
    · rw [if_neg (fun z => h z.1)] at ej
      rw [put_ne (fun z => h z.symm)]; exact r.emp j ej
  nd := fun j => by
    by_cases h : j = i
    · subst h; rw [put_same]; exact nd
    · rw [put_ne h]; exact r.nd j
  dj := fun j l a ha hl => by
    by_cases h1 : j = i
    · by_cases h2 : l = i
      · rw [h1, h2]
      · rw [h1, put_same] at ha
        rw [put_ne h2] at hl
        exact absurd hl (sub a ha l h2)
    · by_cases h2 : l = i
      · rw [h2, put_same] at hl
        rw [put_ne h1] at ha
        exact absurd ha (sub a hl j h1)
      · rw [put_ne h1] at ha; rw [put_ne h2] at hl
        exact r.dj j l a ha hl
/-- slot i is forgotten -/
theorem SR.forget (r : SR K H S σ g) (i : Nat) : SR K H (S.set i none) σ (put g i []) where
  len := by rw [List.length_set]; exact r.len
  rep := fun j x ej => by
    rw [gt_set] at ej
    by_cases h : i = j
    · subst h
      split at ej
      · cases ej
      · rename_i hn
        exact absurd ⟨rfl, gt_lt ej⟩ hn
    · rw [if_neg (fun z => h z.1)] at ej
      obtain ⟨u, h1, h2⟩ := r.rep j x ej
      refine ⟨u, h1, ?_⟩
      rw [put_ne (fun z => h z.symm)]
      exact h2
  emp := fun j ej => by
    by_cases h : j = i
    · rw [h, put_same]
    · rw [put_ne h]
      rw [gt_set, if_neg (fun z => h z.1.symm)] at ej
      exact r.emp j ej
  nd := fun j => by
    by_cases h : j = i
    · subst h; rw [put_same]; exact List.nodup_nil
    · rw [put_ne h]; exact r.nd j
  dj := fun j l a ha hl => by
    by_cases h1 : j = i
    · rw [h1, put_same] at ha; cases ha
    · by_cases h2 : l = i
      · rw [h2, put_same] at hl; cases hl
      · rw [put_ne h1] at ha; rw [put_ne h2] at hl
        exact r.dj j l a ha hl
end
end Own

/-! Own, part B: operations on plain values, and why the machine's own give the same -/
namespace Own
open PySem L2

inductive BOp where | add | sub | mul | fdiv | mod | pow deriving DecidableEq
inductive COp where | eq | ne | lt | le | gt | ge | is_ | isnot | in_ | notin deriving DecidableEq
inductive B1 where | len | sum | any | all | abs | int | str | tuple | list | max | min | sorted deriving DecidableEq
inductive Ty where | int | str | bool | tuple | list | dict deriving DecidableEq

def mulOk (i j : Int) : Bool := decide ((-(2 ^ 64) < i ∧ i < 2 ^ 64) ∨ (-(2 ^ 64) < j ∧ j < 2 ^ 64))
def powOk (i j : Int) : Bool := decide (0 ≤ j ∧ j ≤ 1000000 ∧ i.natAbs < 2 ^ 64)
theorem mulOk_of {i j : Int} (h : mulOk i j = true) : CMul i j := by
  unfold CMul
  unfold mulOk at h
  exact decide_eq_true_eq.mp h
theorem powOk_of {i j : Int} (h : powOk i j = true) : CPow i j := by
  unfold CPow
  unfold powOk at h
  exact decide_eq_true_eq.mp h
theorem cdiv_of {i j : Int} (h : decide (0 < j ∧ j < 1073741824) = true) : CDiv i j := by
  unfold CDiv
  exact decide_eq_true_eq.mp h
def binW : BOp → W → W → Option W
  | .add, .int i, .int j => some (.int (i + j))
  | .add, .str x, .str y => if x.length + y.length ≤ sizeLine then some (.str (x ++ y)) else none
  | .add, .lst xs, .lst ys => if pureL xs && (pureL ys && decide (xs.length + ys.length ≤ sizeLine)) then some (.lst (xs ++ ys)) else none
  | .add, .tup xs, .tup ys => if pureL xs && (pureL ys && decide (xs.length + ys.length ≤ sizeLine)) then some (.tup (xs ++ ys)) else none
  | .sub, .int i, .int j => some (.int (i - j))
  | .mul, .int i, .int j => if mulOk i j then some (.int (i * j)) else none
  | .fdiv, .int i, .int j => if decide (0 < j ∧ j < 1073741824) then some (.int (i / j)) else none
  | .mod, .int i, .int j => if decide (0 < j) then some (.int (i % j)) else none
  | .pow, .int i, .int j => if powOk i j then some (.int (i ^ j.toNat)) else none
  | _, _, _ => none

/-- what may come as a value: itself or a new object -/
def Yld (K : PySem.W.Frag) (H : Hp) (w : W) (Q : VK) : Prop := ∀ v H' f, Rep K H' w v f → All H H' → f.Nodup → (∀ a ∈ f, H a = none) → Q v H'
section
variable {K : PySem.W.Frag} {H : Hp} {Q : VK}
theorem Yld.same {w : W} {v : V} (y : Yld K H w Q) (r : Rep K H w v []) : Q v H := y v H [] r Keep.refl List.nodup_nil fun _ z => nomatch z
theorem Yld.lst {xs : List W} {vs : List V} {p : Addr} (y : Yld K H (.lst xs) Q) (r : Reps K H xs vs []) (hp : H p = none) : Q (.ref p) (upd H p (.lst vs)) :=
  y _ _ [p] (.lst upd_same (r.all (Keep.new hp))) (Keep.new hp) (by simp) fun a h => by
    have : a = p := by simpa using h
    rw [this]; exact hp
theorem Yld.tup {xs : List W} {vs : List V} {p : Addr} (y : Yld K H (.tup xs) Q) (r : Reps K H xs vs []) (hp : H p = none) : Q (.ref p) (upd H p (.tup vs)) :=
  y _ _ [] (.tup (.inl upd_same) (r.all (Keep.new hp))) (Keep.new hp) List.nodup_nil fun _ z => nomatch z
theorem Yld.imp {w : W} {Q' : VK} (y : Yld K H w Q) (h : ∀ v H', Q v H' → Q' v H') : Yld K H w Q' := fun v H' f a b c d => h _ _ (y v H' f a b c d)
end

def opAst : BOp → Operator
  | .add => .Add | .sub => .Sub | .mul => .Mult | .fdiv => .FloorDiv | .mod => .Mod | .pow => .Pow
def rB (K : PySem.W.Frag) : BOp → R2
  | .add => fun x y H Q => rI0 (fun i j => .int (i + j)) x y H Q ∨ (fun x y H Q => (fun x y H Q => ∃ i j, x = .str i ∧ y = .str j ∧ i.length + j.length ≤ sizeLine ∧ Q (.str (i ++ j)) H) x y H Q ∨ (fun x y H Q => rCat x y H Q ∨ rCatA K x y H Q) x y H Q) x y H Q
  | .sub => rI0 fun i j => .int (i - j)
  | .mul => rI CMul fun i j => .int (i * j)
  | .fdiv => rI CDiv fun i j => .int (i / j)
  | .mod => rI (fun _ j => 0 < j) fun i j => .int (i % j)
  | .pow => rI CPow fun i j => .int (i ^ j.toNat)
theorem rB_ok {X : Cx} : ∀ o, OpR X (binaryOp (opAst o)) (rB X.K o)
  | .add => op_add.or (op_add_str.or (op_cat.or op_catA))
  | .sub => op_sub
  | .mul => op_mul
  | .fdiv => op_fdiv
  | .mod => op_mod
  | .pow => op_pow
theorem rB_of {K : PySem.W.Frag} {H : Hp} {Q : VK} {o : BOp} {x y w : W} {vx vy : V} {fx fy : List Addr} (rx : Rep K H x vx fx) (ry : Rep K H y vy fy) (e : binW o x y = some w) (q : Yld K H w Q) : rB K o vx vy H Q := by
  unfold binW at e
  split at e
  · cases rx; cases ry; cases e
    exact .inl ⟨_, _, rfl, rfl, q.same (.int _)⟩
  · cases rx; cases ry
    split at e
    · rename_i hz
      cases e
      exact .inr (.inl ⟨_, _, rfl, rfl, hz, q.same (.str _)⟩)
    · cases e
  · rename_i xs ys
    split at e
    · rename_i hz
      simp only [Bool.and_eq_true, decide_eq_true_eq] at hz
      cases e
      cases rx with
      | lst ha ra =>
        cases ry with
        | lst hb rb =>
          have e1 := ra.own_pure hz.1
          have e2 := rb.own_pure hz.2.1
          subst e1; subst e2
          refine .inr (.inr (.inl ⟨_, _, _, _, rfl, rfl, ha, hb, by rw [← ra.length, ← rb.length]; exact hz.2.2, fun p hp => q.lst (Reps.append ra rb) hp⟩))
    · cases e
  · rename_i xs ys
    split at e
    · rename_i hz
      simp only [Bool.and_eq_true, decide_eq_true_eq] at hz
      cases e
      cases rx with
      | tup ha ra =>
        cases ry with
        | tup hb rb =>
          have e1 := ra.own_pure hz.1
          have e2 := rb.own_pure hz.2.1
          subst e1; subst e2
          refine .inr (.inr (.inr ⟨_, _, _, _, rfl, rfl, ha.sq, hb.sq, by rw [← ra.length, ← rb.length]; exact hz.2.2, fun e => ?_, fun _ e => ?_, fun _ _ p hp => q.tup (Reps.append ra rb) hp⟩))
          · subst e
            cases ra
            exact q.same (.tup hb rb)
          · subst e
            cases rb
            exact q.same (.tup ha (by rw [List.append_nil]; exact ra))
    · cases e
  · cases rx; cases ry; cases e
    exact ⟨_, _, rfl, rfl, q.same (.int _)⟩
  · cases rx; cases ry
    split at e
    · rename_i hz
      cases e
      exact ⟨_, _, rfl, rfl, mulOk_of hz, q.same (.int _)⟩
    · cases e
  · cases rx; cases ry
    split at e
    · rename_i hz
      cases e
      exact ⟨_, _, rfl, rfl, cdiv_of hz, q.same (.int _)⟩
    · cases e
  · cases rx; cases ry
    split at e
    · rename_i hz
      cases e
      exact ⟨_, _, rfl, rfl, (decide_eq_true_eq.mp hz), q.same (.int _)⟩
    · cases e
  · cases rx; cases ry
    split at e
    · rename_i hz
      cases e
      exact ⟨_, _, rfl, rfl, powOk_of hz, q.same (.int _)⟩
    · cases e
  · cases e

/-! ### dicts -/
def dkey : W → Option Key
  | .int i => some (.inl i) | .str x => some (.inr x) | _ => none
def dctW : W → Option (List Key × List W)
  | .dict ks ws => some (ks, ws) | .fdict ks ws => some (ks, ws) | _ => none
def dgt : List Key → List W → Key → Option W
  | k' :: ks, w :: ws, k => if k' = k then some w else dgt ks ws k
  | _, _, _ => none
section
variable {K : PySem.W.Frag} {H : Hp}
theorem Rep.key {w : W} {v : V} {f : List Addr} {k : Key} (r : Rep K H w v f) (e : dkey w = some k) : v = kV k := by
  cases r <;> simp only [dkey, reduceCtorEq, Option.some.injEq] at e <;> subst e <;> rfl
theorem Reps.val : ∀ {kvs : List (Key × V)} {ws : List W} {f : List Addr}, Reps K H ws (kvs.map (·.2)) f → ∀ k : Key, (∀ w, dgt (kvs.map (·.1)) ws k = some w → ∃ v g, valV kvs k = some v ∧ Rep K H w v g ∧ ∀ a ∈ g, a ∈ f) ∧ (dgt (kvs.map (·.1)) ws k = none → valV kvs k = none)
  | [], ws, f, r, k => ⟨fun w h => by simp [dgt] at h, fun _ => rfl⟩
  | p :: kvs, [], f, r, k => by cases r
  | p :: kvs, w0 :: ws, f, r, k => by
    cases r with
    | cons r t =>
      have ih := Reps.val t k
      by_cases e : p.1 = k
      · refine ⟨fun w h => ?_, fun h => ?_⟩
        · simp only [List.map_cons, dgt, e, if_true, Option.some.injEq] at h
          subst h
          exact ⟨_, _, valV_pos e, r, fun a h => List.mem_append_left _ h⟩
        · simp only [List.map_cons, dgt, e, if_true, reduceCtorEq] at h
      · refine ⟨fun w h => ?_, fun h => ?_⟩
        · simp only [List.map_cons, dgt, e, if_false] at h
          obtain ⟨v, g, h1, h2, h3⟩ := ih.1 w h
          exact ⟨v, g, by rw [valV_neg e]; exact h1, h2, fun a h => List.mem_append_right _ (h3 a h)⟩
        · simp only [List.map_cons, dgt, e, if_false] at h
          rw [valV_neg e]; exact ih.2 h
theorem Rep.dct {w : W} {v : V} {f : List Addr} {p : List Key × List W} (r : Rep K H w v f) (e : dctW w = some p) : ∃ a kvs g, v = .ref a ∧ Rd H a (.dK kvs) ∧ kvs.map (·.1) = p.1 ∧ Reps K H p.2 (kvs.map (·.2)) g ∧ ∀ b ∈ g, b ∈ f := by
  cases r with
  | dict h hk rr => cases e; exact ⟨_, _, _, rfl, .inl h, hk, rr, fun b hb => List.mem_cons_of_mem _ hb⟩
  | fdict h hk rr => cases e; exact ⟨_, _, _, rfl, .inr h, hk, rr, fun b hb => hb⟩
  | _ => cases e
/-- what a dict holds -/
theorem Rep.dget {w k : W} {v u : V} {f f' : List Addr} {p : List Key × List W} {key : Key} (r : Rep K H w v f) (rk : Rep K H k u f') (e : dctW w = some p) (ek : dkey k = some key) : ∃ a o, v = .ref a ∧ DGet H a u o ∧ IsD H a ∧
    (∀ x, dgt p.1 p.2 key = some x → ∃ y g, o = some y ∧ Rep K H x y g ∧ ∀ a ∈ g, a ∈ f) ∧ (dgt p.1 p.2 key = none → o = none) := by
  obtain ⟨a, kvs, g, rfl, h1, h2, h3, h4⟩ := r.dct e
  have hv := h3.val key
  rw [h2] at hv
  refine ⟨a, _, rfl, .inl ⟨kvs, key, h1, rk.key ek, rfl⟩, .inl ⟨kvs, h1⟩, fun x hx => ?_, hv.2⟩
  obtain ⟨y, g', a1, a2, a3⟩ := hv.1 x hx
  exact ⟨y, g', a1, a2, fun b hb => h4 b (a3 b hb)⟩
end
section
variable {X : Cx}
def rIxDk : R2 := fun x y H Q => ∃ a v, x = .ref a ∧ DGet H a y (some v) ∧ Q v H
theorem ix_dict (hu : X.A.units + 1 < cLine) : IxR X rIxDk := by
  intro value slice pins s σ H x y v u Q I rx ry h hs
  obtain ⟨a, z, rfl, g, q⟩ := h
  cases (show v = Value.ref a from rx)
  exact PyProof.Rows.tail_any (dict_typeIs I g) PySem.F.slot_dict_getitem.lookup (d_getItem hu I g ry fun w' s' I' r => ⟨z, H, I', r, q⟩) hs
def rInD (neg : Bool) : R2 := fun x y H Q => ∃ a o, y = .ref a ∧ DGet H a x o ∧ Q (.bl (if neg then !o.isSome else o.isSome)) H
theorem op_in_dct (hu : X.A.units + 1 < cLine) : OpR X (compareOp .In) (rInD false) := by
  intro pins s σ H x y v u Q I rx ry h
  obtain ⟨a, o, rfl, g, q⟩ := h
  cases (show u = Value.ref a from ry)
  exact d_in hu I g rx fun s' I' => ⟨.bl o.isSome, H, I', rfl, q⟩
theorem op_notIn_dct (hu : X.A.units + 1 < cLine) : OpR X (compareOp .NotIn) (rInD true) := by
  intro pins s σ H x y v u Q I rx ry h
  obtain ⟨a, o, rfl, g, q⟩ := h
  cases (show u = Value.ref a from ry)
  exact d_notIn hu I g rx fun s' I' => ⟨.bl (!o.isSome), H, I', rfl, q⟩
def rInS (neg : Bool) : R2 := fun x y H Q => ∃ (c : Nat) (z : Str), x = .str ⟨#[c]⟩ ∧ y = .str z ∧ Q (.bl (if neg then !decide (c ∈ z.cps.toList) else decide (c ∈ z.cps.toList))) H
def rInA (K : PySem.W.Frag) (neg : Bool) : R2 := fun x y H Q => rIn K neg x y H Q ∨ (fun x y H Q => rInD neg x y H Q ∨ rInS neg x y H Q) x y H Q
theorem op_inA (hu : X.A.units + 200 < cLine) : OpR X (compareOp .In) (rInA X.K false) := op_in_seq.or ((op_in_dct (Nat.lt_of_le_of_lt (by omega) hu)).or op_in_sign)
theorem op_notInA (hu : X.A.units + 200 < cLine) : OpR X (compareOp .NotIn) (rInA X.K true) := op_notIn_seq.or ((op_notIn_dct (Nat.lt_of_le_of_lt (by omega) hu)).or op_notIn_sign)
end

/-! ### comparisons -/
mutual
def W.toD : W → PyData
  | .non => .none | .bl b => .bool b | .int i => .int i | .str s => .str s
  | .tup xs => .tuple (toDs xs) | .flst xs => .list (toDs xs) | .lst xs => .list (toDs xs)
  | .dict _ _ => .dict [] | .fdict _ _ => .dict [] | .ins _ _ => .dict []
def toDs : List W → List PyData
  | [] => []
  | x :: xs => x.toD :: toDs xs
end
/-! no dict, no instance within -/
mutual
def plnW : W → Bool
  | .non => true | .bl _ => true | .int _ => true | .str _ => true
  | .tup xs => plnL xs | .flst xs => plnL xs | .lst xs => plnL xs
  | .dict _ _ => false | .fdict _ _ => false | .ins _ _ => false
def plnL : List W → Bool
  | [] => true
  | x :: xs => plnW x && plnL xs
end
mutual
theorem Rep.dp {K : PySem.W.Frag} {H : Hp} : ∀ {w : W} {v : V} {f : List Addr}, Rep K H w v f → plnW w = true → Dp K H v w.toD
  | _, _, _, .non, _ => .non
  | _, _, _, .bl b, _ => .bl b
  | _, _, _, .int i, _ => .int i
  | _, _, _, .str x, _ => .str x
  | _, _, _, .tup h r, p => .tup h.sq (Reps.dp r (by simpa [plnW] using p))
  | _, _, _, .flst h r, p => .lst h.sq (Reps.dp r (by simpa [plnW] using p))
  | _, _, _, .lst h r, p => .lst (.inl (.inl h)) (Reps.dp r (by simpa [plnW] using p))
  | _, _, _, .dict _ _ _, p => by simp [plnW] at p
  | _, _, _, .fdict _ _ _, p => by simp [plnW] at p
theorem Reps.dp {K : PySem.W.Frag} {H : Hp} : ∀ {w : List W} {v : List V} {f : List Addr}, Reps K H w v f → plnL w = true → DpAll K H v (toDs w)
  | _, _, _, .nil, _ => .nil
  | _, _, _, .cons r t, p => by
    simp only [plnL, Bool.and_eq_true] at p
    exact .cons (Rep.dp r p.1) (Reps.dp t p.2)
end
def okD (w : W) : Bool := plnW w && (w.toD.canLay0 && decide (w.toD.depth ≤ 199))
def eqW : W → W → Option Bool
  | .int a, .int b => some (decide (a = b))
  | .str a, .str b => some (decide (a = b))
  | x, y => if okD x && okD y then some (PyData.eqv x.toD y.toD) else none
def rEqW (K : PySem.W.Frag) (neg : Bool) : R2 := fun x y H Q => (scal x y = true ∧ Q (.bl (if neg then !decide (x = y) else decide (x = y))) H) ∨
  ∃ d e, Dp K H x d ∧ Dp K H y e ∧ d.canLay0 = true ∧ e.canLay0 = true ∧ d.depth ≤ 199 ∧ Q (.bl (if neg then !PyData.eqv d e else PyData.eqv d e)) H
theorem op_eqW {X : Cx} (hu : X.A.units + 200 < cLine) : OpR X (compareOp .Eq) (rEqW X.K false) := by
  intro pins s σ H x y v u Q I rx ry h
  rcases h with h | ⟨d, e, hd, he, sd, se, dd, q⟩
  · exact op_eq pins s σ H x y v u Q I rx ry h
  · obtain ⟨as, r1⟩ := Dp.reads I d x v hd rx
    obtain ⟨bs, r2⟩ := Dp.reads I e y u he ry
    have : min d.depth e.depth ≤ d.depth := Nat.min_le_left _ _
    exact SeqAt.compareEq_reads r1 r2 sd se (by omega) ⟨.bl _, H, I, rfl, q⟩
theorem op_neW {X : Cx} (hu : X.A.units + 200 < cLine) : OpR X (compareOp .NotEq) (rEqW X.K true) := by
  intro pins s σ H x y v u Q I rx ry h
  rcases h with h | ⟨d, e, hd, he, sd, se, dd, q⟩
  · exact op_ne pins s σ H x y v u Q I rx ry h
  · obtain ⟨as, r1⟩ := Dp.reads I d x v hd rx
    obtain ⟨bs, r2⟩ := Dp.reads I e y u he ry
    have : min d.depth e.depth ≤ d.depth := Nat.min_le_left _ _
    exact SeqAt.compareNe_reads r1 r2 sd se (by omega) ⟨.bl _, H, I, rfl, q⟩
theorem rEqW_of {K : PySem.W.Frag} {H : Hp} {Q : VK} {x y : W} {b neg : Bool} {vx vy : V} {fx fy : List Addr} (rx : Rep K H x vx fx) (ry : Rep K H y vy fy) (e : eqW x y = some b) (q : Q (.bl (if neg then !b else b)) H) : rEqW K neg vx vy H Q := by
  unfold eqW at e
  split at e
  · cases rx; cases ry; cases e
    refine .inl ⟨rfl, ?_⟩
    simpa using q
  · cases rx; cases ry; cases e
    refine .inl ⟨rfl, ?_⟩
    simpa using q
  · split at e
    · rename_i hz
      cases e
      simp only [okD, Bool.and_eq_true, decide_eq_true_eq] at hz
      exact .inr ⟨_, _, rx.dp hz.1.1, ry.dp hz.2.1, hz.1.2.1, hz.2.2.1, hz.1.2.2, q⟩
    · cases e

/-- a scalar -/
def flatW : W → Bool
  | .non => true | .bl _ => true | .int _ => true | .str _ => true | _ => false
def eqS : W → W → Bool
  | .non, .non => true
  | .bl a, .bl b => a == b
  | .bl a, .int b => (if a then 1 else 0) == b
  | .int a, .bl b => a == (if b then 1 else 0)
  | .int a, .int b => a == b
  | .str a, .str b => a == b
  | _, _ => false
def seqW : W → Option (List W)
  | .tup xs => some xs | .flst xs => some xs | .lst xs => some xs | _ => none
/-- one sign -/
def sign1 : W → Option Nat
  | .str z => if z.cps.size = 1 then z.cps[0]? else none | _ => none
def inW (x y : W) : Option Bool := match y with
  | .str z => (sign1 x).map fun c => decide (c ∈ z.cps.toList)
  | _ => match dctW y with
    | some p => (dkey x).map fun k => (dgt p.1 p.2 k).isSome
    | none => match seqW y with
      | some ys => if flatW x && ys.all flatW then some (ys.any fun y => eqS y x) else none
      | none => none
def W.isNon : W → Bool
  | .non => true | _ => false
def cmpW : COp → W → W → Option Bool
  | .eq, x, y => eqW x y
  | .ne, x, y => (eqW x y).map (!·)
  | .lt, .int i, .int j => some (decide (i < j))
  | .le, .int i, .int j => some (decide (i ≤ j))
  | .gt, .int i, .int j => some (decide (j < i))
  | .ge, .int i, .int j => some (decide (j ≤ i))
  | .is_, x, .non => some x.isNon
  | .isnot, x, .non => some (!x.isNon)
  | .in_, x, y => inW x y
  | .notin, x, y => (inW x y).map (!·)
  | _, _, _ => none
def copAst : COp → CmpOp
  | .eq => .Eq | .ne => .NotEq | .lt => .Lt | .le => .LtE | .gt => .Gt | .ge => .GtE | .is_ => .Is | .isnot => .IsNot | .in_ => .In | .notin => .NotIn
def rC (K : PySem.W.Frag) : COp → R2
  | .eq => rEqW K false
  | .ne => rEqW K true
  | .lt => rI0 fun i j => .bl (decide (i < j))
  | .le => rI0 fun i j => .bl (decide (i ≤ j))
  | .gt => rI0 fun i j => .bl (decide (j < i))
  | .ge => rI0 fun i j => .bl (decide (j ≤ i))
  | .is_ => fun x y H Q => y = .non ∧ Q (.bl (decide (x = .non))) H
  | .isnot => fun x y H Q => y = .non ∧ Q (.bl (!decide (x = .non))) H
  | .in_ => rInA K false
  | .notin => rInA K true
theorem rC_ok {X : Cx} (hu : X.A.units + 200 < cLine) : ∀ o, OpR X (compareOp (copAst o)) (rC X.K o)
  | .eq => op_eqW hu
  | .ne => op_neW hu
  | .lt => op_lt
  | .le => op_le
  | .gt => op_gt
  | .ge => op_ge
  | .is_ => op_isN
  | .isnot => op_notN
  | .in_ => op_inA hu
  | .notin => op_notInA hu
section
variable {K : PySem.W.Frag} {H : Hp}
theorem Rep.flat {w : W} {v : V} {f : List Addr} (r : Rep K H w v f) (h : flatW w = true) : flatV v = true := by
  cases r <;> first | rfl | simp [flatW] at h
theorem Rep.eqS {x y : W} {vx vy : V} {fx fy : List Addr} (rx : Rep K H x vx fx) (ry : Rep K H y vy fy) (hx : flatW x = true) (hy : flatW y = true) : eqV vx vy = eqS x y := by
  cases rx <;> cases ry <;> first | rfl | simp [flatW] at hx | simp [flatW] at hy
theorem Reps.flat : ∀ {w : List W} {v : List V} {f : List Addr}, Reps K H w v f → w.all flatW = true → v.all flatV = true
  | _, _, _, .nil, _ => rfl
  | _, _, _, .cons r t, h => by
    simp only [List.all_cons, Bool.and_eq_true] at h ⊢
    exact ⟨r.flat h.1, Reps.flat t h.2⟩
theorem Reps.inV {x : W} {vx : V} {fx : List Addr} (rx : Rep K H x vx fx) (hx : flatW x = true) : ∀ {w : List W} {v : List V} {f : List Addr}, Reps K H w v f → w.all flatW = true → L2.inV vx v = w.any fun y => Own.eqS y x
  | _, _, _, .nil, _ => rfl
  | _, _, _, .cons r t, h => by
    simp only [List.all_cons, Bool.and_eq_true] at h
    have ih := Reps.inV rx hx t h.2
    unfold L2.inV at ih ⊢
    rw [List.any_cons, List.any_cons, ih, r.eqS rx h.1 hx]
theorem Rep.seq {w : W} {v : V} {f : List Addr} {xs : List W} (r : Rep K H w v f) (h : seqW w = some xs) : ∃ a vs g, v = .ref a ∧ (SqL K H a vs ∨ SqT K H a vs) ∧ Reps K H xs vs g ∧ ∀ b ∈ g, b ∈ f := by
  cases r <;> simp [seqW] at h
  · subst h; rename_i a vs hh rr; exact ⟨_, _, _, rfl, .inr hh.sq, rr, fun _ z => z⟩
  · subst h; rename_i a vs hh rr; exact ⟨_, _, _, rfl, .inl hh.sq, rr, fun _ z => z⟩
  · subst h; rename_i a vs g hh rr; exact ⟨_, _, _, rfl, .inl (.inl (.inl hh)), rr, fun _ z => List.mem_cons_of_mem _ z⟩
theorem Rep.isN {w : W} {v : V} {f : List Addr} (r : Rep K H w v f) : decide (v = .non) = w.isNon := by
  cases r <;> simp [W.isNon]
theorem sign1_of {x : W} {c : Nat} (h : sign1 x = some c) : x = .str ⟨#[c]⟩ := by
  unfold sign1 at h
  split at h
  · rename_i z
    split at h
    · rename_i hz
      congr 1
      obtain ⟨⟨l⟩⟩ := z
      match l, hz, h with
      | [a], _, h => simp at h; subst h; rfl
    · cases h
  · cases h
theorem rIn_of {Q : VK} {x y : W} {b neg : Bool} {vx vy : V} {fx fy : List Addr} (rx : Rep K H x vx fx) (ry : Rep K H y vy fy) (e : inW x y = some b) (q : Q (.bl (if neg then !b else b)) H) : rInA K neg vx vy H Q := by
  unfold inW at e
  split at e
  · rename_i z
    simp only [Option.map_eq_some_iff] at e
    obtain ⟨c, hc, rfl⟩ := e
    obtain rfl := sign1_of hc
    cases rx; cases ry
    exact .inr (.inr ⟨c, z, rfl, rfl, q⟩)
  · split at e
    · rename_i p hp
      simp only [Option.map_eq_some_iff] at e
      obtain ⟨k, hk, rfl⟩ := e
      obtain ⟨a, o, rfl, g, _, h1, h2⟩ := ry.dget rx hp hk
      refine .inr (.inl ⟨a, o, rfl, g, ?_⟩)
      have : o.isSome = (dgt p.1 p.2 k).isSome := by
        cases hd : dgt p.1 p.2 k with
        | none => rw [h2 hd]; rfl
        | some w => obtain ⟨y, _, rfl, _⟩ := h1 w hd; rfl
      rw [this]; exact q
    · split at e
      · rename_i ys hs
        split at e
        · rename_i hz
          simp only [Bool.and_eq_true] at hz
          cases e
          obtain ⟨a, vs, g, rfl, hq, rr, _⟩ := ry.seq hs
          refine .inl ⟨a, vs, rfl, hq, rx.flat hz.1, rr.flat hz.2, ?_⟩
          rw [Reps.inV rx hz.1 rr hz.2]
          exact q
        · cases e
      · cases e
theorem rC_of {Q : VK} {o : COp} {x y : W} {b : Bool} {vx vy : V} {fx fy : List Addr} (rx : Rep K H x vx fx) (ry : Rep K H y vy fy) (e : cmpW o x y = some b) (q : Q (.bl b) H) : rC K o vx vy H Q := by
  unfold cmpW at e
  split at e
  · exact rEqW_of (neg := false) rx ry e (by simpa using q)
  · cases h : eqW x y with
    | none => rw [h] at e; cases e
    | some c =>
      rw [h] at e; cases e
      exact rEqW_of (neg := true) rx ry h (by simpa using q)
  · cases rx; cases ry; cases e; exact ⟨_, _, rfl, rfl, q⟩
  · cases rx; cases ry; cases e; exact ⟨_, _, rfl, rfl, q⟩
  · cases rx; cases ry; cases e; exact ⟨_, _, rfl, rfl, q⟩
  · cases rx; cases ry; cases e; exact ⟨_, _, rfl, rfl, q⟩
  · cases ry; cases e; exact ⟨rfl, by rw [rx.isN]; exact q⟩
  · cases ry; cases e; exact ⟨rfl, by rw [rx.isN]; exact q⟩
  · exact rIn_of (neg := false) rx ry e (by simpa using q)
  · cases h : inW x y with
    | none => rw [h] at e; cases e
    | some c =>
      rw [h] at e; cases e
      exact rIn_of (neg := true) rx ry h (by simpa using q)
  · cases e
end

/-! ### truth -/
def truW : W → Option Bool
  | .non => some false
  | .bl b => some b
  | .int i => some (i != 0)
  | .str y => if y.length ≤ sizeLine then some ((y.length : Int) != 0) else none
  | .tup xs => some (!xs.isEmpty) | .flst xs => some (!xs.isEmpty) | .lst xs => some (!xs.isEmpty) | .dict ks _ => some (!ks.isEmpty)
  | _ => none
theorem Reps.isEmpty {K : PySem.W.Frag} {H : Hp} {w : List W} {v : List V} {f : List Addr} (r : Reps K H w v f) : w.isEmpty = v.isEmpty := by cases r <;> rfl
theorem truW_of {K : PySem.W.Frag} {H : Hp} {w : W} {v : V} {f : List Addr} {b : Bool} (r : Rep K H w v f) (e : truW w = some b) : TruV K v H b := by
  cases r with
  | non => cases e; exact rfl
  | bl c => cases e; exact rfl
  | int i => cases e; exact rfl
  | str x =>
    have e' : (if x.length ≤ sizeLine then some ((x.length : Int) != 0) else none) = some b := e
    split at e'
    · rename_i hz; cases e'; exact ⟨hz, rfl⟩
    · cases e'
  | tup h r => cases e; exact .inr (.inl ⟨_, h.sq, by rw [r.isEmpty]⟩)
  | flst h r => cases e; exact .inl ⟨_, h.sq, by rw [r.isEmpty]⟩
  | lst h r => cases e; exact .inl ⟨_, .inl (.inl h), by rw [r.isEmpty]⟩
  | @dict a ks ws kvs f h hk r =>
    cases e
    refine .inr (.inr ⟨_, h, ?_⟩)
    rw [← hk]
    cases kvs <;> rfl
  | fdict h hk r => cases e

/-! ### subscripts -/
def idxW (x k : W) : Option W := match dctW x with
  | some p => (dkey k).bind fun key => dgt p.1 p.2 key
  | none => match x, k with
    | .str z, .int i => if z.length ≤ sizeLine then (atI z.cps.toList i).map fun c => .str ⟨#[c]⟩ else none
    | x, .int i => (seqW x).bind fun xs => atI xs i
    | _, _ => none
def rIxA (K : PySem.W.Frag) : R2 := fun x y H Q => rIx K x y H Q ∨ rIxDk x y H Q
theorem ix_A {X : Cx} (hu : X.A.units + 200 < cLine) : IxR X (rIxA X.K) := ix_seq.or (ix_dict (Nat.lt_of_le_of_lt (by omega) hu))
theorem atI_len {α β : Type} {xs : List α} {ys : List β} {i : Int} (h : xs.length = ys.length) : (∃ j : Nat, atI xs i = xs[j]? ∧ atI ys i = ys[j]?) ∨ (atI xs i = none ∧ atI ys i = none) := by
  unfold atI
  rw [h]
  cases ixN ys.length i with
  | none => exact .inr ⟨rfl, rfl⟩
  | some j => exact .inl ⟨j, rfl, rfl⟩
theorem Reps.at {K : PySem.W.Frag} {H : Hp} {w : List W} {v : List V} {f : List Addr} {i : Int} {x : W} (r : Reps K H w v f) (e : atI w i = some x) : ∃ y g, atI v i = some y ∧ Rep K H x y g ∧ ∀ a ∈ g, a ∈ f := by
  rcases atI_len (i := i) r.length with ⟨j, h1, h2⟩ | ⟨h1, _⟩
  · rw [h1] at e
    obtain ⟨y, g, h3, h4, h5⟩ := r.get e
    exact ⟨y, g, by rw [h2]; exact h3, h4, h5⟩
  · rw [h1] at e; cases e
theorem rIx_of {K : PySem.W.Frag} {H : Hp} {Q : VK} {x k w : W} {vx vk : V} {fx fk : List Addr} (rx : Rep K H x vx fx) (rk : Rep K H k vk fk) (e : idxW x k = some w)
    (q : ∀ v f, Rep K H w v f → (∀ a ∈ f, a ∈ fx) → Q v H) : rIxA K vx vk H Q := by
  unfold idxW at e
  split at e
  · rename_i p hp
    simp only [Option.bind_eq_some_iff] at e
    obtain ⟨key, hk, e⟩ := e
    obtain ⟨a, o, rfl, g, _, h1, _⟩ := rx.dget rk hp hk
    obtain ⟨y, g', rfl, h3, h4⟩ := h1 w e
    exact .inr ⟨a, y, rfl, g, q y g' h3 h4⟩
  · refine .inl ?_
    split at e
    · rename_i z i _
      cases rx; cases rk
      split at e
      · rename_i hz
        cases h : atI z.cps.toList i with
        | none => rw [h] at e; cases e
        | some c =>
          rw [h] at e; cases e
          exact .inr (.inr ⟨_, _, c, rfl, rfl, hz, h, q _ [] (.str _) fun _ z => nomatch z⟩)
      · cases e
    · cases rk
      cases hs : seqW x with
      | none => rw [hs] at e; cases e
      | some xs =>
        rw [hs] at e
        obtain ⟨a, vs, g, rfl, hq, rr, hg⟩ := rx.seq hs
        obtain ⟨y, g', h1, h2, h3⟩ := rr.at (show atI xs _ = some w from e)
        rcases hq with hq | hq
        · exact .inl ⟨_, _, _, _, rfl, rfl, hq, h1, q y g' h2 fun b z => hg b (h3 b z)⟩
        · exact .inr (.inl ⟨_, _, _, _, rfl, rfl, hq, h1, q y g' h2 fun b z => hg b (h3 b z)⟩)
    · cases e

/-! ### sorting -/
def leS (a b : Str) : Bool := !PySem.Spec.ltCps b.cps.toList a.cps.toList
theorem leS_iff {a b : Str} : leS a b = true ↔ a.cps.toList ≤ b.cps.toList := by
  unfold leS
  rw [PyProof.Rows.ltCps_eq]
  simp
theorem leS_trans {a b c : Str} (h : leS a b = true) (h' : leS b c = true) : leS a c = true := by
  rw [leS_iff] at *
  exact List.le_trans h h'
theorem leS_total (a b : Str) : leS a b = true ∨ leS b a = true := by
  rw [leS_iff, leS_iff]
  exact List.le_total _ _
theorem leS_antisymm {a b : Str} (h : leS a b = true) (h' : leS b a = true) : a = b := by
  rw [leS_iff] at *
  have := List.le_antisymm h h'
  obtain ⟨⟨x⟩⟩ := a
  obtain ⟨⟨y⟩⟩ := b
  simp at this
  rw [this]
def insS (x : Str) : List Str → List Str
  | [] => [x]
  | y :: r => if leS x y then x :: y :: r else y :: insS x r
def sortS : List Str → List Str
  | [] => []
  | x :: r => insS x (sortS r)
theorem insS_perm (x : Str) : ∀ l, (insS x l).Perm (x :: l)
  | [] => .refl _
  | y :: r => by
    unfold insS; split
    · exact .refl _
    · exact ((insS_perm x r).cons y).trans (.swap _ _ _)
theorem sortS_perm : ∀ l, (sortS l).Perm l
  | [] => .refl _
  | x :: r => (insS_perm x _).trans ((sortS_perm r).cons x)
theorem insS_rises (x : Str) : ∀ l : List Str, l.Pairwise (fun a b => leS a b = true) → (insS x l).Pairwise fun a b => leS a b = true
  | [], _ => by simp [insS]
  | y :: r, h => by
    obtain ⟨h1, h2⟩ := List.pairwise_cons.mp h
    unfold insS; split
    · rename_i q
      refine List.pairwise_cons.mpr ⟨fun z hz => ?_, h⟩
      rcases List.mem_cons.mp hz with rfl | hz
      · exact q
      · exact leS_trans q (h1 z hz)
    · rename_i q
      refine List.pairwise_cons.mpr ⟨fun z hz => ?_, insS_rises x r h2⟩
      rcases List.mem_cons.mp ((insS_perm x r).mem_iff.mp hz) with rfl | hz
      · exact (leS_total y z).resolve_right q
      · exact h1 z hz
theorem sortS_rises : ∀ l, (sortS l).Pairwise fun a b => leS a b = true
  | [] => .nil
  | x :: r => insS_rises x _ (sortS_rises r)
theorem rises_of : ∀ (p : Str) (l : List Str), PyProof.Rows.risingS p l = true → (p :: l).Pairwise fun a b => leS a b = true
  | p, [], _ => List.pairwise_singleton _ _
  | p, x :: r, h => by
    have h : (leS p x && PyProof.Rows.risingS x r) = true := h
    simp only [Bool.and_eq_true] at h
    have ih := rises_of x r h.2
    refine List.pairwise_cons.mpr ⟨fun z hz => ?_, ih⟩
    rcases List.mem_cons.mp hz with rfl | hz
    · exact h.1
    · exact leS_trans h.1 ((List.pairwise_cons.mp ih).1 z hz)
theorem eq_sortS {xs ys : List Str} (hp : ys.Perm xs) (hs : PyProof.Rows.sortedS ys = true) : ys = sortS xs := by
  refine List.Perm.eq_of_pairwise (fun a b _ _ h h' => leS_antisymm h h') ?_ (sortS_rises xs) (hp.trans (sortS_perm xs).symm)
  cases ys with
  | nil => exact .nil
  | cons y r => exact rises_of y r hs
abbrev sortI (ns : List Int) : List Int := PySem.W.sortI ns
theorem eq_sortI {ns ns' : List Int} (hp : ns'.Perm ns) (hs : ns'.Pairwise (· ≤ ·)) : ns' = sortI ns := PySem.W.eq_sortI hp hs
end Own

/-! Own, part C: expressions as data of our own, what they give, and the text they stand for -/
namespace Own
open PySem L2

/-- an exception: its class by name, its fields -/
structure Ex where
  cls : Str
  fs : List (Str × W)
inductive Res (α : Type) where
  | ok (a : α) (S : SW) | exc (x : Ex) (S : SW) | stuck
def Res.bind {α β : Type} (r : Res α) (f : α → SW → Res β) : Res β := match r with
  | .ok a S => f a S | .exc x S => .exc x S | .stuck => .stuck
def lift {α : Type} (o : Option α) (S : SW) : Res α := match o with
  | some a => .ok a S | none => .stuck
/-- what a call gives: its value, the arguments as they are then -/
inductive CRes where
  | ok (w : W) (ws : List W) | exc (x : Ex) (ws : List W) | stuck
/-- what the text's names mean: its defs, its constants -/
structure Fn where
  call : Str → List W → CRes
  cst : Str → Option W

/-- one target, or several -/
inductive Tg where | one (i : Nat) | many (is : List Nat) deriving DecidableEq
mutual
inductive E where
  | var (i : Nat) | int (n : Int) | str (s : Str) | bl (b : Bool) | non | glob (x : Str)
  | bin (o : BOp) (a b : E) | neg (a : E) | cmp (o : COp) (a b : E)
  | and (es : Es) | or (es : Es) | not (a : E) | ite (c a b : E)
  | tup (es : Es) | lst (es : Es) | idx (a k : E) | sl (a lo hi : E)
  | call (f : Str) (es : Es) | b1 (f : B1) (a : E) | b2 (f : B1) (a b : E) | isi (a : E) (t : Ty)
  | lc (own : List Nat) (t : Tg) (it : It) (c : Es) (e : E)
  | pop (i : Nat) | app (i : Nat) (e : E) | ext (i : Nat) (e : E) | rev (i : Nat)
  /-- from here on nobody changes the value -/
  | frz (e : E)
  | dn | dl (ks : List Key) (vs : Es) | get (i : Nat) (k x : E) | join (s : Str) (e : E)
  /-- a written dict of the top: read, asked -/
  | gidx (x : Str) (k : E) | gin (neg : Bool) (x : Str) (k : E)
  /-- list(reversed(a)); a dict, clause by clause -/
  | lrev (a : E) | dc (own : List Nat) (t : Tg) (it : It) (c : Es) (k v : E)
inductive Es where | nil | cons (e : E) (es : Es)
inductive It where | seq (e : E) | rng (e : E) | rng2 (a b : E)
end
def E.isVar : E → Option Nat
  | .var i => some i | _ => none
def E.isNon : E → Bool
  | .non => true | _ => false

/-! ### expressions that only look -/
/-- no new object that is owned -/
def B1.lk : B1 → Bool
  | .sorted => false | .list => false | _ => true
mutual
def E.isLk : E → Bool
  | .var _ => true | .int _ => true | .str _ => true | .bl _ => true | .non => true | .glob _ => true
  | .bin _ a b => a.isLk && b.isLk | .neg a => a.isLk | .idx a k => a.isLk && k.isLk | .b1 f a => f.lk && a.isLk | .tup es => es.isLk
  | .cmp _ _ _ => false | .and _ => false | .or _ => false | .not _ => false | .ite _ _ _ => false | .lst _ => false | .sl _ _ _ => false
  | .call _ _ => false | .b2 _ _ _ => false | .isi _ _ => false | .lc _ _ _ _ _ => false | .pop _ => false | .app _ _ => false | .ext _ _ => false | .rev _ => false | .frz _ => false
  | .dn => false | .dl _ _ => false | .get _ _ _ => false | .join _ _ => false | .gidx _ _ => false | .gin _ _ _ => false
  | .lrev _ => false | .dc _ _ _ _ _ _ => false
def Es.isLk : Es → Bool
  | .nil => true | .cons e es => e.isLk && es.isLk
end
def intsW : List W → Option (List Int)
  | [] => some [] | .int i :: r => (intsW r).map (i :: ·) | _ :: _ => none
def bolsW : List W → Option (List Bool)
  | [] => some [] | .bl i :: r => (bolsW r).map (i :: ·) | _ :: _ => none
def maxL : List Int → Option Int
  | [] => none | x :: r => match maxL r with | none => some x | some y => some (if x < y then y else x)
def minL : List Int → Option Int
  | [] => none | x :: r => match minL r with | none => some x | some y => some (if y < x then y else x)
def lstW : W → Option (List W)
  | .lst xs => some xs | .flst xs => some xs | _ => none
def strsW : List W → Option (List Str)
  | [] => some [] | .str i :: r => (strsW r).map (i :: ·) | _ :: _ => none
def kintsW : List Key → Option (List Int)
  | [] => some [] | .inl i :: r => (kintsW r).map (i :: ·) | _ :: _ => none
def kstrsW : List Key → Option (List Str)
  | [] => some [] | .inr i :: r => (kstrsW r).map (i :: ·) | _ :: _ => none
def sortW (x : W) : Option W := match dctW x with
  | some p => if p.1.length < 64 then (match kintsW p.1 with
    | some ns => some (.lst ((sortI ns).map .int))
    | none => (kstrsW p.1).map fun ss => .lst ((sortS ss).map .str)) else none
  | none => (lstW x).bind fun xs => match intsW xs with
    | some ns => some (.lst ((sortI ns).map .int))
    | none => if xs.length < 64 then (strsW xs).map fun ss => .lst ((sortS ss).map .str) else none
def b1W : B1 → W → Option W
  | .sorted, x => sortW x
  | .len, .str z => if z.length ≤ sizeLine then some (.int z.length) else none
  | .len, x => match dctW x with
    | some p => some (.int p.1.length)
    | none => (seqW x).map fun xs => .int xs.length
  | .sum, x => ((lstW x).bind intsW).map fun ns => .int ns.sum
  | .any, x => ((lstW x).bind bolsW).map fun bs => .bl (bs.any id)
  | .all, x => ((lstW x).bind bolsW).map fun bs => .bl (bs.all id)
  | .max, x => (((lstW x).bind intsW).bind maxL).map .int
  | .min, x => (((lstW x).bind intsW).bind minL).map .int
  | .abs, .int i => some (.int (if i < 0 then -i else i))
  | .int, .int i => some (.int i)
  | .int, .bl k => some (.int (if k then 1 else 0))
  | .str, .int i => if i.natAbs.log2 < 1920 then some (.str (toString i : String)) else none
  | .tuple, .tup xs => if pureL xs then some (.tup xs) else none
  | .tuple, x => (lstW x).bind fun xs => if pureL xs then some (.tup xs) else none
  | .list, x => (seqW x).bind fun xs => if pureL xs then some (.lst xs) else none
  | _, _ => none
def b2W : B1 → W → W → Option W
  | .max, .int i, .int j => some (.int (if j > i then j else i))
  | .min, .int i, .int j => some (.int (if j < i then j else i))
  | _, _, _ => none
def isiW : Ty → W → Bool
  | .int, .int _ => true | .int, .bl _ => true | .str, .str _ => true | .bool, .bl _ => true | .tuple, .tup _ => true
  | .list, .lst _ => true | .list, .flst _ => true | .dict, .dict _ _ => true | .dict, .fdict _ _ => true | _, _ => false
/-- no dict -/
def noFd : Option W → Option W
  | some (.fdict _ _) => none | o => o
def gidxW : Option W → Option W → Option W
  | some (.fdict ks ws), some (.str z) => dgt ks ws (.inr z)
  | _, _ => none
def ginW : Option W → Option W → Option Bool
  | some (.fdict ks ws), some (.str z) => some (dgt ks ws (.inr z)).isSome
  | _, _ => none
def pureO (o : Option W) : Option W := match o with
  | some w => if w.pure then some w else none | none => none
mutual
def lk (c : Fn) : E → SW → Option W
  | .var i, S => gt S i
  | .int n, _ => some (.int n) | .str s, _ => some (.str s) | .bl b, _ => some (.bl b) | .non, _ => some .non
  | .glob x, _ => noFd (c.cst x)
  | .bin o a b, S => (lk c a S).bind fun x => (lk c b S).bind fun y => pureO (binW o x y)
  | .neg a, S => (lk c a S).bind fun x => match x with | .int i => some (.int (-i)) | _ => none
  | .idx a k, S => (lk c a S).bind fun x => (lk c k S).bind fun y => idxW x y
  | .b1 f a, S => (lk c a S).bind fun x => pureO (b1W f x)
  | .tup es, S => (lkL c es S).bind fun ws => if pureL ws && decide (ws.length ≤ sizeLine) then some (.tup ws) else none
  | _, _ => none
def lkL (c : Fn) : Es → SW → Option (List W)
  | .nil, _ => some []
  | .cons e es, S => (lk c e S).bind fun w => (lkL c es S).bind fun ws => some (w :: ws)
end

/-! ### all expressions: true asks for the truth -/
/-- two operands, the first one still good behind the second -/
def two (la lb : Bool) (va : Option Nat) (qa qb : SW → Option W) (da db : SW → Res W) (S : SW) : Res (W × W) :=
  if lb then (if la then lift (qa S) S else da S).bind fun x S1 => lift ((qb S1).map fun y => (x, y)) S1
  else match va with
    | some i => if (gt S i).isSome then (db S).bind fun y S1 => lift ((gt S1 i).map fun x => (x, y)) S1 else .stuck
    | none => (da S).bind fun x S1 => (db S1).bind fun y S2 => .ok (x, y) S2
def tru (w : W) (S : SW) : Res W := lift ((truW w).map .bl) S
def ret (t : Bool) (w : W) (S : SW) : Res W := if t then tru w S else .ok w S
/-- a part of something: only a pure one is handed out -/
def retB (t : Bool) (w : W) (S : SW) : Res W := if t then tru w S else if w.pure then .ok w S else .stuck
/-- an argument: a value, or the very thing in a slot -/
inductive Ar where | val (w : W) | slot (i : Nat)
def resolve : List Ar → SW → Option (List W)
  | [], _ => some []
  | .val w :: r, S => (resolve r S).map (w :: ·)
  | .slot i :: r, S => (gt S i).bind fun w => (resolve r S).map (w :: ·)
def atsOf : List Ar → List Nat
  | [] => [] | .val _ :: r => atsOf r | .slot i :: r => i :: atsOf r
def nodupB : List Nat → Bool
  | [] => true | x :: r => !r.contains x && nodupB r
def backTo : List Ar → List W → SW → SW
  | .slot i :: r, w :: ws, S => backTo r ws (S.set i (some w))
  | .val _ :: r, _ :: ws, S => backTo r ws S
  | _, _, S => S
def isL : Option W → Bool
  | some (.lst _) => true | _ => false
def negR (w : W) (S : SW) : Res W := match w with
  | .int i => .ok (.int (-i)) S | _ => .stuck
def tupR (ws : List W) (S : SW) : Res W := if ws.length ≤ sizeLine then .ok (.tup ws) S else .stuck
def lstR (ws : List W) (S : SW) : Res W := if ws.length ≤ sizeLine then .ok (.lst ws) S else .stuck
def callR (c : Fn) (f : Str) (as : List Ar) (S : SW) : Res W := if nodupB (atsOf as) then match resolve as S with
  | some ws => (match c.call f ws with
    | .ok w ws' => .ok w (backTo as ws' S) | .exc x ws' => .exc x (backTo as ws' S) | .stuck => .stuck)
  | none => .stuck else .stuck
def wipeS (S : SW) : List Nat → SW
  | [] => S | v :: vs => (wipeS S vs).set v none
/-- behind a block: its own slots are the old ones -/
def unwipe (S0 S : SW) : List Nat → SW
  | [] => S | v :: vs => (unwipe S0 S vs).set v (gt S0 v)
def setMany : List Nat → List W → SW → Option SW
  | [], [], S => some S
  | i :: is, w :: ws, S => setMany is ws (S.set i (some w))
  | _, _, _ => none
def setTg : Tg → W → SW → Option SW
  | .one i, w, S => some (S.set i (some w))
  | .many is, .tup ws, S => if ws.length == is.length then setMany is ws S else none
  | .many _, _, _ => none
def rngW (a b : Int) : List W := (List.range (b - a).toNat).map fun (k : Nat) => .int (a + (k : Int))
def small62 (i : Int) : Bool := decide (-(2 ^ 62) ≤ i ∧ i < 2 ^ 62)
/-- the items of a comprehension, one after another -/
def lcL (d : W → SW → Res (Option W)) : List W → List W → SW → Res (List W)
  | [], acc, S => .ok acc S
  | w :: ws, acc, S => match d w S with
    | .ok (some y) S1 => if acc.length < sizeLine then lcL d ws (acc ++ [y]) S1 else .stuck
    | .ok none S1 => lcL d ws acc S1
    | _ => .stuck

/-- the slots that two operands may change -/
def md2 (la lb : Bool) (va : Option Nat) (ma mb : List Nat) : List Nat :=
  if lb then (if la then [] else ma) else match va with
    | some _ => mb | none => ma ++ mb
/-! the slots that may be changed -/
mutual
def E.md : Bool → E → List Nat
  | t, .var i => if t then [] else [i]
  | _, .bin _ a b => md2 a.isLk b.isLk a.isVar (a.md false) (b.md false)
  | _, .neg a => if a.isLk then [] else a.md false
  | _, .cmp _ a b => md2 a.isLk b.isLk a.isVar (a.md false) (b.md false)
  | t, .and es => es.md t | t, .or es => es.md t | t, .not a => if t then a.md true else if a.isLk then [] else a.md false
  | _, .ite c a b => c.md true ++ (a.md false ++ b.md false)
  | _, .tup es => es.md false | _, .lst es => es.md false
  | _, .idx a b => md2 a.isLk b.isLk a.isVar (a.md false) (b.md false)
  | _, .sl a lo hi => if a.isLk then [] else a.md false
  | _, .call _ es => es.md false
  | _, .b1 _ a => if a.isLk then [] else a.md false
  | _, .b2 _ a b => md2 a.isLk b.isLk a.isVar (a.md false) (b.md false)
  | _, .isi a _ => if a.isLk then [] else a.md false
  | _, .lc _ _ it c e => it.md ++ (c.md true ++ e.md false)
  | _, .pop i => [i]
  | _, .app i e => i :: e.md false
  | _, .ext i e => i :: (if e.isLk then [] else e.md false)
  | _, .rev i => [i]
  | _, .frz e => e.md false
  | _, .dn => [] | _, .dl _ _ => [] | _, .get _ _ _ => [] | _, .gidx _ _ => [] | _, .gin _ _ _ => [] | _, .join _ e => if e.isLk then [] else e.md false
  | _, .lrev a => if a.isLk then [] else a.md false | _, .dc _ _ it c k v => it.md ++ (c.md true ++ (k.md false ++ v.md false))
  | _, .int _ => [] | _, .str _ => [] | _, .bl _ => [] | _, .non => [] | _, .glob _ => []
def Es.md : Bool → Es → List Nat
  | _, .nil => [] | t, .cons e es => e.md t ++ es.md t
def It.md : It → List Nat
  | .seq e => if e.isLk then [] else e.md false | .rng e => e.md false | .rng2 a b => a.md false ++ b.md false
end

/-! the slots that an expression looks at -/
mutual
def E.us : E → List Nat
  | .var i => [i] | .bin _ a b => a.us ++ b.us | .neg a => a.us | .idx a k => a.us ++ k.us | .b1 _ a => a.us | .tup es => es.us
  | .cmp _ _ _ => [] | .and _ => [] | .or _ => [] | .not _ => [] | .ite _ _ _ => [] | .lst _ => [] | .sl _ _ _ => []
  | .call _ _ => [] | .b2 _ _ _ => [] | .isi _ _ => [] | .lc _ _ _ _ _ => [] | .pop _ => [] | .app _ _ => [] | .ext _ _ => [] | .rev _ => [] | .frz _ => []
  | .dn => [] | .dl _ _ => [] | .get _ _ _ => [] | .join _ _ => [] | .gidx _ _ => [] | .gin _ _ _ => [] | .lrev _ => [] | .dc _ _ _ _ _ _ => []
  | .int _ => [] | .str _ => [] | .bl _ => [] | .non => [] | .glob _ => []
def Es.us : Es → List Nat
  | .nil => [] | .cons e es => e.us ++ es.us
end
def cutW (xs : List W) (lo hi : Option Int) : List W := (xs.drop (HT.sIx xs.length 0 lo)).take (HT.sIx xs.length xs.length hi - HT.sIx xs.length 0 lo)
/-- a cut: a new list, a new tuple of pure items -/
def slW (x : W) (lo hi : Option Int) : Option W := match x with
  | .tup xs => if pureL xs then some (.tup (cutW xs lo hi)) else none
  | .lst xs => if pureL xs then some (.lst (cutW xs lo hi)) else none
  | .flst xs => if pureL xs then some (.lst (cutW xs lo hi)) else none
  | _ => none
/-- a bound of a cut: none written, or an int that is looked at -/
def part (e : E) (o : Option W) : Option (Option Int) := if e.isNon then some none else match o with
  | some (.int i) => some (some i) | _ => none
/-- what is walked, and whether it may stand while the slots m change -/
def itemsW (w : W) : Option (List W) := (seqW w).bind fun xs => if pureL xs then some xs else none
def extW (w : W) : Option (List W) := match w with
  | .tup xs => if pureL xs then some xs else none | .lst xs => if pureL xs then some xs else none | _ => none
/-! the same value, changed by nobody from here on -/
mutual
def frzW : W → Option W
  | .non => some .non | .bl b => some (.bl b) | .int i => some (.int i) | .str x => some (.str x)
  | .tup xs => (frzL xs).map .tup | .flst xs => (frzL xs).map .flst | .lst xs => (frzL xs).map .flst
  | .dict ks ws => (frzL ws).map (.fdict ks) | .fdict ks ws => (frzL ws).map (.fdict ks) | .ins _ _ => none
def frzL : List W → Option (List W)
  | [] => some []
  | x :: r => (frzW x).bind fun y => (frzL r).map (y :: ·)
end
def dlW (ks : List Key) (ws : List W) : Option W := if pureL ws && (decide (ks.length = ws.length) && (decide (ks.length ≤ 15) && (decide ks.Nodup && !ks.isEmpty))) then some (.dict ks ws) else none
def getW : Option W → Option W → Option W → Option W
  | some d, some k, some x => (dctW d).bind fun p => (dkey k).bind fun key => some ((dgt p.1 p.2 key).getD x)
  | _, _, _ => none
def joinW (s : Str) (w : W) : Option W := ((seqW w).bind strsW).bind fun ys => if (ys.map (·.length)).sum + ys.length * s.length ≤ 16777216 then some (.str (Txt.join s ys)) else none
/-- the values behind a store -/
def dset : List Key → List W → Key → W → List W
  | k' :: ks, x :: ws, k, w => (if k' = k then w else x) :: dset ks ws k w
  | _, _, _, _ => []
def hasK (ks : List Key) (k : Key) : Bool := ks.any fun k' => decide (k' = k)
theorem hasK_iff {ks : List Key} {k : Key} : hasK ks k = true ↔ k ∈ ks := by simp [hasK]
/-- a new list, the other way round -/
def lrevW (w : W) : Option W := (seqW w).bind fun xs => if pureL xs && decide (xs.length ≤ sizeLine) then some (.lst xs.reverse) else none
/-- a dict, entry by entry -/
def dcPut (p : List Key × List W) (k : Key) (w : W) : List Key × List W := if hasK p.1 k then (p.1, dset p.1 p.2 k w) else (p.1 ++ [k], p.2 ++ [w])
def dcL (d : W → SW → Res (Option (W × W))) : List W → List Key × List W → SW → Res (List Key × List W)
  | [], acc, S => .ok acc S
  | w :: ws, acc, S => match d w S with
    | .ok (some (y, z)) S1 => match dkey y with
      | some k => if z.pure && decide (acc.1.length < sizeLine) then dcL d ws (dcPut acc k z) S1 else .stuck
      | none => .stuck
    | .ok none S1 => dcL d ws acc S1
    | _ => .stuck
def aloof (us m : List Nat) : Bool := us.all fun i => !m.contains i

mutual
def ev (c : Fn) : Bool → E → SW → Res W
  | t, .var i, S => match gt S i with
    | some w => if t then tru w S else if w.pure then .ok w S else .ok w (S.set i none)
    | none => .stuck
  | t, .int n, S => ret t (.int n) S | t, .str s, S => ret t (.str s) S | t, .bl b, S => ret t (.bl b) S | t, .non, S => ret t .non S
  | t, .glob x, S => (lift (noFd (c.cst x)) S).bind fun w S1 => ret t w S1
  | t, .bin o a b, S => (two a.isLk b.isLk a.isVar (lk c a) (lk c b) (ev c false a) (ev c false b) S).bind fun p S1 => (lift (binW o p.1 p.2) S1).bind fun w S2 => ret t w S2
  | t, .neg a, S => (if a.isLk then lift (lk c a S) S else ev c false a S).bind fun w S1 => (negR w S1).bind fun w S2 => ret t w S2
  | _, .cmp o a b, S => (two a.isLk b.isLk a.isVar (lk c a) (lk c b) (ev c false a) (ev c false b) S).bind fun p S1 => (lift (cmpW o p.1 p.2) S1).bind fun b S2 => .ok (.bl b) S2
  | t, .and es, S => evAnd c t es S
  | t, .or es, S => evOr c t es S
  | t, .not a, S => if t then (ev c true a S).bind fun w S1 => match w with
    | .bl b => .ok (.bl (!b)) S1 | _ => .stuck
    else (if a.isLk then lift (lk c a S) S else ev c false a S).bind fun w S1 => (lift (truW w) S1).bind fun b S2 => .ok (.bl (!b)) S2
  | t, .ite d a b, S => if t then .stuck else (ev c true d S).bind fun w S1 => match w with
    | .bl true => ev c false a S1 | .bl false => ev c false b S1 | _ => .stuck
  | t, .tup es, S => (evL c es S).bind fun ws S1 => (tupR ws S1).bind fun w S2 => ret t w S2
  | t, .lst es, S => (evL c es S).bind fun ws S1 => (lstR ws S1).bind fun w S2 => ret t w S2
  | t, .idx a k, S => (two a.isLk k.isLk a.isVar (lk c a) (lk c k) (ev c false a) (ev c false k) S).bind fun p S1 => (lift (idxW p.1 p.2) S1).bind fun w S2 => retB t w S2
  | t, .sl a lo hi, S => (if a.isLk then lift (lk c a S) S else ev c false a S).bind fun w S1 =>
      (lift (part lo (lk c lo S1)) S1).bind fun l S1 => (lift (part hi (lk c hi S1)) S1).bind fun h S1 => (lift (slW w l h) S1).bind fun r S1 => ret t r S1
  | t, .call f es, S => (evA c es S).bind fun as S1 => (callR c f as S1).bind fun w S2 => ret t w S2
  | t, .b1 f a, S => (if a.isLk then lift (lk c a S) S else ev c false a S).bind fun w S1 => (lift (b1W f w) S1).bind fun r S1 => ret t r S1
  | t, .b2 f a b, S => (two a.isLk b.isLk a.isVar (lk c a) (lk c b) (ev c false a) (ev c false b) S).bind fun p S1 => (lift (b2W f p.1 p.2) S1).bind fun w S2 => ret t w S2
  | _, .isi a y, S => (if a.isLk then lift (lk c a S) S else ev c false a S).bind fun w S1 => .ok (.bl (isiW y w)) S1
  | t, .lc own tg it cs e, S => (evIt c (cs.md true ++ e.md false) it S).bind fun items S1 =>
      (lcL (fun w S2 => match setTg tg w S2 with
        | some S3 => (evTs c cs S3).bind fun b S4 => match b with
          | .bl true => (ev c false e S4).bind fun y S5 => .ok (some y) (wipeS S5 own)
          | .bl false => .ok none (wipeS S4 own)
          | _ => .stuck
        | none => .stuck) items [] (wipeS S1 own)).bind fun ys S6 => ret t (.lst ys) (unwipe S1 S6 own)
  | t, .pop i, S => match gt S i with
    | some (.lst xs) => match xs[xs.length - 1]? with
      | some y => if t then .stuck else .ok y (S.set i (some (.lst xs.dropLast)))
      | none => .stuck
    | _ => .stuck
  | t, .app i e, S => if t then .stuck else if isL (gt S i) then (ev c false e S).bind fun w S1 => match gt S1 i with
    | some (.lst xs) => if xs.length < sizeLine then .ok .non (S1.set i (some (.lst (xs ++ [w])))) else .stuck
    | _ => .stuck else .stuck
  | t, .ext i e, S => if t then .stuck else if isL (gt S i) then (if e.isLk then lift (lk c e S) S else ev c false e S).bind fun w S1 => match gt S1 i with
    | some (.lst xs) => (lift (extW w) S1).bind fun ys S1 => if xs.length + ys.length ≤ sizeLine then .ok .non (S1.set i (some (.lst (xs ++ ys)))) else .stuck
    | _ => .stuck else .stuck
  | t, .rev i, S => match gt S i with
    | some (.lst xs) => if t then .stuck else if pureL xs then .ok .non (S.set i (some (.lst xs.reverse))) else .stuck
    | _ => .stuck
  | t, .frz e, S => if t then .stuck else (ev c false e S).bind fun w S1 => (lift (frzW w) S1).bind fun u S2 => .ok u S2
  | t, .dn, S => if t then .stuck else .ok (.dict [] []) S
  | t, .dl ks vs, S => if t then .stuck else (lift (lkL c vs S) S).bind fun ws S1 => (lift (dlW ks ws) S1).bind fun w S2 => .ok w S2
  | t, .get i k x, S => (lift (getW (gt S i) (lk c k S) (lk c x S)) S).bind fun w S1 => retB t w S1
  | t, .join s e, S => (if e.isLk then lift (lk c e S) S else ev c false e S).bind fun w S1 => (lift (joinW s w) S1).bind fun u S2 => ret t u S2
  | t, .gidx x k, S => (lift (gidxW (c.cst x) (lk c k S)) S).bind fun w S1 => ret t w S1
  | t, .gin n x k, S => (lift (ginW (c.cst x) (lk c k S)) S).bind fun b S1 => .ok (.bl (if n then !b else b)) S1
  | t, .lrev a, S => (if a.isLk then lift (lk c a S) S else ev c false a S).bind fun w S1 => (lift (lrevW w) S1).bind fun r S1 => ret t r S1
  | t, .dc own tg it cs k v, S => (evIt c (cs.md true ++ (k.md false ++ v.md false)) it S).bind fun items S1 =>
      (dcL (fun w S2 => match setTg tg w S2 with
        | some S3 => (evTs c cs S3).bind fun b S4 => match b with
          | .bl true => (ev c false k S4).bind fun y S5 => (ev c false v S5).bind fun z S6 => .ok (some (y, z)) (wipeS S6 own)
          | .bl false => .ok none (wipeS S4 own)
          | _ => .stuck
        | none => .stuck) items ([], []) (wipeS S1 own)).bind fun ys S6 => ret t (.dict ys.1 ys.2) (unwipe S1 S6 own)
/-- all, as a value or for the truth -/
def evAnd (c : Fn) : Bool → Es → SW → Res W
  | _, .nil, _ => .stuck
  | t, .cons e .nil, S => ev c t e S
  | t, .cons e es, S => (ev c t e S).bind fun w S1 => match w with
    | .bl true => evAnd c t es S1 | .bl false => .ok (.bl false) S1 | _ => .stuck
def evOr (c : Fn) : Bool → Es → SW → Res W
  | _, .nil, _ => .stuck
  | t, .cons e .nil, S => ev c t e S
  | t, .cons e es, S => (ev c t e S).bind fun w S1 => match w with
    | .bl false => evOr c t es S1 | .bl true => .ok (.bl true) S1 | _ => .stuck
/-- a clause's tests: none or one -/
def evTs (c : Fn) : Es → SW → Res W
  | .nil, S => .ok (.bl true) S
  | .cons e .nil, S => ev c true e S
  | .cons _ _, _ => .stuck
def evL (c : Fn) : Es → SW → Res (List W)
  | .nil, S => .ok [] S
  | .cons e es, S => (ev c false e S).bind fun w S1 => (evL c es S1).bind fun ws S2 => .ok (w :: ws) S2
def evA (c : Fn) : Es → SW → Res (List Ar)
  | .nil, S => .ok [] S
  | .cons e es, S => ((match e.isVar with
      | some i => (match gt S i with
        | some w => if w.pure then .ok (Ar.val w) S else .ok (Ar.slot i) S
        | none => .stuck)
      | none => (ev c false e S).bind fun w S1 => .ok (Ar.val w) S1) : Res Ar).bind fun a S1 => (evA c es S1).bind fun as S2 => .ok (a :: as) S2
/-- what a for walks while the slots m may change -/
def evIt (c : Fn) : List Nat → It → SW → Res (List W)
  | m, .seq e, S => (if e.isLk then lift (lk c e S) S else ev c false e S).bind fun w S1 => if w.pure || (!e.isLk || aloof e.us m) then lift (itemsW w) S1 else .stuck
  | _, .rng e, S => (ev c false e S).bind fun w S1 => match w with
    | .int n => if small62 n then .ok (rngW 0 n) S1 else .stuck | _ => .stuck
  | _, .rng2 a b, S => (ev c false a S).bind fun x S1 => (ev c false b S1).bind fun y S2 => match x, y with
    | .int i, .int j => if small62 i && small62 j then .ok (rngW i j) S2 else .stuck | _, _ => .stuck
end

/-! ### the text -/
structure Chk where
  N : List Str
  sc : Scope
  fns : List Str
  cs : List Str
  /-- the names whose cells may be stored to -/
  ce : List Str
/-- a block within -/
def Chk.blk (z : Chk) (scope : Scope) : Chk := { z with sc := relS scope z.sc, ce := (scope.names.filter fun p => decide (p.2 = .cell)).map (·.1) }
def Tg.slots : Tg → List Nat
  | .one i => [i] | .many is => is
def Chk.vis (z : Chk) (i : Nat) (x : Str) : Bool := decide (z.N[i]? = some x) && ((match z.sc.names.lookup x with
  | some .local => true | some .cell => true | some .free => true | _ => false) && (!(x == ("__debug__" : Str)) && !(x == ("__classdict__" : Str))))
/-- a slot that is stored to -/
def Chk.loc (z : Chk) (i : Nat) (x : Str) : Bool := decide (z.N[i]? = some x) && (match z.sc.names.lookup x with
  | some .local => true | some .cell => z.ce.contains x | _ => false)
/-- one that is the block's own, no cell -/
def Chk.loc1 (z : Chk) (i : Nat) (x : Str) : Bool := decide (z.N[i]? = some x) && (match z.sc.names.lookup x with
  | some .local => true | _ => false)
def Chk.gl (z : Chk) (x : Str) : Bool := match z.sc.names.lookup x with
  | some .globalImplicit => true | _ => false
def B1.nm : B1 → Str
  | .len => "len" | .sum => "sum" | .any => "any" | .all => "all" | .abs => "abs" | .int => "int" | .str => "str" | .tuple => "tuple" | .list => "list"
  | .max => "max" | .min => "min" | .sorted => "sorted"
def Ty.nm : Ty → Str
  | .int => "int" | .str => "str" | .bool => "bool" | .tuple => "tuple" | .list => "list" | .dict => "dict"
def chkTgs (z : Chk) : List Nat → List Expr → Bool
  | [], [] => true | i :: is, .Name x _ :: xs => z.loc i x && chkTgs z is xs | _, _ => false
def chkTg (z : Chk) : Tg → Expr → Bool
  | .one i, .Name x _ => z.loc i x
  | .many is, .Tuple xs _ _ => chkTgs z is xs
  | _, _ => false
/-- the slots' names, for a block -/
def ownN (z : Chk) : List Nat → Option (List (Str × Nat))
  | [] => some [] | i :: is => match z.N[i]?, ownN z is with
    | some x, some r => some ((x, i) :: r) | _, _ => none
def isStar : Expr → Bool
  | .Starred _ _ => true | _ => false
/-- the call of a name -/
def onC1 (f : Str → Expr → Bool) : Expr → Bool
  | .Call (.Name y _) [x] [] _ => f y x | _ => false
theorem onC1_inv {f : Str → Expr → Bool} {x : Expr} (h : onC1 f x = true) : ∃ y q w p, x = .Call (.Name y q) [w] [] p ∧ f y w = true := by
  unfold onC1 at h
  split at h
  · exact ⟨_, _, _, _, rfl, h⟩
  · cases h
def onC2 (f : Str → Expr → Expr → Bool) : Expr → Bool
  | .Call (.Name y _) [x, z] [] _ => f y x z | _ => false
theorem onC2_inv {f : Str → Expr → Expr → Bool} {x : Expr} (h : onC2 f x = true) : ∃ y q w u p, x = .Call (.Name y q) [w, u] [] p ∧ f y w u = true := by
  unfold onC2 at h
  split at h
  · exact ⟨_, _, _, _, _, rfl, h⟩
  · cases h
/-- a cut's bound -/
def partC (f : Expr → Bool) (e : E) : Option Expr → Bool
  | none => e.isNon | some x => !e.isNon && (e.isLk && f x)
/-- written keys -/
def chkKs : List Key → List (Option Expr) → Bool
  | [], [] => true
  | .inl n :: r, some (.Constant (.int m) _ _) :: xs => decide (n = m) && chkKs r xs
  | .inr n :: r, some (.Constant (.str m) _ _) :: xs => decide (n = m) && chkKs r xs
  | _, _ => false
/-- no place for a freeze -/
def isOdd : Expr → Bool
  | .Starred _ _ => true | .Slice _ _ _ _ => true | .Set _ _ _ => true | .ListComp _ _ _ _ => true | .SetComp _ _ _ _ => true | .DictComp _ _ _ _ _ => true | _ => false
mutual
def chkE (z : Chk) : E → Expr → Bool
  | .var i, .Name x _ => z.vis i x
  | .int n, .Constant (.int m) _ _ => decide (n = m)
  | .str s, .Constant (.str y) _ _ => decide (s = y)
  | .bl b, .Constant (.bool d) _ _ => decide (b = d)
  | .non, .Constant .none _ _ => true
  | .glob x, .Name y _ => decide (x = y) && (z.gl x && (z.cs.contains x && !(x == ("__debug__" : Str))))
  | .bin o a b, .BinOp x p y _ => decide (p = opAst o) && (chkE z a x && chkE z b y)
  | .neg a, .UnaryOp .USub x _ => chkE z a x
  | .cmp o a b, .Compare x [p] [y] _ => decide (p = copAst o) && (chkE z a x && (chkE z b y && !behindInMarks p y))
  | .and es, .BoolOp .And xs _ => chkEs z es xs
  | .or es, .BoolOp .Or xs _ => chkEs z es xs
  | .not a, .UnaryOp .Not x _ => chkE z a x
  | .ite c a b, .IfExp x y w _ => chkE z c x && (chkE z a y && chkE z b w)
  | .tup es, .Tuple xs _ _ => chkEs z es xs
  | .lst es, .List xs _ => chkEs z es xs
  | .idx a k, .Subscript x y _ => chkE z a x && chkE z k y
  | .sl a lo hi, .Subscript x (.Slice l h none _) _ => chkE z a x && (partC (chkE z lo) lo l && partC (chkE z hi) hi h)
  | .call f es, .Call (.Name y _) (x :: xs) [] _ => decide (f = y) && (z.gl f && (z.fns.contains f && (chkEs z es (x :: xs) && !(f == ("__debug__" : Str)))))
  | .b1 f a, .Call (.Name y _) [x] [] _ => decide (f.nm = y) && (z.gl y && chkE z a x)
  | .b2 f a b, .Call (.Name w _) [x, y] [] _ => decide (f.nm = w) && (z.gl w && (chkE z a x && chkE z b y))
  | .isi a t, .Call (.Name w _) [x, .Name y _] [] _ => decide (w = ("isinstance" : Str)) && (z.gl w && (chkE z a x && (decide (y = t.nm) && z.gl y)))
  | .lc own tg it cs e, .ListComp elt [⟨t, i, ifs, a⟩] scope _ => match ownN z own with
    | some o => blkC z.N z.sc scope o && (decide (a = 0) && (tg.slots.all own.contains && (chkTg (z.blk scope) tg t && (chkIt z it i && (chkEs (z.blk scope) cs ifs && chkE (z.blk scope) e elt)))))
    | none => false
  | .pop i, .Call (.Attribute (.Name x _) y p) [] [] q => z.vis i x && (decide (y = ("pop" : Str)) && p.endLine == q.line)
  | .app i e, .Call (.Attribute (.Name x _) y p) [w] [] q => z.vis i x && (decide (y = ("append" : Str)) && (p.endLine == q.line && chkE z e w))
  | .ext i e, .Call (.Attribute (.Name x _) y p) [w] [] q => z.vis i x && (decide (y = ("extend" : Str)) && (p.endLine == q.line && chkE z e w))
  | .rev i, .Call (.Attribute (.Name x _) y p) [] [] q => z.vis i x && (decide (y = ("reverse" : Str)) && p.endLine == q.line)
  | .frz e, x => !isOdd x && chkE z e x
  | .gidx x k, .Subscript (.Name y _) w _ => decide (x = y) && (z.gl x && (z.cs.contains x && (!(x == ("__debug__" : Str)) && (k.isLk && chkE z k w))))
  | .gin n x k, .Compare w [p] [.Name y _] _ => decide (p = if n then .NotIn else .In) && (decide (x = y) && (z.gl x && (z.cs.contains x && (!(x == ("__debug__" : Str)) && (k.isLk && chkE z k w)))))
  | .dn, .Dict [] [] _ => true
  | .dl ks vs, .Dict xs ys _ => chkKs ks xs && (decide (xs.length = ys.length ∧ xs.length ≤ 15 ∧ 0 < xs.length) && (vs.isLk && chkEs z vs ys))
  | .get i k x, .Call (.Attribute (.Name y _) m p) [a, b] [] q => z.vis i y && (decide (m = ("get" : Str)) && (p.endLine == q.line && (k.isLk && (x.isLk && (chkE z k a && chkE z x b)))))
  | .join s e, .Call (.Attribute (.Constant (.str w) _ _) m p) [a] [] q => decide (s = w) && (decide (m = ("join" : Str)) && (p.endLine == q.line && chkE z e a))
  | .lrev e, .Call (.Name y _) [.Call (.Name w _) [x] [] _] [] _ => decide (y = ("list" : Str)) && (z.gl y && (decide (w = ("reversed" : Str)) && (z.gl w && chkE z e x)))
  | .dc own tg it cs k v, .DictComp kx vx [⟨t, i, ifs, a⟩] scope _ => match ownN z own with
    | some o => blkC z.N z.sc scope o && (decide (a = 0) && (tg.slots.all own.contains && (chkTg (z.blk scope) tg t && (chkIt z it i && (chkEs (z.blk scope) cs ifs && (chkE (z.blk scope) k kx && chkE (z.blk scope) v vx))))))
    | none => false
  | _, _ => false
def chkEs (z : Chk) : Es → List Expr → Bool
  | .nil, [] => true | .cons e es, x :: xs => chkE z e x && (chkEs z es xs && !isStar x) | _, _ => false
def chkIt (z : Chk) : It → Expr → Bool
  | .seq e, x => chkE z e x
  | .rng e, x => onC1 (fun y x => decide (y = ("range" : Str)) && (z.gl y && chkE z e x)) x
  | .rng2 a b, x => onC2 (fun w x y => decide (w = ("range" : Str)) && (z.gl w && (chkE z a x && chkE z b y))) x
end
abbrev chkP (z : Chk) (e : E) (o : Option Expr) : Bool := partC (chkE z e) e o
end Own

/-! Own, part D: what an expression's evaluation promises -/
namespace Own
open PySem L2

structure Tab where
  P : Program
  w : World
  K : PySem.W.Frag
  mg : Str → Option Value
  base : Heap
  xr : Ex → Value → Option Addr → Hp → Prop

structure Goes (m : Nat → Prop) (H : Hp) (S : SW) (g : Nat → List Addr) (H' : Hp) (S' : SW) (g' : Nat → List Addr) : Prop where
  keep : Keep (Ow m g) H H'
  same : ∀ j, ¬ m j → gt S' j = gt S j ∧ g' j = g j
  sub : ∀ j a, m j → a ∈ g' j → H a = none ∨ Ow m g a
section
variable {K : PySem.W.Frag} {m m' : Nat → Prop} {H H1 H2 : Hp} {S S1 S2 : SW} {g g1 g2 : Nat → List Addr} {σ : St}
theorem Goes.refl : Goes m H S g H S g := ⟨Keep.refl, fun _ _ => ⟨rfl, rfl⟩, fun j a h h' => .inr ⟨j, h, h'⟩⟩
theorem Goes.trans (a : Goes m H S g H1 S1 g1) (b : Goes m H1 S1 g1 H2 S2 g2) : Goes m H S g H2 S2 g2 where
  keep := fun c o h n => b.keep c o (a.keep c o h n) fun ⟨j, hj, hc⟩ => (a.sub j c hj hc).elim (fun z => by rw [h] at z; cases z) n
  same := fun j n => ⟨(b.same j n).1.trans (a.same j n).1, (b.same j n).2.trans (a.same j n).2⟩
  sub := fun j c hj hc => by
    rcases b.sub j c hj hc with z | ⟨i, hi, z⟩
    · exact a.keep.none_of z
    · exact a.sub i c hi z
theorem Goes.mono (a : Goes m H S g H1 S1 g1) (h : ∀ j, m j → m' j) : Goes m' H S g H1 S1 g1 where
  keep := a.keep.mono fun c ⟨j, hj, hc⟩ => ⟨j, h j hj, hc⟩
  same := fun j n => a.same j fun z => n (h j z)
  sub := fun j c hj hc => by
    by_cases q : m j
    · rcases a.sub j c q hc with z | ⟨i, hi, z⟩
      · exact .inl z
      · exact .inr ⟨i, h i hi, z⟩
    · rw [(a.same j q).2] at hc
      exact .inr ⟨j, hj, hc⟩
theorem Goes.all (a : Goes m H S g H1 S1 g1) (k : All H1 H2) : Goes m H S g H2 S1 g1 := ⟨a.keep.trans k.all, a.same, a.sub⟩
theorem Goes.none (a : Goes m H S g H1 S1 g1) {c : Addr} (h : H1 c = Option.none) : H c = Option.none ∨ Ow m g c := a.keep.none_of h
end

/-- a value that is handed out: owned by nobody else -/
structure Vl (K : PySem.W.Frag) (m : Nat → Prop) (H : Hp) (g : Nat → List Addr) (w : W) (v : V) (f : List Addr) (H' : Hp) (g' : Nat → List Addr) : Prop where
  rep : Rep K H' w v f
  nd : f.Nodup
  sub : ∀ a ∈ f, H a = none ∨ Ow m g a
  dj : ∀ a ∈ f, ∀ j, a ∉ g' j
structure VlL (K : PySem.W.Frag) (m : Nat → Prop) (H : Hp) (g : Nat → List Addr) (w : List W) (v : List V) (f : List Addr) (H' : Hp) (g' : Nat → List Addr) : Prop where
  rep : Reps K H' w v f
  nd : f.Nodup
  sub : ∀ a ∈ f, H a = none ∨ Ow m g a
  dj : ∀ a ∈ f, ∀ j, a ∉ g' j
section
variable {K : PySem.W.Frag} {m m' : Nat → Prop} {H H1 H2 : Hp} {S S1 S2 : SW} {g g1 g2 : Nat → List Addr} {σ : St} {w : W} {v : V} {f : List Addr} {ws : List W} {vs : List V}
theorem dj_step (r1 : SR K H1 S1 σ g1) (b : Goes m' H1 S1 g1 H2 S2 g2) (tr : ∀ a ∈ f, H1 a ≠ none) (dj : ∀ a ∈ f, ∀ j, a ∉ g1 j) : ∀ a ∈ f, ∀ j, a ∉ g2 j := fun a ha j hj => by
  by_cases q : m' j
  · rcases b.sub j a q hj with z | ⟨i, _, z⟩
    · exact tr a ha z
    · exact dj a ha i z
  · rw [(b.same j q).2] at hj
    exact dj a ha j hj
theorem Vl.step (x : Vl K m H g w v f H1 g1) (r1 : SR K H1 S1 σ g1) (b : Goes m' H1 S1 g1 H2 S2 g2) : Vl K m H g w v f H2 g2 :=
  ⟨x.rep.keep b.keep r1.mut fun a ha ⟨j, _, z⟩ => x.dj a ha j z, x.nd, x.sub, dj_step r1 b (fun a ha => x.rep.trk ha) x.dj⟩
theorem VlL.step (x : VlL K m H g ws vs f H1 g1) (r1 : SR K H1 S1 σ g1) (b : Goes m' H1 S1 g1 H2 S2 g2) : VlL K m H g ws vs f H2 g2 :=
  ⟨x.rep.keep b.keep r1.mut fun a ha ⟨j, _, z⟩ => x.dj a ha j z, x.nd, x.sub, dj_step r1 b (fun a ha => x.rep.trk ha) x.dj⟩
theorem Vl.back (x : Vl K m H1 g1 w v f H2 g2) (a : Goes m H S g H1 S1 g1) : Vl K m H g w v f H2 g2 :=
  ⟨x.rep, x.nd, fun c hc => (x.sub c hc).elim a.none fun ⟨j, hj, z⟩ => a.sub j c hj z, x.dj⟩
theorem VlL.back (x : VlL K m H1 g1 ws vs f H2 g2) (a : Goes m H S g H1 S1 g1) : VlL K m H g ws vs f H2 g2 :=
  ⟨x.rep, x.nd, fun c hc => (x.sub c hc).elim a.none fun ⟨j, hj, z⟩ => a.sub j c hj z, x.dj⟩
theorem Vl.mono (x : Vl K m H g w v f H1 g1) (h : ∀ j, m j → m' j) : Vl K m' H g w v f H1 g1 := ⟨x.rep, x.nd, fun a ha => (x.sub a ha).imp id fun ⟨j, hj, z⟩ => ⟨j, h j hj, z⟩, x.dj⟩
/-- one with no claim -/
theorem Vl.pure (r : Rep K H1 w v f) (p : w.pure = true) : Vl K m H g w v [] H1 g1 := by
  have e := r.own_pure p
  subst e
  exact ⟨r, List.nodup_nil, (fun _ z => nomatch z), (fun _ z => nomatch z)⟩
/-- a new one -/
theorem Vl.new (r1 : SR K H1 S1 σ g1) (a : Goes m H S g H1 S1 g1) (r : Rep K H2 w v f) (nd : f.Nodup) (fr : ∀ a ∈ f, H1 a = none) : Vl K m H g w v f H2 g1 :=
  ⟨r, nd, fun c hc => a.none (fr c hc), fun c hc j z => r1.trk z (fr c hc)⟩
theorem Vl.cons (x : Vl K m H g w v f H2 g2) {f' : List Addr} (y : VlL K m H1 g1 ws vs f' H2 g2) (a : Goes m H S g H1 S1 g1) (tr : ∀ a ∈ f, H1 a ≠ none) (dj : ∀ a ∈ f, ∀ j, a ∉ g1 j) : VlL K m H g (w :: ws) (v :: vs) (f ++ f') H2 g2 := by
  have y' := y.back a
  refine ⟨.cons x.rep y.rep, List.nodup_append.mpr ⟨x.nd, y.nd, fun c hc d hd e => ?_⟩, fun c hc => (List.mem_append.mp hc).elim (x.sub c) (y'.sub c), fun c hc => (List.mem_append.mp hc).elim (x.dj c) (y.dj c)⟩
  subst e
  rcases y.sub c hd with z | ⟨i, _, z⟩
  · exact tr c hc z
  · exact dj c hc i z
end

/-- what is wanted behind a piece of evaluation -/
def Post {α : Type} (T : Tab) (W0 : WX) (m : Nat → Prop) (σ : St) (H : Hp) (S : SW) (g : Nat → List Addr) (r : Res α) (R : α → SW → Hp → (Nat → List Addr) → Prop) : Prop := match r with
  | .ok a S' => ∀ H' g', SR T.K H' S' σ g' → Goes m H S g H' S' g' → R a S' H' g'
  | .exc x S' => ∀ cls d H' g', T.xr x cls d H' → SR T.K H' S' σ g' → Goes m H S g H' S' g' → W0 cls d σ H'
  | .stuck => False
section
variable {T : Tab} {W0 : WX} {m m' : Nat → Prop} {σ : St} {H : Hp} {S : SW} {g : Nat → List Addr}
theorem Post.bind {α β : Type} {r : Res α} {k : α → SW → Res β} {R : β → SW → Hp → (Nat → List Addr) → Prop} (h : Post T W0 m σ H S g (r.bind k) R) :
    Post T W0 m σ H S g r fun a S1 H1 g1 => Goes m H S g H1 S1 g1 ∧ SR T.K H1 S1 σ g1 ∧ Post T W0 m σ H1 S1 g1 (k a S1) R := by
  cases r with
  | stuck => exact h
  | exc x S1 => exact h
  | ok a S1 =>
    intro H1 g1 r1 go
    refine ⟨go, r1, ?_⟩
    have h' : Post T W0 m σ H S g (k a S1) R := h
    generalize k a S1 = q at h' ⊢
    cases q with
    | stuck => exact h'
    | exc x S2 => exact fun cls d H2 g2 x r2 go2 => h' cls d H2 g2 x r2 (go.trans go2)
    | ok b S2 => exact fun H2 g2 r2 go2 => h' H2 g2 r2 (go.trans go2)
/-- .. all told from the start -/
theorem Post.bindS {α β : Type} {r : Res α} {k : α → SW → Res β} {R : β → SW → Hp → (Nat → List Addr) → Prop} (h : Post T W0 m σ H S g (r.bind k) R) :
    Post T W0 m σ H S g r fun a S1 H1 g1 => Goes m H S g H1 S1 g1 ∧ SR T.K H1 S1 σ g1 ∧ Post T W0 m σ H S g (k a S1) R := by
  cases r with
  | stuck => exact h
  | exc x S1 => exact h
  | ok a S1 => exact fun H1 g1 r1 go => ⟨go, r1, h⟩
theorem Post.imp {α : Type} {r : Res α} {R R' : α → SW → Hp → (Nat → List Addr) → Prop} (h : Post T W0 m σ H S g r R) (i : ∀ a S' H' g', SR T.K H' S' σ g' → Goes m H S g H' S' g' → R a S' H' g' → R' a S' H' g') : Post T W0 m σ H S g r R' := by
  cases r with
  | stuck => exact h
  | exc x S1 => exact h
  | ok a S1 => exact fun H' g' r go => i a S1 H' g' r go (h H' g' r go)
theorem Post.mono {α : Type} {r : Res α} {R : α → SW → Hp → (Nat → List Addr) → Prop} (h : Post T W0 m' σ H S g r R) (i : ∀ j, m j → m' j) : Post T W0 m σ H S g r R := by
  cases r with
  | stuck => exact h
  | exc x S1 => exact fun cls d H' g' x r go => h cls d H' g' x r (go.mono i)
  | ok a S1 => exact fun H' g' r go => h H' g' r (go.mono i)
theorem Post.lift {α β : Type} {o : Option α} {k : α → SW → Res β} {S1 : SW} {R : β → SW → Hp → (Nat → List Addr) → Prop} (h : Post T W0 m σ H S g ((lift o S1).bind k) R) : ∃ a, o = some a ∧ Post T W0 m σ H S g (k a S1) R := by
  cases o with
  | none => exact h.elim
  | some a => exact ⟨a, rfl, h⟩
end

/-! ### the readings -/
def tV (T : Tab) (W0 : WX) (m : Nat → Prop) (d : SW → Res W) : TE := fun σ H Q => ∃ S g, SR T.K H S σ g ∧ Post T W0 m σ H S g (d S) fun w _ H' g' => ∀ v f, Vl T.K m H g w v f H' g' → Q v H'
/-- new or pure -/
def tY (T : Tab) (W0 : WX) (m : Nat → Prop) (d : SW → Res W) : TE := fun σ H Q => ∃ S g, SR T.K H S σ g ∧ Post T W0 m σ H S g (d S) fun w _ H' _ => Yld T.K H' w Q
/-- somebody's -/
def tBw (T : Tab) (W0 : WX) (m : Nat → Prop) (d : SW → Res W) : TE := fun σ H Q => ∃ S g, SR T.K H S σ g ∧ Post T W0 m σ H S g (d S) fun w _ H' _ => ∀ v f, Rep T.K H' w v f → Q v H'
def tT (T : Tab) (W0 : WX) (m : Nat → Prop) (d : SW → Res W) : TT := fun σ H Q => ∃ S g, SR T.K H S σ g ∧ Post T W0 m σ H S g (d S) fun w _ H' _ => ∃ b, w = .bl b ∧ Q b H'
def tLk (T : Tab) (us : List Nat) (d : SW → Option W) : TE := fun σ H Q => ∃ S g, SR T.K H S σ g ∧ ∃ w, d S = some w ∧ ∀ v H' f, Rep T.K H' w v f → (∀ a ∈ f, Ow (· ∈ us) g a) → All H H' → Q v H'
def t2 (T : Tab) (W0 : WX) (m : Nat → Prop) (d : SW → Res (W × W)) (σ : St) (H : Hp) (Q : V → V → Hp → Prop) : Prop := ∃ S g, SR T.K H S σ g ∧ Post T W0 m σ H S g (d S) fun p _ H' _ => ∀ v u f f', Rep T.K H' p.1 v f → Rep T.K H' p.2 u f' → Q v u H'
def tLs (T : Tab) (W0 : WX) (m : Nat → Prop) (d : SW → Res (List W)) : TA := fun σ H Q => ∃ S g, SR T.K H S σ g ∧ Post T W0 m σ H S g (d S) fun ws _ H' g' => ∀ vs f, VlL T.K m H g ws vs f H' g' → Q vs H'

theorem imE {X : Cx} {e : Expr} {t t' : TE} (h : PE X e t) (i : ∀ σ H Q, t' σ H Q → t σ H Q) : PE X e t' := ⟨fun pins s σ H Q I q => h.run pins s σ H Q I (i σ H Q q)⟩
theorem imT {X : Cx} {e : Expr} {t t' : TT} (h : PT X e t) (i : ∀ σ H Q, t' σ H Q → t σ H Q) : PT X e t' := ⟨fun pins s σ H Q I q => h.run pins s σ H Q I (i σ H Q q)⟩
theorem imA {X : Cx} {e : List Expr} {t t' : TA} (h : PA X e t) (i : ∀ σ H Q, t' σ H Q → t σ H Q) : PA X e t' := ⟨fun p pins s σ H Q I q => h.run p pins s σ H Q I (i σ H Q q)⟩
theorem imS {X : Cx} {e : Stmt} {t t' : TS} (h : PS X e t) (i : ∀ D σ H, t' D σ H → t D σ H) : PS X e t' := ⟨fun pins s σ H D I q => h.run pins s σ H D I (i D σ H q)⟩
theorem imSs {X : Cx} {e : List Stmt} {t t' : TS} (h : PSs X e t) (i : ∀ D σ H, t' D σ H → t D σ H) : PSs X e t' := ⟨fun pins s σ H D I q => h.run pins s σ H D I (i D σ H q)⟩

section
variable {T : Tab} {W0 : WX} {m m' : Nat → Prop} {d : SW → Res W} {σ : St} {H : Hp} {Q : VK}
theorem tV.mono {d : SW → Res W} (h : tV T W0 m' d σ H Q) (i : ∀ j, m j → m' j) : tV T W0 m d σ H Q := by
  obtain ⟨S, g, r, h⟩ := h
  exact ⟨S, g, r, (h.mono i).imp fun w S' H' g' _ _ q v f x => q v f (x.mono i)⟩
/-- a value out of a new or pure one -/
theorem tY_val (h : tV T W0 m (fun S => (d S).bind fun w S1 => ret false w S1) σ H Q) : tY T W0 m d σ H Q := by
  obtain ⟨S, g, r, h⟩ := h
  refine ⟨S, g, r, h.bind.imp fun w S' H' g' r' go q => ?_⟩
  obtain ⟨_, _, q⟩ := q
  intro v H2 f rp al nd fr
  exact q H2 g' (r'.all al) (Goes.refl.all al) v f (Vl.new r' go rp nd fr)
theorem tY_tst {Q : Bool → Hp → Prop} (h : tT T W0 m (fun S => (d S).bind fun w S1 => ret true w S1) σ H Q) : tY T W0 m d σ H fun v H' => ∃ k, TruV T.K v H' k ∧ Q k H' := by
  obtain ⟨S, g, r, h⟩ := h
  refine ⟨S, g, r, h.bind.imp fun w S' H' g' r' go q => ?_⟩
  obtain ⟨_, _, q⟩ := q
  intro v H2 f rp al nd fr
  have q : Post T W0 m σ H' S' g' (lift ((truW w).map W.bl) S') fun w _ H' _ => ∃ b, w = .bl b ∧ Q b H' := q
  cases hb : truW w with
  | none => rw [hb] at q; exact q.elim
  | some b =>
    rw [hb] at q
    obtain ⟨b', e, q⟩ := q H2 g' (r'.all al) (Goes.refl.all al)
    cases e
    exact ⟨b, truW_of rp hb, q⟩
theorem tV_tst {Q : Bool → Hp → Prop} (h : tT T W0 m (fun S => (d S).bind fun w S1 => ret true w S1) σ H Q) : tV T W0 m d σ H fun v H' => ∃ k, TruV T.K v H' k ∧ Q k H' := by
  obtain ⟨S, g, r, h⟩ := h
  refine ⟨S, g, r, h.bind.imp fun w S' H' g' r' go q => ?_⟩
  obtain ⟨_, _, q⟩ := q
  intro v f x
  have q : Post T W0 m σ H' S' g' (lift ((truW w).map W.bl) S') fun w _ H' _ => ∃ b, w = .bl b ∧ Q b H' := q
  cases hb : truW w with
  | none => rw [hb] at q; exact q.elim
  | some b =>
    rw [hb] at q
    obtain ⟨b', e, q⟩ := q H' g' r' Goes.refl
    cases e
    exact ⟨b, truW_of x.rep hb, q⟩
theorem tV_val (h : tV T W0 m (fun S => (d S).bind fun w S1 => ret false w S1) σ H Q) : tV T W0 m d σ H Q := by
  obtain ⟨S, g, r, h⟩ := h
  refine ⟨S, g, r, h.bind.imp fun w S' H' g' r' go q => ?_⟩
  obtain ⟨_, _, q⟩ := q
  intro v f x
  exact q H' g' r' Goes.refl v f x
theorem tBw_val (h : tV T W0 m (fun S => (d S).bind fun w S1 => retB false w S1) σ H Q) : tBw T W0 m d σ H Q := by
  obtain ⟨S, g, r, h⟩ := h
  refine ⟨S, g, r, h.bind.imp fun w S' H' g' r' go q => ?_⟩
  obtain ⟨_, _, q⟩ := q
  intro v f rp
  have q : Post T W0 m σ H' S' g' (if w.pure = true then .ok w S' else .stuck) _ := q
  by_cases p : w.pure = true
  · rw [if_pos p] at q
    exact q H' g' r' Goes.refl v [] (Vl.pure rp p)
  · rw [if_neg p] at q; exact q.elim
theorem tBw_tst {Q : Bool → Hp → Prop} (h : tT T W0 m (fun S => (d S).bind fun w S1 => retB true w S1) σ H Q) : tBw T W0 m d σ H fun v H' => ∃ k, TruV T.K v H' k ∧ Q k H' := by
  obtain ⟨S, g, r, h⟩ := h
  refine ⟨S, g, r, h.bind.imp fun w S' H' g' r' go q => ?_⟩
  obtain ⟨_, _, q⟩ := q
  intro v f rp
  have q : Post T W0 m σ H' S' g' (lift ((truW w).map W.bl) S') fun w _ H' _ => ∃ b, w = .bl b ∧ Q b H' := q
  cases hb : truW w with
  | none => rw [hb] at q; exact q.elim
  | some b =>
    rw [hb] at q
    obtain ⟨b', e, q⟩ := q H' g' r' Goes.refl
    cases e
    exact ⟨b, truW_of rp hb, q⟩
end

/-! ### the context -/
/-- what a def promises: F its meaning -/
def spD (T : Tab) (F : List W → CRes) (n : Nat) : Sp := fun vs H Q E => vs.length = n ∧ ∃ ws g, ws.length = n ∧ SR T.K H (ws.map some) (vs.map some) g ∧ match F ws with
  | .ok w ws' => ∀ v H' g' f, ws'.length = n → SR T.K H' (ws'.map some) (vs.map some) g' → Goes any H (ws.map some) g H' (ws'.map some) g' → Vl T.K any H g w v f H' g' → Q v H'
  | .exc x ws' => ∀ cls d H' g', ws'.length = n → T.xr x cls d H' → SR T.K H' (ws'.map some) (vs.map some) g' → Goes any H (ws.map some) g H' (ws'.map some) g' → E cls d H'
  | .stuck => False
/-- a def of the text is at hand -/
structure FnAt (T : Tab) (k : Nat) (x : Str) (F : List W → CRes) : Prop where
  ex : ∃ (f : Addr) (fd : FuncData) (ps : List Str), T.mg x = some (.ref f) ∧ PySem.W.keepIn T.K (.ref f) = true ∧ Binds T.K fd ps [] ∧ (∀ ws, F ws ≠ .stuck → ws.length = ps.length) ∧ FnOk T.P T.w T.K T.mg T.base (L2.CX T.P T.w) k f fd ps (spD T F ps.length)
structure CsAt (T : Tab) (x : Str) (w : W) : Prop where
  ex : (∃ u v, T.mg x = some u ∧ RelV v u ∧ ∀ H, Rep T.K H w v []) ∨ ∃ ks ws d es n, w = .fdict ks ws ∧ T.mg x = some (.ref d) ∧ KDict T.K T.w d es n ∧ ∀ z : Str, match dgt ks ws (.inr z) with
    | some y => ∃ u v, PySem.W.nsIn T.K d z = some (some u) ∧ RelV v u ∧ ∀ H, Rep T.K H y v []
    | none => PySem.W.nsIn T.K d z = some none
/-- the built-in names that the text may use stand for themselves -/
def bltNames : List Str := ["len", "sum", "any", "all", "abs", "int", "str", "tuple", "list", "max", "min", "sorted", "isinstance", "range", "bool", "dict", "enumerate", "zip", "reversed", "repr", "set"]
structure SD (T : Tab) (k : Nat) (c : Fn) (z : Chk) (X : Cx) : Prop where
  P : X.prog = T.P
  w : X.w = T.w
  K : X.K = T.K
  mg : X.mg = T.mg
  base : X.base = T.base
  N : X.N = z.N
  nd : z.N.Nodup
  sc : X.env.scope = z.sc
  calm : X.calm = true
  room : Room k X.A
  fn : ∀ x, z.ce.contains x = true → X.fn x = true
  fns : ∀ x, z.fns.contains x = true → FnAt T k x (c.call x)
  cs : ∀ x, z.cs.contains x = true → ∃ w, c.cst x = some w ∧ CsAt T x w
  blt : ∀ x, bltNames.contains x = true → T.mg x = none

/-- soundness, by kinds -/
def SE (T : Tab) (X : Cx) (m : List Nat) (x : Expr) (d : SW → Res W) : Prop := ∀ W0, Takes X W0 → PE X x (tV T W0 (· ∈ m) d)
def ST (T : Tab) (X : Cx) (m : List Nat) (x : Expr) (d : SW → Res W) : Prop := ∀ W0, Takes X W0 → PT X x (tT T W0 (· ∈ m) d)
def SY (T : Tab) (X : Cx) (m : List Nat) (x : Expr) (d : SW → Res W) : Prop := ∀ W0, Takes X W0 → PE X x (tY T W0 (· ∈ m) d)
def SB (T : Tab) (X : Cx) (m : List Nat) (x : Expr) (d : SW → Res W) : Prop := ∀ W0, Takes X W0 → PE X x (tBw T W0 (· ∈ m) d)
def SLk (T : Tab) (X : Cx) (us : List Nat) (x : Expr) (d : SW → Option W) : Prop := PE X x (tLk T us d)
def S2 (T : Tab) (X : Cx) (m : List Nat) (x y : Expr) (d : SW → Res (W × W)) : Prop := ∀ W0, Takes X W0 → ∃ ta tb, PE X x ta ∧ PE X y tb ∧ ∀ σ H Q, t2 T W0 (· ∈ m) d σ H Q → ta σ H fun v H1 => tb σ H1 fun u H2 => Q v u H2
def SLs (T : Tab) (X : Cx) (m : List Nat) (x : List Expr) (d : SW → Res (List W)) : Prop := ∀ W0, Takes X W0 → PA X x (tLs T W0 (· ∈ m) d)

section
variable {T : Tab} {X : Cx} {m m' : List Nat} {x y : Expr} {d : SW → Res W}
/-- the truth is asked of the value -/
def plainTest (x : Expr) : Prop := ∀ (env : Env) whole, isTrue x env whole = (do let v ← whole; standAt x.pos; PySem.holding [v] (truthy v))
theorem SY.se (hK : X.K = T.K) (h : SY T X m x d) : SE T X m x fun S => (d S).bind fun w S1 => ret false w S1 := fun W0 tk => imE (h W0 tk) fun σ H Q q => tY_val q
theorem SY.st (hK : X.K = T.K) (h : SY T X m x d) (pl : plainTest x) : ST T X m x fun S => (d S).bind fun w S1 => ret true w S1 := fun W0 tk =>
  imT (pt_truth (h W0 tk) (pl _)) fun σ H Q q => by
    have z := tY_tst q
    rw [← hK] at z
    exact z
theorem SE.st (hK : X.K = T.K) (h : SE T X m x d) (pl : plainTest x) : ST T X m x fun S => (d S).bind fun w S1 => ret true w S1 := fun W0 tk =>
  imT (pt_truth (h W0 tk) (pl _)) fun σ H Q q => by
    have z := tV_tst q
    rw [← hK] at z
    exact z
theorem SE.se (h : SE T X m x d) : SE T X m x fun S => (d S).bind fun w S1 => ret false w S1 := fun W0 tk => imE (h W0 tk) fun σ H Q q => tV_val q
theorem SB.se (h : SB T X m x d) : SE T X m x fun S => (d S).bind fun w S1 => retB false w S1 := fun W0 tk => imE (h W0 tk) fun σ H Q q => tBw_val q
theorem SB.st (hK : X.K = T.K) (h : SB T X m x d) (pl : plainTest x) : ST T X m x fun S => (d S).bind fun w S1 => retB true w S1 := fun W0 tk =>
  imT (pt_truth (h W0 tk) (pl _)) fun σ H Q q => by
    have z := tBw_tst q
    rw [← hK] at z
    exact z
/-- two operands -/
theorem two_ok {a b : E} {c : Fn} (ha : a.isLk = true → SLk T X a.us x (lk c a)) (hb : b.isLk = true → SLk T X b.us y (lk c b)) (ea : SE T X (a.md false) x (ev c false a)) (eb : SE T X (b.md false) y (ev c false b))
    (hv : ∀ i, a.isVar = some i → PE X x (tVar i)) : S2 T X (md2 a.isLk b.isLk a.isVar (a.md false) (b.md false)) x y (two a.isLk b.isLk a.isVar (lk c a) (lk c b) (ev c false a) (ev c false b)) := by
  intro W0 tk
  by_cases lb : b.isLk = true
  · by_cases la : a.isLk = true
    · refine ⟨_, _, ha la, hb lb, fun σ H Q h => ?_⟩
      obtain ⟨S, g, r, h⟩ := h
      unfold two at h
      rw [if_pos lb, if_pos la] at h
      obtain ⟨u, e1, h⟩ := h.lift
      refine ⟨S, g, r, u, e1, fun v H1 f r1 _ al1 => ?_⟩
      cases e2 : lk c b S with
      | none => rw [e2] at h; exact h.elim
      | some w =>
        rw [e2] at h
        refine ⟨S, g, r.all al1, w, e2, fun v2 H2 f2 r2 _ al2 => ?_⟩
        exact h H2 g ((r.all al1).all al2) ((Goes.refl.all al1).all al2) v v2 f f2 (r1.all al2) r2
    · refine ⟨_, _, ea W0 tk, hb lb, fun σ H Q h => ?_⟩
      obtain ⟨S, g, r, h⟩ := h
      have em : md2 a.isLk b.isLk a.isVar (a.md false) (b.md false) = a.md false := by unfold md2; rw [if_pos lb, if_neg la]
      unfold two at h
      rw [if_pos lb, if_neg la, em] at h
      refine ⟨S, g, r, h.bind.imp fun u S1 H1 g1 r1 go q => ?_⟩
      obtain ⟨_, _, q⟩ := q
      intro v f x1
      cases e2 : lk c b S1 with
      | none => rw [e2] at q; exact q.elim
      | some w =>
        rw [e2] at q
        refine ⟨S1, g1, r1, w, e2, fun v2 H2 f2 r2 _ al2 => ?_⟩
        exact q H2 g1 (r1.all al2) (Goes.refl.all al2) v v2 f f2 (x1.rep.all al2) r2
  · cases va : a.isVar with
    | some i =>
      refine ⟨_, _, hv i va, eb W0 tk, fun σ H Q h => ?_⟩
      obtain ⟨S, g, r, h⟩ := h
      have em : md2 a.isLk b.isLk (some i) (a.md false) (b.md false) = b.md false := by unfold md2; rw [if_neg lb]
      unfold two at h
      rw [if_neg lb, em] at h
      by_cases hs : (gt S i).isSome = true
      · dsimp only at h
        rw [if_pos hs] at h
        obtain ⟨w0, e0⟩ := Option.isSome_iff_exists.mp hs
        obtain ⟨v, ev0, _⟩ := r.rep i w0 e0
        refine ⟨v, ev0, S, g, r, h.bind.imp fun u S1 H1 g1 r1 go q => ?_⟩
        obtain ⟨_, _, q⟩ := q
        intro v2 f2 x2
        cases e1 : gt S1 i with
        | none => rw [e1] at q; exact q.elim
        | some w1 =>
          rw [e1] at q
          obtain ⟨v', ev1, rp⟩ := r1.rep i w1 e1
          rw [ev0] at ev1; cases ev1
          exact q H1 g1 r1 Goes.refl v v2 _ f2 rp x2.rep
      · dsimp only at h
        rw [if_neg hs] at h
        exact h.elim
    | none =>
      refine ⟨_, _, ea W0 tk, eb W0 tk, fun σ H Q h => ?_⟩
      obtain ⟨S, g, r, h⟩ := h
      have em : md2 a.isLk b.isLk none (a.md false) (b.md false) = a.md false ++ b.md false := by unfold md2; rw [if_neg lb]
      unfold two at h
      rw [if_neg lb, em] at h
      have i1 : ∀ j, j ∈ a.md false → j ∈ a.md false ++ b.md false := fun j z => List.mem_append_left _ z
      have i2 : ∀ j, j ∈ b.md false → j ∈ a.md false ++ b.md false := fun j z => List.mem_append_right _ z
      refine ⟨S, g, r, (h.bind.mono i1).imp fun u S1 H1 g1 r1 go q => ?_⟩
      obtain ⟨_, _, q⟩ := q
      intro v f x1
      refine ⟨S1, g1, r1, (q.bind.mono i2).imp fun w S2 H2 g2 r2 go2 q2 => ?_⟩
      obtain ⟨_, _, q2⟩ := q2
      intro v2 f2 x2
      exact q2 H2 g2 r2 Goes.refl v v2 f f2 (x1.step r1 go2).rep x2.rep
end
end Own

/-! Own, part E: expressions keep their promise -/
namespace Own
open PySem L2

/-! ### what stands behind a look at the text -/
section
variable {z : Chk} {x : Expr}
theorem inv_var {i : Nat} (h : chkE z (.var i) x = true) : ∃ y p, x = .Name y p ∧ z.vis i y = true := by
  cases x <;> simp only [chkE, Bool.false_eq_true] at h
  exact ⟨_, _, rfl, h⟩
theorem inv_int {n : Int} (h : chkE z (.int n) x = true) : ∃ k p, x = .Constant (.int n) k p := by
  cases x <;> try simp only [chkE, Bool.false_eq_true] at h
  rename_i c k p
  cases c <;> simp only [chkE, Bool.false_eq_true, decide_eq_true_eq] at h
  subst h
  exact ⟨_, _, rfl⟩
theorem inv_str {n : Str} (h : chkE z (.str n) x = true) : ∃ k p, x = .Constant (.str n) k p := by
  cases x <;> try simp only [chkE, Bool.false_eq_true] at h
  rename_i c k p
  cases c <;> simp only [chkE, Bool.false_eq_true, decide_eq_true_eq] at h
  subst h
  exact ⟨_, _, rfl⟩
theorem inv_bl {n : Bool} (h : chkE z (.bl n) x = true) : ∃ k p, x = .Constant (.bool n) k p := by
  cases x <;> try simp only [chkE, Bool.false_eq_true] at h
  rename_i c k p
  cases c <;> simp only [chkE, Bool.false_eq_true, decide_eq_true_eq] at h
  subst h
  exact ⟨_, _, rfl⟩
theorem inv_non (h : chkE z .non x = true) : ∃ k p, x = .Constant .none k p := by
  cases x <;> try simp only [chkE, Bool.false_eq_true] at h
  rename_i c k p
  cases c <;> simp only [chkE, Bool.false_eq_true, decide_eq_true_eq] at h
  exact ⟨_, _, rfl⟩
theorem inv_glob {y : Str} (h : chkE z (.glob y) x = true) : ∃ p, x = .Name y p ∧ z.gl y = true ∧ z.cs.contains y = true ∧ (y == ("__debug__" : Str)) = false := by
  cases x <;> simp only [chkE, Bool.false_eq_true, Bool.and_eq_true, decide_eq_true_eq, Bool.not_eq_true'] at h
  obtain ⟨rfl, h1, h2, h3⟩ := h
  exact ⟨_, rfl, h1, h2, h3⟩
theorem inv_bin {o : BOp} {a b : E} (h : chkE z (.bin o a b) x = true) : ∃ x1 y1 p, x = .BinOp x1 (opAst o) y1 p ∧ chkE z a x1 = true ∧ chkE z b y1 = true := by
  cases x <;> simp only [chkE, Bool.false_eq_true, Bool.and_eq_true, decide_eq_true_eq] at h
  obtain ⟨rfl, h1, h2⟩ := h
  exact ⟨_, _, _, rfl, h1, h2⟩
theorem inv_neg {a : E} (h : chkE z (.neg a) x = true) : ∃ x1 p, x = .UnaryOp .USub x1 p ∧ chkE z a x1 = true := by
  cases x <;> try simp only [chkE, Bool.false_eq_true] at h
  rename_i o x1 p
  cases o <;> simp only [chkE, Bool.false_eq_true] at h
  exact ⟨_, _, rfl, h⟩
theorem inv_not {a : E} (h : chkE z (.not a) x = true) : ∃ x1 p, x = .UnaryOp .Not x1 p ∧ chkE z a x1 = true := by
  cases x <;> try simp only [chkE, Bool.false_eq_true] at h
  rename_i o x1 p
  cases o <;> simp only [chkE, Bool.false_eq_true] at h
  exact ⟨_, _, rfl, h⟩
theorem inv_cmp {o : COp} {a b : E} (h : chkE z (.cmp o a b) x = true) : ∃ x1 y1 p, x = .Compare x1 [copAst o] [y1] p ∧ chkE z a x1 = true ∧ chkE z b y1 = true ∧ behindInMarks (copAst o) y1 = false := by
  cases x <;> try simp only [chkE, Bool.false_eq_true] at h
  rename_i x1 ops ys p
  rcases ops with _ | ⟨o1, _ | ⟨_, _⟩⟩ <;> try simp only [chkE, Bool.false_eq_true] at h
  rcases ys with _ | ⟨y1, _ | ⟨_, _⟩⟩ <;> simp only [chkE, Bool.false_eq_true, Bool.and_eq_true, decide_eq_true_eq, Bool.not_eq_true'] at h
  obtain ⟨rfl, h1, h2, h3⟩ := h
  exact ⟨_, _, _, rfl, h1, h2, h3⟩
theorem inv_and {es : Es} (h : chkE z (.and es) x = true) : ∃ xs p, x = .BoolOp .And xs p ∧ chkEs z es xs = true := by
  cases x <;> try simp only [chkE, Bool.false_eq_true] at h
  rename_i o xs p
  cases o <;> simp only [chkE, Bool.false_eq_true] at h
  exact ⟨_, _, rfl, h⟩
theorem inv_or {es : Es} (h : chkE z (.or es) x = true) : ∃ xs p, x = .BoolOp .Or xs p ∧ chkEs z es xs = true := by
  cases x <;> try simp only [chkE, Bool.false_eq_true] at h
  rename_i o xs p
  cases o <;> simp only [chkE, Bool.false_eq_true] at h
  exact ⟨_, _, rfl, h⟩
theorem inv_ite {d a b : E} (h : chkE z (.ite d a b) x = true) : ∃ x1 y1 w1 p, x = .IfExp x1 y1 w1 p ∧ chkE z d x1 = true ∧ chkE z a y1 = true ∧ chkE z b w1 = true := by
  cases x <;> simp only [chkE, Bool.false_eq_true, Bool.and_eq_true] at h
  exact ⟨_, _, _, _, rfl, h.1, h.2.1, h.2.2⟩
theorem inv_tup {es : Es} (h : chkE z (.tup es) x = true) : ∃ xs k p, x = .Tuple xs k p ∧ chkEs z es xs = true := by
  cases x <;> simp only [chkE, Bool.false_eq_true] at h
  exact ⟨_, _, _, rfl, h⟩
theorem inv_lst {es : Es} (h : chkE z (.lst es) x = true) : ∃ xs p, x = .List xs p ∧ chkEs z es xs = true := by
  cases x <;> simp only [chkE, Bool.false_eq_true] at h
  exact ⟨_, _, rfl, h⟩
theorem inv_idx {a k : E} (h : chkE z (.idx a k) x = true) : ∃ x1 y1 p, x = .Subscript x1 y1 p ∧ chkE z a x1 = true ∧ chkE z k y1 = true := by
  cases x <;> simp only [chkE, Bool.false_eq_true, Bool.and_eq_true] at h
  exact ⟨_, _, _, rfl, h.1, h.2⟩
theorem inv_sl {a lo hi : E} (h : chkE z (.sl a lo hi) x = true) : ∃ x1 l1 h1 p q, x = .Subscript x1 (.Slice l1 h1 none p) q ∧ chkE z a x1 = true ∧ chkP z lo l1 = true ∧ chkP z hi h1 = true := by
  cases x <;> try simp only [chkE, Bool.false_eq_true] at h
  rename_i x1 s p
  cases s <;> try simp only [chkE, Bool.false_eq_true] at h
  rename_i l1 h1 s1 q
  cases s1 <;> simp only [chkE, Bool.false_eq_true, Bool.and_eq_true] at h
  exact ⟨_, _, _, _, _, rfl, h.1, h.2.1, h.2.2⟩
theorem inv_call {f : Str} {es : Es} (h : chkE z (.call f es) x = true) : ∃ q x1 xs p, x = .Call (.Name f q) (x1 :: xs) [] p ∧ z.gl f = true ∧ z.fns.contains f = true ∧ chkEs z es (x1 :: xs) = true ∧ (f == ("__debug__" : Str)) = false := by
  cases x <;> try simp only [chkE, Bool.false_eq_true] at h
  rename_i g xs ks p
  cases g <;> try simp only [chkE, Bool.false_eq_true] at h
  cases xs <;> try simp only [chkE, Bool.false_eq_true] at h
  cases ks <;> simp only [chkE, Bool.false_eq_true, Bool.and_eq_true, decide_eq_true_eq, Bool.not_eq_true'] at h
  obtain ⟨rfl, h1, h2, h3, h4⟩ := h
  exact ⟨_, _, _, _, rfl, h1, h2, h3, h4⟩
theorem inv_b1 {f : B1} {a : E} (h : chkE z (.b1 f a) x = true) : ∃ q x1 p, x = .Call (.Name f.nm q) [x1] [] p ∧ z.gl f.nm = true ∧ chkE z a x1 = true := by
  cases x <;> try simp only [chkE, Bool.false_eq_true] at h
  rename_i g xs ks p
  cases g <;> try simp only [chkE, Bool.false_eq_true] at h
  rcases xs with _ | ⟨x1, _ | ⟨_, _⟩⟩ <;> try simp only [chkE, Bool.false_eq_true] at h
  cases ks <;> simp only [chkE, Bool.false_eq_true, Bool.and_eq_true, decide_eq_true_eq] at h
  obtain ⟨rfl, h1, h2⟩ := h
  exact ⟨_, _, _, rfl, h1, h2⟩
theorem inv_b2 {f : B1} {a b : E} (h : chkE z (.b2 f a b) x = true) : ∃ q x1 y1 p, x = .Call (.Name f.nm q) [x1, y1] [] p ∧ z.gl f.nm = true ∧ chkE z a x1 = true ∧ chkE z b y1 = true := by
  cases x <;> try simp only [chkE, Bool.false_eq_true] at h
  rename_i g xs ks p
  cases g <;> try simp only [chkE, Bool.false_eq_true] at h
  rcases xs with _ | ⟨x1, _ | ⟨y1, _ | ⟨_, _⟩⟩⟩ <;> try simp only [chkE, Bool.false_eq_true] at h
  cases ks <;> simp only [chkE, Bool.false_eq_true, Bool.and_eq_true, decide_eq_true_eq] at h
  obtain ⟨rfl, h1, h2, h3⟩ := h
  exact ⟨_, _, _, _, rfl, h1, h2, h3⟩
theorem inv_isi {a : E} {t : Ty} (h : chkE z (.isi a t) x = true) : ∃ q x1 q2 p, x = .Call (.Name "isinstance" q) [x1, .Name t.nm q2] [] p ∧ z.gl "isinstance" = true ∧ chkE z a x1 = true ∧ z.gl t.nm = true := by
  cases x <;> try simp only [chkE, Bool.false_eq_true] at h
  rename_i g xs ks p
  cases g <;> try simp only [chkE, Bool.false_eq_true] at h
  rcases xs with _ | ⟨x1, _ | ⟨y1, _ | ⟨_, _⟩⟩⟩ <;> try simp only [chkE, Bool.false_eq_true] at h
  cases y1 <;> try simp only [chkE, Bool.false_eq_true] at h
  cases ks <;> simp only [chkE, Bool.false_eq_true, Bool.and_eq_true, decide_eq_true_eq] at h
  obtain ⟨rfl, h1, h2, rfl, h3⟩ := h
  exact ⟨_, _, _, _, rfl, h1, h2, h3⟩
theorem inv_pop {i : Nat} (h : chkE z (.pop i) x = true) : ∃ y q p r, x = .Call (.Attribute (.Name y q) "pop" p) [] [] r ∧ z.vis i y = true ∧ (p.endLine == r.line) = true := by
  cases x <;> try simp only [chkE, Bool.false_eq_true] at h
  rename_i g xs ks p
  cases g <;> try simp only [chkE, Bool.false_eq_true] at h
  rename_i o nm q
  cases o <;> try simp only [chkE, Bool.false_eq_true] at h
  cases xs <;> try simp only [chkE, Bool.false_eq_true] at h
  cases ks <;> simp only [chkE, Bool.false_eq_true, Bool.and_eq_true, decide_eq_true_eq] at h
  obtain ⟨h1, rfl, h2⟩ := h
  exact ⟨_, _, _, _, rfl, h1, h2⟩
theorem inv_rev {i : Nat} (h : chkE z (.rev i) x = true) : ∃ y q p r, x = .Call (.Attribute (.Name y q) "reverse" p) [] [] r ∧ z.vis i y = true ∧ (p.endLine == r.line) = true := by
  cases x <;> try simp only [chkE, Bool.false_eq_true] at h
  rename_i g xs ks p
  cases g <;> try simp only [chkE, Bool.false_eq_true] at h
  rename_i o nm q
  cases o <;> try simp only [chkE, Bool.false_eq_true] at h
  cases xs <;> try simp only [chkE, Bool.false_eq_true] at h
  cases ks <;> simp only [chkE, Bool.false_eq_true, Bool.and_eq_true, decide_eq_true_eq] at h
  obtain ⟨h1, rfl, h2⟩ := h
  exact ⟨_, _, _, _, rfl, h1, h2⟩
theorem inv_app {i : Nat} {e : E} (h : chkE z (.app i e) x = true) : ∃ y q p w r, x = .Call (.Attribute (.Name y q) "append" p) [w] [] r ∧ z.vis i y = true ∧ (p.endLine == r.line) = true ∧ chkE z e w = true := by
  cases x <;> try simp only [chkE, Bool.false_eq_true] at h
  rename_i g xs ks p
  cases g <;> try simp only [chkE, Bool.false_eq_true] at h
  rename_i o nm q
  cases o <;> try simp only [chkE, Bool.false_eq_true] at h
  rcases xs with _ | ⟨x1, _ | ⟨_, _⟩⟩ <;> try simp only [chkE, Bool.false_eq_true] at h
  cases ks <;> simp only [chkE, Bool.false_eq_true, Bool.and_eq_true, decide_eq_true_eq] at h
  obtain ⟨h1, rfl, h2, h3⟩ := h
  exact ⟨_, _, _, _, _, rfl, h1, h2, h3⟩
theorem inv_ext {i : Nat} {e : E} (h : chkE z (.ext i e) x = true) : ∃ y q p w r, x = .Call (.Attribute (.Name y q) "extend" p) [w] [] r ∧ z.vis i y = true ∧ (p.endLine == r.line) = true ∧ chkE z e w = true := by
  cases x <;> try simp only [chkE, Bool.false_eq_true] at h
  rename_i g xs ks p
  cases g <;> try simp only [chkE, Bool.false_eq_true] at h
  rename_i o nm q
  cases o <;> try simp only [chkE, Bool.false_eq_true] at h
  rcases xs with _ | ⟨x1, _ | ⟨_, _⟩⟩ <;> try simp only [chkE, Bool.false_eq_true] at h
  cases ks <;> simp only [chkE, Bool.false_eq_true, Bool.and_eq_true, decide_eq_true_eq] at h
  obtain ⟨h1, rfl, h2, h3⟩ := h
  exact ⟨_, _, _, _, _, rfl, h1, h2, h3⟩
theorem inv_lc {own : List Nat} {tg : Tg} {it : It} {cs : Es} {e : E} (h : chkE z (.lc own tg it cs e) x = true) : ∃ elt t i ifs scope p o, x = .ListComp elt [⟨t, i, ifs, 0⟩] scope p ∧ ownN z own = some o ∧ blkC z.N z.sc scope o = true ∧ tg.slots.all own.contains = true ∧
    chkTg (z.blk scope) tg t = true ∧ chkIt z it i = true ∧ chkEs (z.blk scope) cs ifs = true ∧ chkE (z.blk scope) e elt = true := by
  cases x <;> try simp only [chkE, Bool.false_eq_true] at h
  rename_i elt gs scope p
  rcases gs with _ | ⟨⟨t, i, ifs, a⟩, _ | ⟨_, _⟩⟩ <;> try simp only [chkE, Bool.false_eq_true] at h
  split at h
  · rename_i o ho
    simp only [Bool.and_eq_true, decide_eq_true_eq] at h
    obtain ⟨h1, rfl, h0, h2, h3, h4, h5⟩ := h
    exact ⟨_, _, _, _, _, _, _, rfl, ho, h1, h0, h2, h3, h4, h5⟩
  · cases h
theorem inv_lrev {e : E} (h : chkE z (.lrev e) x = true) : ∃ q r w p p2, x = .Call (.Name "list" q) [.Call (.Name "reversed" r) [w] [] p2] [] p ∧ z.gl "list" = true ∧ z.gl "reversed" = true ∧ chkE z e w = true := by
  unfold chkE at h
  split at h
  all_goals rename_i heq
  all_goals first
    | (cases heq; done)
    | (cases heq
       simp only [Bool.and_eq_true, decide_eq_true_eq] at h
       obtain ⟨rfl, h1, rfl, h2, h3⟩ := h
       exact ⟨_, _, _, _, _, rfl, h1, h2, h3⟩)
    | (exfalso; simp at h; done)
theorem inv_dc {own : List Nat} {tg : Tg} {it : It} {cs : Es} {k v : E} (h : chkE z (.dc own tg it cs k v) x = true) : ∃ kx vx t i ifs scope p o, x = .DictComp kx vx [⟨t, i, ifs, 0⟩] scope p ∧ ownN z own = some o ∧ blkC z.N z.sc scope o = true ∧ tg.slots.all own.contains = true ∧
    chkTg (z.blk scope) tg t = true ∧ chkIt z it i = true ∧ chkEs (z.blk scope) cs ifs = true ∧ chkE (z.blk scope) k kx = true ∧ chkE (z.blk scope) v vx = true := by
  cases x <;> try simp only [chkE, Bool.false_eq_true] at h
  rename_i kx vx gs scope p
  rcases gs with _ | ⟨⟨t, i, ifs, a⟩, _ | ⟨_, _⟩⟩ <;> try simp only [chkE, Bool.false_eq_true] at h
  split at h
  · rename_i o ho
    simp only [Bool.and_eq_true, decide_eq_true_eq] at h
    obtain ⟨h1, rfl, h0, h2, h3, h4, h5, h6⟩ := h
    exact ⟨_, _, _, _, _, _, _, _, rfl, ho, h1, h0, h2, h3, h4, h5, h6⟩
  · cases h
theorem inv_gidx {y : Str} {k : E} (h : chkE z (.gidx y k) x = true) : ∃ q w p, x = .Subscript (.Name y q) w p ∧ z.gl y = true ∧ z.cs.contains y = true ∧ (y == ("__debug__" : Str)) = false ∧ k.isLk = true ∧ chkE z k w = true := by
  cases x <;> try simp only [chkE, Bool.false_eq_true] at h
  rename_i o w p
  cases o <;> simp only [chkE, Bool.false_eq_true, Bool.and_eq_true, decide_eq_true_eq, Bool.not_eq_true'] at h
  obtain ⟨rfl, h1, h2, h3, h4, h5⟩ := h
  exact ⟨_, _, _, rfl, h1, h2, h3, h4, h5⟩
theorem inv_gin {n : Bool} {y : Str} {k : E} (h : chkE z (.gin n y k) x = true) : ∃ q w p, x = .Compare w [if n then .NotIn else .In] [.Name y q] p ∧ z.gl y = true ∧ z.cs.contains y = true ∧ (y == ("__debug__" : Str)) = false ∧ k.isLk = true ∧ chkE z k w = true := by
  cases x <;> try simp only [chkE, Bool.false_eq_true] at h
  rename_i x1 ops ys p
  rcases ops with _ | ⟨o1, _ | ⟨_, _⟩⟩ <;> try simp only [chkE, Bool.false_eq_true] at h
  rcases ys with _ | ⟨y1, _ | ⟨_, _⟩⟩ <;> try simp only [chkE, Bool.false_eq_true] at h
  cases y1 <;> simp only [chkE, Bool.false_eq_true, Bool.and_eq_true, decide_eq_true_eq, Bool.not_eq_true'] at h
  obtain ⟨rfl, rfl, h1, h2, h3, h4, h5⟩ := h
  exact ⟨_, _, _, rfl, h1, h2, h3, h4, h5⟩
theorem inv_dn (h : chkE z .dn x = true) : ∃ p, x = .Dict [] [] p := by
  cases x <;> try simp only [chkE, Bool.false_eq_true] at h
  rename_i a b p
  cases a <;> cases b <;> first | exact ⟨_, rfl⟩ | simp only [chkE, Bool.false_eq_true] at h
theorem inv_dl {ks : List Key} {vs : Es} (h : chkE z (.dl ks vs) x = true) : ∃ xs ys p, x = .Dict xs ys p ∧ chkKs ks xs = true ∧ (xs.length = ys.length ∧ xs.length ≤ 15 ∧ 0 < xs.length) ∧ vs.isLk = true ∧ chkEs z vs ys = true := by
  cases x <;> simp only [chkE, Bool.false_eq_true, Bool.and_eq_true, decide_eq_true_eq] at h
  exact ⟨_, _, _, rfl, h.1, h.2.1, h.2.2.1, h.2.2.2⟩
theorem inv_get {i : Nat} {k e : E} (h : chkE z (.get i k e) x = true) : ∃ y q p a b r, x = .Call (.Attribute (.Name y q) "get" p) [a, b] [] r ∧ z.vis i y = true ∧ (p.endLine == r.line) = true ∧ k.isLk = true ∧ e.isLk = true ∧ chkE z k a = true ∧ chkE z e b = true := by
  cases x <;> try simp only [chkE, Bool.false_eq_true] at h
  rename_i g xs ks p
  cases g <;> try simp only [chkE, Bool.false_eq_true] at h
  rename_i o nm q
  cases o <;> try simp only [chkE, Bool.false_eq_true] at h
  rcases xs with _ | ⟨x1, _ | ⟨y1, _ | ⟨_, _⟩⟩⟩ <;> try simp only [chkE, Bool.false_eq_true] at h
  cases ks <;> simp only [chkE, Bool.false_eq_true, Bool.and_eq_true, decide_eq_true_eq] at h
  obtain ⟨h1, rfl, h2, h3, h4, h5, h6⟩ := h
  exact ⟨_, _, _, _, _, _, rfl, h1, h2, h3, h4, h5, h6⟩
theorem inv_join {s : Str} {e : E} (h : chkE z (.join s e) x = true) : ∃ k q p a r, x = .Call (.Attribute (.Constant (.str s) k q) "join" p) [a] [] r ∧ (p.endLine == r.line) = true ∧ chkE z e a = true := by
  cases x <;> try simp only [chkE, Bool.false_eq_true] at h
  rename_i g xs ks p
  cases g <;> try simp only [chkE, Bool.false_eq_true] at h
  rename_i o nm q
  cases o <;> try simp only [chkE, Bool.false_eq_true] at h
  rename_i cc _ _
  cases cc <;> try simp only [chkE, Bool.false_eq_true] at h
  rcases xs with _ | ⟨x1, _ | ⟨_, _⟩⟩ <;> try simp only [chkE, Bool.false_eq_true] at h
  cases ks <;> simp only [chkE, Bool.false_eq_true, Bool.and_eq_true, decide_eq_true_eq] at h
  obtain ⟨rfl, rfl, h2, h3⟩ := h
  exact ⟨_, _, _, _, _, rfl, h2, h3⟩
theorem inv_nil {xs : List Expr} (h : chkEs z .nil xs = true) : xs = [] := by
  cases xs <;> first | rfl | simp only [chkEs, Bool.false_eq_true] at h
theorem inv_cons {e : E} {es : Es} {xs : List Expr} (h : chkEs z (.cons e es) xs = true) : ∃ x1 r, xs = x1 :: r ∧ chkE z e x1 = true ∧ chkEs z es r = true ∧ isStar x1 = false := by
  cases xs <;> simp only [chkEs, Bool.false_eq_true, Bool.and_eq_true, Bool.not_eq_true'] at h
  exact ⟨_, _, rfl, h.1, h.2.1, h.2.2⟩
end
theorem star_of {x : Expr} {xs : List Expr} {env : Env} (h : isStar x = false) : starEach (x :: xs) env = (false, eval x env) :: starEach xs env := by
  cases x <;> first | rfl | cases h
end Own

/-! Own, part F: each form of expression keeps its promise -/
namespace Own
open PySem L2

theorem Res.bind_assoc {α β γ : Type} (r : Res α) (f : α → SW → Res β) (h : β → SW → Res γ) : (r.bind f).bind h = r.bind fun a S => (f a S).bind h := by cases r <;> rfl
theorem Post.lift0 {α : Type} {T : Tab} {W0 : WX} {m : Nat → Prop} {σ : St} {H : Hp} {S : SW} {g : Nat → List Addr} {o : Option α} {R : α → SW → Hp → (Nat → List Addr) → Prop} (h : Post T W0 m σ H S g (Own.lift o S) R) (r : SR T.K H S σ g) : ∃ a, o = some a ∧ R a S H g := by
  cases o with
  | none => exact h.elim
  | some a => exact ⟨a, rfl, h H g r Goes.refl⟩
theorem Post.ok0 {α : Type} {T : Tab} {W0 : WX} {m : Nat → Prop} {σ : St} {H : Hp} {S : SW} {g : Nat → List Addr} {a : α} {R : α → SW → Hp → (Nat → List Addr) → Prop} (h : Post T W0 m σ H S g (.ok a S) R) (r : SR T.K H S σ g) : R a S H g := h H g r Goes.refl

section
variable {T : Tab} {k : Nat} {c : Fn} {z : Chk} {X : Cx}
theorem SD.units (D : SD T k c z X) : X.A.units + 200 < cLine := by have := D.room.un; omega
theorem Chk.vis_of {i : Nat} {y : Str} (D : SD T k c z X) (h : z.vis i y = true) : X.N[i]? = some y ∧ Vis X.env.scope y ∧ (y == ("__debug__" : Str)) = false ∧ (y == ("__classdict__" : Str)) = false := by
  unfold Chk.vis at h
  simp only [Bool.and_eq_true, decide_eq_true_eq, Bool.not_eq_true'] at h
  obtain ⟨h1, h2, h3, h4⟩ := h
  refine ⟨by rw [D.N]; exact h1, ?_, h3, h4⟩
  rw [D.sc]
  split at h2
  · rename_i q; exact .inl q
  · rename_i q; exact .inr (.inl q)
  · rename_i q; exact .inr (.inr q)
  · cases h2
theorem Chk.gl_of {y : Str} (D : SD T k c z X) (h : z.gl y = true) : Gl X y := by
  unfold Chk.gl at h
  unfold Gl Env.kindOf
  rw [D.sc]
  split at h
  · assumption
  · cases h
theorem pe_slot {i : Nat} {y : Str} {p : Pos} (D : SD T k c z X) (h : z.vis i y = true) : PE X (.Name y p) (tVar i) := by
  obtain ⟨h1, h2, h3, h4⟩ := Chk.vis_of D h
  exact pe_var h1 h2 h3 h4

def OkE (T : Tab) (k : Nat) (c : Fn) (e : E) : Prop := ∀ (z : Chk) (X : Cx), SD T k c z X → ∀ x, chkE z e x = true →
  (e.isLk = true → SLk T X e.us x (lk c e)) ∧ SE T X (e.md false) x (ev c false e) ∧ ST T X (e.md true) x (ev c true e) ∧ (∀ i, e.isVar = some i → PE X x (tVar i))
theorem okY {e : E} {x : Expr} {m : List Nat} {d : SW → Res W} (D : SD T k c z X) (pl : plainTest x) (h : SY T X m x d) (hm : e.md false = m) (hm' : e.md true = m) (h0 : ∀ S, ev c false e S = (d S).bind fun w S1 => ret false w S1) (h1 : ∀ S, ev c true e S = (d S).bind fun w S1 => ret true w S1) :
    SE T X (e.md false) x (ev c false e) ∧ ST T X (e.md true) x (ev c true e) := by
  rw [hm, hm', funext h0, funext h1]
  exact ⟨h.se D.K, h.st D.K pl⟩
theorem okV {e : E} {x : Expr} {m : List Nat} {d : SW → Res W} (D : SD T k c z X) (pl : plainTest x) (h : SE T X m x d) (hm : e.md false = m) (hm' : e.md true = m) (h0 : ∀ S, ev c false e S = (d S).bind fun w S1 => ret false w S1) (h1 : ∀ S, ev c true e S = (d S).bind fun w S1 => ret true w S1) :
    SE T X (e.md false) x (ev c false e) ∧ ST T X (e.md true) x (ev c true e) := by
  rw [hm, hm', funext h0, funext h1]
  exact ⟨h.se, h.st D.K pl⟩
theorem okB {e : E} {x : Expr} {m : List Nat} {d : SW → Res W} (D : SD T k c z X) (pl : plainTest x) (h : SB T X m x d) (hm : e.md false = m) (hm' : e.md true = m) (h0 : ∀ S, ev c false e S = (d S).bind fun w S1 => retB false w S1) (h1 : ∀ S, ev c true e S = (d S).bind fun w S1 => retB true w S1) :
    SE T X (e.md false) x (ev c false e) ∧ ST T X (e.md true) x (ev c true e) := by
  rw [hm, hm', funext h0, funext h1]
  exact ⟨h.se, h.st D.K pl⟩

/-! ### names and constants -/
theorem ok_var {i : Nat} : OkE T k c (.var i) := by
  intro z X D x hx
  obtain ⟨y, p, rfl, hv⟩ := inv_var hx
  have hp := pe_slot (p := p) D hv
  refine ⟨fun _ => imE hp fun σ H Q h => ?_, fun W0 tk => imE hp fun σ H Q h => ?_, fun W0 tk => imT (pt_truth hp (fun _ => rfl)) fun σ H Q h => ?_, fun j hj => by cases hj; exact hp⟩
  · obtain ⟨S, g, r, w, e, h⟩ := h
    obtain ⟨v, e2, rp⟩ := r.rep i w e
    exact ⟨v, e2, h v H _ rp (fun a ha => ⟨i, by simp [E.us], ha⟩) Keep.refl⟩
  · obtain ⟨S, g, r, h⟩ := h
    have hm : E.md false (.var i) = [i] := rfl
    cases e : gt S i with
    | none => simp only [ev, e] at h; exact h.elim
    | some w =>
      obtain ⟨v, e2, rp⟩ := r.rep i w e
      refine ⟨v, e2, ?_⟩
      by_cases pu : w.pure = true
      · simp only [ev, e, pu, if_true, Bool.false_eq_true, if_false] at h
        exact h.ok0 r v [] (Vl.pure rp pu)
      · simp only [ev, e, pu, if_false, Bool.false_eq_true] at h
        refine h H (put g i []) (r.forget i) ⟨Keep.refl, fun j hj => ?_, fun j a hj ha => ?_⟩ v (g i) ⟨rp, r.nd i, fun a ha => .inr ⟨i, by rw [hm]; simp, ha⟩, fun a ha j hj => ?_⟩
        · have ne : j ≠ i := fun z => hj (by rw [hm, z]; simp)
          exact ⟨by rw [gt_set, if_neg (fun z => ne z.1.symm)], put_ne ne⟩
        · have : j = i := by rw [hm] at hj; simpa using hj
          rw [this, put_same] at ha; cases ha
        · by_cases ne : j = i
          · rw [ne, put_same] at hj; cases hj
          · rw [put_ne ne] at hj
            exact ne (r.dj j i a hj ha)
  · obtain ⟨S, g, r, h⟩ := h
    cases e : gt S i with
    | none => simp only [ev, e] at h; exact h.elim
    | some w =>
      obtain ⟨v, e2, rp⟩ := r.rep i w e
      simp only [ev, e, if_true] at h
      have h : Post T W0 _ σ H S g (lift ((truW w).map W.bl) S) fun w _ H' _ => ∃ b, w = .bl b ∧ Q b H' := h
      obtain ⟨a, e3, b, e4, q⟩ := h.lift0 r
      subst e4
      cases hb : truW w with
      | none => rw [hb] at e3; cases e3
      | some b' =>
        rw [hb] at e3
        cases e3
        exact ⟨v, e2, _, by rw [D.K]; exact truW_of rp hb, q⟩
theorem ok_const {e : E} {w : W} (he : ∀ z x, chkE z e x = true → ∀ X : Cx, ∃ v, PE X x (tC v) ∧ plainTest x ∧ ∀ K H, Rep K H w v []) (hm : ∀ t, e.md t = []) (hl : ∀ S, lk c e S = some w) (hv : ∀ t S, ev c t e S = ret t w S) (hn : e.isVar = none) : OkE T k c e := by
  intro z X D x hx
  obtain ⟨v, hp, pl, rp⟩ := he z x hx X
  have sy : SY T X [] x fun S => .ok w S := fun W0 tk => imE hp fun σ H Q h => by
    obtain ⟨S, g, r, h⟩ := h
    exact (h.ok0 r).same (rp _ _)
  obtain ⟨h1, h2⟩ := okY (e := e) D pl sy (hm false) (hm true) (fun S => by rw [hv]; rfl) (fun S => by rw [hv]; rfl)
  refine ⟨fun _ => imE hp fun σ H Q h => ?_, h1, h2, fun i hi => by rw [hn] at hi; cases hi⟩
  obtain ⟨S, g, r, w', e, h⟩ := h
  rw [hl] at e; cases e
  exact h v H [] (rp _ _) (fun _ z => nomatch z) Keep.refl
theorem ok_int {n : Int} : OkE T k c (.int n) := ok_const (w := .int n) (fun z x hx X => by obtain ⟨k, p, rfl⟩ := inv_int hx; exact ⟨_, pe_int, fun _ _ => rfl, fun _ _ => .int _⟩) (fun t => by cases t <;> rfl) (fun _ => by simp only [lk]) (fun t S => by simp only [ev]) rfl
theorem ok_str {n : Str} : OkE T k c (.str n) := ok_const (w := .str n) (fun z x hx X => by obtain ⟨k, p, rfl⟩ := inv_str hx; exact ⟨_, pe_str, fun _ _ => rfl, fun _ _ => .str _⟩) (fun t => by cases t <;> rfl) (fun _ => by simp only [lk]) (fun t S => by simp only [ev]) rfl
theorem ok_bl {n : Bool} : OkE T k c (.bl n) := ok_const (w := .bl n) (fun z x hx X => by obtain ⟨k, p, rfl⟩ := inv_bl hx; exact ⟨_, pe_bl, fun _ _ => rfl, fun _ _ => .bl _⟩) (fun t => by cases t <;> rfl) (fun _ => by simp only [lk]) (fun t S => by simp only [ev]) rfl
theorem ok_non : OkE T k c .non := ok_const (w := .non) (fun z x hx X => by obtain ⟨k, p, rfl⟩ := inv_non hx; exact ⟨_, pe_non, fun _ _ => rfl, fun _ _ => .non⟩) (fun t => by cases t <;> rfl) (fun _ => by simp only [lk]) (fun t S => by simp only [ev]) rfl
theorem noFd_of {o : Option W} {w : W} (h : noFd o = some w) : o = some w ∧ ∀ ks ws, w ≠ .fdict ks ws := by
  unfold noFd at h
  split at h
  · cases h
  · rename_i hn
    exact ⟨h, fun ks ws e => hn ks ws (by rw [h, e])⟩
theorem ok_glob {y : Str} : OkE T k c (.glob y) := by
  intro z X D x hx
  obtain ⟨p, rfl, hg, hc, hd⟩ := inv_glob hx
  cases en : noFd (c.cst y) with
  | none =>
    refine ⟨fun _ => ⟨fun pins s σ H Q I ⟨S, g, r, w, e, _⟩ => ?_⟩, fun W0 tk => ⟨fun pins s σ H Q I ⟨S, g, r, q⟩ => ?_⟩, fun W0 tk => ⟨fun pins s σ H Q I ⟨S, g, r, q⟩ => ?_⟩, fun i hi => by cases hi⟩
    · simp only [lk, en, reduceCtorEq] at e
    · simp only [ev, en] at q; exact q.elim
    · simp only [ev, en] at q; exact q.elim
  | some w =>
    obtain ⟨ew0, nf⟩ := noFd_of en
    obtain ⟨w', ew, ⟨hC⟩⟩ := D.cs y hc
    rw [ew0] at ew; cases ew
    rcases hC with ⟨u, v, hm, rv, rp⟩ | ⟨ks, ws, _, _, _, e, _⟩
    · have hp : PE X (.Name y p) (tC v) := pe_glob (Chk.gl_of D hg) (by rw [D.mg]; exact hm) rv hd
      have sy : SY T X [] (.Name y p) fun S => .ok w S := fun W0 tk => imE hp fun σ H Q h => by
        obtain ⟨S, g, r, h⟩ := h
        exact (h.ok0 r).same (rp _)
      obtain ⟨h1, h2⟩ := okY (e := .glob y) D (fun _ _ => rfl) sy rfl rfl (fun S => by simp only [ev, en]; rfl) (fun S => by simp only [ev, en]; rfl)
      refine ⟨fun _ => imE hp fun σ H Q h => ?_, h1, h2, fun i hi => by cases hi⟩
      obtain ⟨S, g, r, w', e, h⟩ := h
      have e : noFd (c.cst y) = some w' := by simpa only [lk] using e
      rw [en] at e; cases e
      exact h v H [] (rp _) (fun _ z => nomatch z) Keep.refl
    · exact absurd e (nf ks ws)

/-! ### operators -/
theorem two_of {a b : E} {x y : Expr} (D : SD T k c z X) (ha : OkE T k c a) (hb : OkE T k c b) (hx : chkE z a x = true) (hy : chkE z b y = true) :
    S2 T X (md2 a.isLk b.isLk a.isVar (a.md false) (b.md false)) x y (two a.isLk b.isLk a.isVar (lk c a) (lk c b) (ev c false a) (ev c false b)) := by
  obtain ⟨a1, a2, _, a4⟩ := ha z X D x hx
  obtain ⟨b1, b2, _, _⟩ := hb z X D y hy
  exact two_ok a1 b1 a2 b2 a4
/-- an operand that is looked at -/
theorem pk_of {a : E} {x : Expr} (D : SD T k c z X) (ha : OkE T k c a) (hx : chkE z a x = true) :
    SB T X (if a.isLk = true then [] else a.md false) x fun S => if a.isLk = true then lift (lk c a S) S else ev c false a S := by
  obtain ⟨a1, a2, _, _⟩ := ha z X D x hx
  intro W0 tk
  by_cases la : a.isLk = true
  · refine imE (a1 la) fun σ H Q h => ?_
    obtain ⟨S, g, r, h⟩ := h
    simp only [la, if_true] at h
    cases e : lk c a S with
    | none => rw [e] at h; exact h.elim
    | some w =>
      rw [e] at h
      refine ⟨S, g, r, w, e, fun v H1 f rp _ al => ?_⟩
      exact h H1 g (r.all al) (Goes.refl.all al) v f rp
  · refine imE (a2 W0 tk) fun σ H Q h => ?_
    obtain ⟨S, g, r, h⟩ := h
    simp only [if_neg la] at h
    exact ⟨S, g, r, h.imp fun w S' H' g' _ _ q v f x => q v f x.rep⟩
theorem lk_two {a b : E} {x y : Expr} {σ : St} {H : Hp} {R : V → V → Hp → Prop} (D : SD T k c z X) (ha : SLk T X a.us x (lk c a)) (hb : SLk T X b.us y (lk c b))
    (h : ∃ S g, SR T.K H S σ g ∧ ∃ u w, lk c a S = some u ∧ lk c b S = some w ∧ ∀ v v2 H' f f2, Rep T.K H' u v f → Rep T.K H' w v2 f2 → (∀ q ∈ f, Ow (· ∈ a.us) g q) → All H H' → R v v2 H') :
    tLk T a.us (lk c a) σ H fun v H1 => tLk T b.us (lk c b) σ H1 fun v2 H2 => R v v2 H2 := by
  obtain ⟨S, g, r, u, w, e1, e2, h⟩ := h
  refine ⟨S, g, r, u, e1, fun v H1 f rp sb al => ⟨S, g, r.all al, w, e2, fun v2 H2 f2 rp2 _ al2 => ?_⟩⟩
  exact h v v2 H2 f f2 (rp.all al2) rp2 sb (al.trans al2)
theorem ok_bin {o : BOp} {a b : E} (ha : OkE T k c a) (hb : OkE T k c b) : OkE T k c (.bin o a b) := by
  intro z X D x hx
  obtain ⟨x1, y1, p, rfl, h1, h2⟩ := inv_bin hx
  have ho : OpR X (binaryOp (opAst o)) (rB T.K o) := by rw [← D.K]; exact rB_ok o
  have sy : SY T X (md2 a.isLk b.isLk a.isVar (a.md false) (b.md false)) (.BinOp x1 (opAst o) y1 p)
      (fun S => (two a.isLk b.isLk a.isVar (lk c a) (lk c b) (ev c false a) (ev c false b) S).bind fun q S1 => lift (binW o q.1 q.2) S1) := fun W0 tk => by
    obtain ⟨ta, tb, pa, pb, hi⟩ := two_of D ha hb h1 h2 W0 tk
    refine imE (pe_op ho pa pb) fun σ H Q h => hi σ H (fun x y H2 => rB T.K o x y H2 Q) ?_
    obtain ⟨S, g, r, h⟩ := h
    refine ⟨S, g, r, h.bind.imp fun q S1 H1 g1 r1 go q2 v u f f' rv ru => ?_⟩
    obtain ⟨_, _, q2⟩ := q2
    obtain ⟨w, e, yl⟩ := q2.lift0 r1
    exact rB_of rv ru e yl
  obtain ⟨g1, g2⟩ := okY (e := .bin o a b) D (fun _ _ => rfl) sy rfl rfl (fun S => by simp only [ev, Res.bind_assoc]) (fun S => by simp only [ev, Res.bind_assoc])
  refine ⟨fun hl => ?_, g1, g2, fun i hi => by cases hi⟩
  simp only [E.isLk, Bool.and_eq_true] at hl
  obtain ⟨a1, _⟩ := ha z X D x1 h1
  obtain ⟨b1, _⟩ := hb z X D y1 h2
  refine imE (pe_op ho (a1 hl.1) (b1 hl.2)) fun σ H Q h => lk_two (R := fun x y H2 => rB T.K o x y H2 Q) D (a1 hl.1) (b1 hl.2) ?_
  obtain ⟨S, g, r, w, e, h⟩ := h
  simp only [lk, Option.bind_eq_some_iff] at e
  obtain ⟨u, e1, t, e2, e3⟩ := e
  refine ⟨S, g, r, u, t, e1, e2, fun v v2 H' f f2 rp rp2 _ al => ?_⟩
  unfold pureO at e3
  split at e3
  · rename_i w' ew
    split at e3
    · rename_i hp
      cases e3
      exact rB_of rp rp2 ew fun v3 H3 f3 rp3 al3 _ _ => h v3 H3 f3 rp3 (by rw [rp3.own_pure hp]; exact fun _ z => nomatch z) (al.trans al3)
    · cases e3
  · cases e3
theorem ok_neg {a : E} (ha : OkE T k c a) : OkE T k c (.neg a) := by
  intro z X D x hx
  obtain ⟨x1, p, rfl, h1⟩ := inv_neg hx
  have sy : SY T X (if a.isLk = true then [] else a.md false) (.UnaryOp .USub x1 p)
      (fun S => (if a.isLk = true then lift (lk c a S) S else ev c false a S).bind fun w S1 => negR w S1) := fun W0 tk => by
    refine imE (pe_un un_neg (pk_of D ha h1 W0 tk)) fun σ H Q h => ?_
    obtain ⟨S, g, r, h⟩ := h
    refine ⟨S, g, r, h.bind.imp fun w S1 H1 g1 r1 go q2 v f rv => ?_⟩
    obtain ⟨_, _, q2⟩ := q2
    cases rv <;> first | exact q2.elim | skip
    rename_i i
    exact ⟨i, rfl, (q2.ok0 r1).same (.int _)⟩
  obtain ⟨g1, g2⟩ := okY (e := .neg a) D (fun _ _ => rfl) sy rfl rfl
    (fun S => by simp only [ev, Res.bind_assoc]) (fun S => by simp only [ev, Res.bind_assoc])
  refine ⟨fun hl => ?_, g1, g2, fun i hi => by cases hi⟩
  simp only [E.isLk] at hl
  obtain ⟨a1, _⟩ := ha z X D x1 h1
  refine imE (pe_un un_neg (a1 hl)) fun σ H Q h => ?_
  obtain ⟨S, g, r, w, e, h⟩ := h
  simp only [lk, Option.bind_eq_some_iff] at e
  obtain ⟨u, e1, e2⟩ := e
  refine ⟨S, g, r, u, e1, fun v H1 f rp _ al => ?_⟩
  cases rp <;> simp only [Option.some.injEq] at e2 <;> first | cases e2 | skip
  exact ⟨_, rfl, h _ H1 [] (.int _) (fun _ z => nomatch z) al⟩
theorem ok_cmp {o : COp} {a b : E} (ha : OkE T k c a) (hb : OkE T k c b) : OkE T k c (.cmp o a b) := by
  intro z X D x hx
  obtain ⟨x1, y1, p, rfl, h1, h2, h3⟩ := inv_cmp hx
  have ho : OpR X (compareOp (copAst o)) (rC T.K o) := by rw [← D.K]; exact rC_ok D.units o
  have key : ∀ {W0 : WX} {σ : St} {H : Hp} {m : Nat → Prop} {R : W → SW → Hp → (Nat → List Addr) → Prop} {Q : VK} {S : SW} {g : Nat → List Addr},
      Post T W0 m σ H S g ((two a.isLk b.isLk a.isVar (lk c a) (lk c b) (ev c false a) (ev c false b) S).bind fun p S1 => (lift (cmpW o p.1 p.2) S1).bind fun b S2 => .ok (.bl b) S2) R →
      (∀ b S' H' g', R (.bl b) S' H' g' → Q (.bl b) H') → Post T W0 m σ H S g (two a.isLk b.isLk a.isVar (lk c a) (lk c b) (ev c false a) (ev c false b) S) fun p _ H' _ => ∀ v u f f', Rep T.K H' p.1 v f → Rep T.K H' p.2 u f' → rC T.K o v u H' Q := by
    intro W0 σ H m R Q S g h hQ
    refine h.bind.imp fun q S1 H1 g1 r1 go q2 v u f f' rv ru => ?_
    obtain ⟨_, _, q2⟩ := q2
    obtain ⟨bb, e, q3⟩ := q2.lift
    exact rC_of rv ru e (hQ _ _ _ _ (q3.ok0 r1))
  refine ⟨fun hl => by simp [E.isLk] at hl, fun W0 tk => ?_, fun W0 tk => ?_, fun i hi => by cases hi⟩
  · obtain ⟨ta, tb, pa, pb, hi⟩ := two_of D ha hb h1 h2 W0 tk
    refine imE (pe_cmpR ho pa pb h3) fun σ H Q h => hi σ H (fun x y H2 => rC T.K o x y H2 Q) ?_
    obtain ⟨S, g, r, h⟩ := h
    simp only [ev] at h
    exact ⟨S, g, r, key h fun b S' H' g' q => q _ [] (Vl.pure (.bl _) rfl)⟩
  · obtain ⟨ta, tb, pa, pb, hi⟩ := two_of D ha hb h1 h2 W0 tk
    refine imT (pt_cmpR ho pa pb h3) fun σ H Q h => hi σ H (fun x y H2 => rC T.K o x y H2 fun x H' => ∃ k, x = .bl k ∧ Q k H') ?_
    obtain ⟨S, g, r, h⟩ := h
    simp only [ev] at h
    refine ⟨S, g, r, key h fun b S' H' g' q => ?_⟩
    obtain ⟨b', e, q⟩ := q
    cases e
    exact ⟨_, rfl, q⟩
theorem ok_not {a : E} (ha : OkE T k c a) : OkE T k c (.not a) := by
  intro z X D x hx
  obtain ⟨x1, p, rfl, h1⟩ := inv_not hx
  obtain ⟨_, _, a3, _⟩ := ha z X D x1 h1
  have key : ∀ {W0 : WX} {σ : St} {H : Hp} {m : Nat → Prop} {R : W → SW → Hp → (Nat → List Addr) → Prop} {S : SW} {g : Nat → List Addr} {R' : Bool → Hp → Prop},
      Post T W0 m σ H S g ((ev c true a S).bind fun w S1 => match w with | .bl b => .ok (.bl (!b)) S1 | _ => .stuck) R → (∀ b S' H' g', R (.bl b) S' H' g' → R' b H') →
      Post T W0 m σ H S g (ev c true a S) fun w _ H' _ => ∃ b, w = .bl b ∧ R' (!b) H' := by
    intro W0 σ H m R S g R' h hQ
    refine h.bind.imp fun w S1 H1 g1 r1 go q2 => ?_
    obtain ⟨_, _, q2⟩ := q2
    cases w <;> first | exact q2.elim | skip
    exact ⟨_, rfl, hQ _ _ _ _ (q2.ok0 r1)⟩
  refine ⟨fun hl => by simp [E.isLk] at hl, fun W0 tk => ?_, fun W0 tk => ?_, fun i hi => by cases hi⟩
  · refine imE (pe_notT (pk_of D ha h1 W0 tk)) fun σ H Q h => ?_
    obtain ⟨S, g, r, h⟩ := h
    simp only [ev, Bool.false_eq_true, if_false] at h
    refine ⟨S, g, r, h.bind.imp fun w S1 H1 g1 r1 go q2 v f rv => ?_⟩
    obtain ⟨_, _, q2⟩ := q2
    obtain ⟨b, e, q3⟩ := q2.lift
    exact ⟨b, by rw [D.K]; exact truW_of rv e, q3.ok0 r1 _ [] (Vl.pure (.bl _) rfl)⟩
  · refine imT (pt_not (a3 W0 tk)) fun σ H Q h => ?_
    obtain ⟨S, g, r, h⟩ := h
    simp only [ev, if_true] at h
    refine ⟨S, g, r, key (R' := fun b H' => Q b H') h fun b S' H' g' q => ?_⟩
    obtain ⟨b', e, q⟩ := q
    cases e
    exact q
end
end Own

/-! Own, part G: lists of expressions, displays, built-in calls, cuts -/
namespace Own
open PySem L2

def tLkL (T : Tab) (d : SW → Option (List W)) : TA := fun σ H Q => ∃ S g, SR T.K H S σ g ∧ ∃ ws, d S = some ws ∧ ∀ vs H' f, Reps T.K H' ws vs f → All H H' → Q vs H'
def SW2 (T : Tab) (X : Cx) (m : List Nat) (x : Expr) (d : SW → Res W) : Prop := ∀ W0, Takes X W0 → PW X x (tT T W0 (· ∈ m) d)
/-- arguments in the slots and beside them -/
structure ArR (K : PySem.W.Frag) (m : Nat → Prop) (σ : St) (H : Hp) (g : Nat → List Addr) (as : List Ar) (vs : List V) (fs : Nat → List Addr) (H' : Hp) (g' : Nat → List Addr) : Prop where
  len : as.length = vs.length
  val : ∀ (j : Nat) (w : W) (v : V), as[j]? = some (.val w) → vs[j]? = some v → Rep K H' w v (fs j)
  at_ : ∀ (j i : Nat) (v : V), as[j]? = some (.slot i) → vs[j]? = some v → σ[i]? = some (some v) ∧ m i
  emp : ∀ (j : Nat), (∀ w : W, as[j]? ≠ some (.val w)) → fs j = []
  nd : ∀ j, (fs j).Nodup
  dj : ∀ i j a, a ∈ fs i → a ∈ fs j → i = j
  sub : ∀ j a, a ∈ fs j → H a = none ∨ Ow m g a
  out : ∀ j a, a ∈ fs j → ∀ i, a ∉ g' i
  trk : ∀ j a, a ∈ fs j → H' a ≠ none
def tAr (T : Tab) (W0 : WX) (m : Nat → Prop) (d : SW → Res (List Ar)) : TA := fun σ H Q => ∃ S g, SR T.K H S σ g ∧ Post T W0 m σ H S g (d S) fun as _ H' g' => ∀ vs fs, ArR T.K m σ H g as vs fs H' g' → Q vs H'
def SAr (T : Tab) (X : Cx) (m : List Nat) (x : List Expr) (d : SW → Res (List Ar)) : Prop := ∀ W0, Takes X W0 → PA X x (tAr T W0 (· ∈ m) d)

section
variable {T : Tab} {k : Nat} {c : Fn} {z : Chk} {X : Cx}
structure OkEs (T : Tab) (k : Nat) (c : Fn) (es : Es) : Prop where
  lk : ∀ (z : Chk) (X : Cx), SD T k c z X → ∀ xs, chkEs z es xs = true → es.isLk = true → PA X xs (tLkL T (lkL c es))
  ls : ∀ (z : Chk) (X : Cx), SD T k c z X → ∀ xs, chkEs z es xs = true → SLs T X (es.md false) xs (evL c es)
  ar : ∀ (z : Chk) (X : Cx), SD T k c z X → ∀ xs, chkEs z es xs = true → SAr T X (es.md false) xs (evA c es)
  andE : ∀ (z : Chk) (X : Cx), SD T k c z X → ∀ xs p, chkEs z es xs = true → SE T X (es.md false) (.BoolOp .And xs p) (evAnd c false es)
  andT : ∀ (z : Chk) (X : Cx), SD T k c z X → ∀ xs p, chkEs z es xs = true → SW2 T X (es.md true) (.BoolOp .And xs p) (evAnd c true es)
  orE : ∀ (z : Chk) (X : Cx), SD T k c z X → ∀ xs p, chkEs z es xs = true → SE T X (es.md false) (.BoolOp .Or xs p) (evOr c false es)
  orT : ∀ (z : Chk) (X : Cx), SD T k c z X → ∀ xs p, chkEs z es xs = true → SW2 T X (es.md true) (.BoolOp .Or xs p) (evOr c true es)
  ts : ∀ (z : Chk) (X : Cx), SD T k c z X → ∀ xs, chkEs z es xs = true → ∀ W0, Takes X W0 → PTs X xs (tT T W0 (· ∈ es.md true) (evTs c es))

theorem noE {x : Expr} {m : List Nat} {d : SW → Res W} (h : ∀ S, d S = .stuck) : SE T X m x d := fun W0 tk => ⟨fun pins s σ H Q I ⟨S, g, r, q⟩ => by rw [h] at q; exact q.elim⟩
theorem noW {x : Expr} {m : List Nat} {d : SW → Res W} (h : ∀ S, d S = .stuck) : SW2 T X m x d := fun W0 tk => ⟨fun wh pins s σ H Q I ⟨S, g, r, q⟩ => by rw [h] at q; exact q.elim⟩
theorem noT {x : Expr} {m : List Nat} {d : SW → Res W} (h : ∀ S, d S = .stuck) : ST T X m x d := fun W0 tk => ⟨fun pins s σ H Q I ⟨S, g, r, q⟩ => by rw [h] at q; exact q.elim⟩
theorem imW {X : Cx} {e : Expr} {t t' : TT} (h : PW X e t) (i : ∀ σ H Q, t' σ H Q → t σ H Q) : PW X e t' := ⟨fun wh pins s σ H Q I q => h.run wh pins s σ H Q I (i σ H Q q)⟩
theorem imTs {X : Cx} {e : List Expr} {t t' : TT} (h : PTs X e t) (i : ∀ σ H Q, t' σ H Q → t σ H Q) : PTs X e t' := ⟨fun pins s σ H Q I q => h.run pins s σ H Q I (i σ H Q q)⟩

theorem okEs_nil : OkEs T k c .nil where
  lk := fun z X D xs hx _ => by
    obtain rfl := inv_nil hx
    refine imA pa_nil fun σ H Q ⟨S, g, r, ws, e, h⟩ => ?_
    have e : some [] = some ws := by simpa only [lkL] using e
    cases e
    exact h [] H [] .nil Keep.refl
  ls := fun z X D xs hx W0 tk => by
    obtain rfl := inv_nil hx
    refine imA pa_nil fun σ H Q ⟨S, g, r, h⟩ => ?_
    simp only [evL] at h
    exact h.ok0 r [] [] ⟨.nil, List.nodup_nil, (fun _ z => nomatch z), (fun _ z => nomatch z)⟩
  ar := fun z X D xs hx W0 tk => by
    obtain rfl := inv_nil hx
    refine imA pa_nil fun σ H Q ⟨S, g, r, h⟩ => ?_
    simp only [evA] at h
    exact h.ok0 r [] (fun _ => []) ⟨rfl, fun j w v e => by simp at e, fun j i v e => by simp at e, fun _ _ => rfl, fun _ => List.nodup_nil, (fun _ _ _ z => nomatch z), (fun _ _ z => nomatch z), (fun _ _ z => nomatch z), (fun _ _ z => nomatch z)⟩
  andE := fun z X D xs p hx => noE fun S => by simp only [evAnd]
  andT := fun z X D xs p hx => noW fun S => by simp only [evAnd]
  orE := fun z X D xs p hx => noE fun S => by simp only [evOr]
  orT := fun z X D xs p hx => noW fun S => by simp only [evOr]
  ts := fun z X D xs hx W0 tk => by
    obtain rfl := inv_nil hx
    refine imTs pts_nil fun σ H Q ⟨S, g, r, h⟩ => ?_
    simp only [evTs] at h
    obtain ⟨b, e, q⟩ := h.ok0 r
    cases e
    exact q

theorem ArR.step {K : PySem.W.Frag} {m m' : Nat → Prop} {σ : St} {H H1 H2 : Hp} {g g1 g2 : Nat → List Addr} {S1 S2 : SW} {as : List Ar} {vs : List V} {fs : Nat → List Addr} (x : ArR K m σ H g as vs fs H1 g1) (r1 : SR K H1 S1 σ g1) (b : Goes m' H1 S1 g1 H2 S2 g2) : ArR K m σ H g as vs fs H2 g2 where
  len := x.len
  val := fun j w v h1 h2 => (x.val j w v h1 h2).keep b.keep r1.mut fun a ha ⟨i, _, z⟩ => x.out j a ha i z
  at_ := x.at_
  emp := x.emp
  nd := x.nd
  dj := x.dj
  sub := x.sub
  out := fun j => dj_step r1 b (x.trk j) (x.out j)
  trk := fun j a ha z => by
    rcases b.keep.none_of z with q | ⟨i, _, q⟩
    · exact x.trk j a ha q
    · exact x.out j a ha i q
/-- one more in front -/
theorem ArR.cons {K : PySem.W.Frag} {m : Nat → Prop} {σ : St} {H H1 H2 : Hp} {S S1 : SW} {g g1 g2 : Nat → List Addr} {a : Ar} {v : V} {f : List Addr} {as : List Ar} {vs : List V} {fs : Nat → List Addr}
    (go : Goes m H S g H1 S1 g1) (y : ArR K m σ H1 g1 as vs fs H2 g2) (hv : ∀ w, a = .val w → Rep K H2 w v f) (ha : ∀ i, a = .slot i → σ[i]? = some (some v) ∧ m i ∧ f = []) (nd : f.Nodup) (sub : ∀ a ∈ f, H a = none ∨ Ow m g a)
    (out1 : ∀ a ∈ f, ∀ i, a ∉ g1 i) (tr1 : ∀ a ∈ f, H1 a ≠ none) (out2 : ∀ a ∈ f, ∀ i, a ∉ g2 i) (tr2 : ∀ a ∈ f, H2 a ≠ none) : ArR K m σ H g (a :: as) (v :: vs) (fun j => match j with | 0 => f | j + 1 => fs j) H2 g2 where
  len := by simp [y.len]
  val := fun j w u e1 e2 => by
    cases j with
    | zero => simp at e1 e2; subst e2; exact hv w e1
    | succ j => exact y.val j w u (by simpa using e1) (by simpa using e2)
  at_ := fun j i u e1 e2 => by
    cases j with
    | zero => simp at e1 e2; subst e2; exact ⟨(ha i e1).1, (ha i e1).2.1⟩
    | succ j => exact y.at_ j i u (by simpa using e1) (by simpa using e2)
  emp := fun j h => by
    cases j with
    | zero =>
      cases a with
      | val w => exact absurd rfl (h w)
      | slot i => exact (ha i rfl).2.2
    | succ j => exact y.emp j fun w z => h w (by simpa using z)
  nd := fun j => by cases j with
    | zero => exact nd
    | succ j => exact y.nd j
  dj := fun i j b h1 h2 => by
    have cross : ∀ j, b ∈ f → b ∈ fs j → False := fun j h1 h2 => by
      rcases y.sub j b h2 with q | ⟨i, _, q⟩
      · exact tr1 b h1 q
      · exact out1 b h1 i q
    cases i with
    | zero => cases j with
      | zero => rfl
      | succ j => exact (cross j h1 h2).elim
    | succ i => cases j with
      | zero => exact (cross i h2 h1).elim
      | succ j => exact congrArg _ (y.dj i j b h1 h2)
  sub := fun j b h => by cases j with
    | zero => exact sub b h
    | succ j => exact (y.sub j b h).elim go.none fun ⟨i, hi, q⟩ => go.sub i b hi q
  out := fun j b h => by cases j with
    | zero => exact out2 b h
    | succ j => exact y.out j b h
  trk := fun j b h => by cases j with
    | zero => exact tr2 b h
    | succ j => exact y.trk j b h

theorem okEs_cons {e : E} {es : Es} (he : OkE T k c e) (hs : OkEs T k c es) : OkEs T k c (.cons e es) where
  lk := fun z X D xs hx hl => by
    obtain ⟨x1, r1, rfl, h1, h2, h3⟩ := inv_cons hx
    simp only [Es.isLk, Bool.and_eq_true] at hl
    obtain ⟨a1, _⟩ := he z X D x1 h1
    refine imA (pa_cons (a1 hl.1) (hs.lk z X D r1 h2 hl.2) (star_of h3)) fun σ H Q ⟨S, g, r, ws, e, h⟩ => ?_
    simp only [lkL, Option.bind_eq_some_iff] at e
    obtain ⟨w, e1, ws', e2, e3⟩ := e
    cases e3
    refine ⟨S, g, r, w, e1, fun v H1 f rp _ al => ⟨S, g, r.all al, ws', e2, fun vs H2 f2 rp2 al2 => ?_⟩⟩
    exact h _ H2 _ (.cons (rp.all al2) rp2) (al.trans al2)
  ls := fun z X D xs hx W0 tk => by
    obtain ⟨x1, r1, rfl, h1, h2, h3⟩ := inv_cons hx
    obtain ⟨_, a2, _⟩ := he z X D x1 h1
    have i1 : ∀ j, j ∈ e.md false → j ∈ Es.md false (.cons e es) := fun j q => by simp only [Es.md]; exact List.mem_append_left _ q
    have i2 : ∀ j, j ∈ es.md false → j ∈ Es.md false (.cons e es) := fun j q => by simp only [Es.md]; exact List.mem_append_right _ q
    refine imA (pa_cons (a2 W0 tk) (hs.ls z X D r1 h2 W0 tk) (star_of h3)) fun σ H Q ⟨S, g, r, h⟩ => ?_
    simp only [evL] at h
    refine ⟨S, g, r, (h.bind.mono i1).imp fun w S1 H1 g1 r1 go q v f x1 => ?_⟩
    obtain ⟨go', _, q⟩ := q
    refine ⟨S1, g1, r1, (q.bind.mono i2).imp fun ws S2 H2 g2 r2 go2 q2 vs f2 x2 => ?_⟩
    obtain ⟨_, _, q2⟩ := q2
    exact q2.ok0 r2 (v :: vs) (f ++ f2) (((x1.mono i1).step r1 go2).cons (VlL.mk x2.rep x2.nd (fun a ha => (x2.sub a ha).imp id fun ⟨j, hj, z⟩ => ⟨j, i2 j hj, z⟩) x2.dj) go' (fun a ha => x1.rep.trk ha) x1.dj)
  ar := fun z X D xs hx W0 tk => by
    obtain ⟨x1, r1, rfl, h1, h2, h3⟩ := inv_cons hx
    obtain ⟨_, a2, _, a4⟩ := he z X D x1 h1
    have i1 : ∀ j, j ∈ e.md false → j ∈ Es.md false (.cons e es) := fun j q => by simp only [Es.md]; exact List.mem_append_left _ q
    have i2 : ∀ j, j ∈ es.md false → j ∈ Es.md false (.cons e es) := fun j q => by simp only [Es.md]; exact List.mem_append_right _ q
    have up : ∀ {σ : St} {H : Hp} {g : Nat → List Addr} {as : List Ar} {vs : List V} {fs : Nat → List Addr} {H' : Hp} {g' : Nat → List Addr}, ArR T.K (· ∈ es.md false) σ H g as vs fs H' g' → ArR T.K (· ∈ Es.md false (.cons e es)) σ H g as vs fs H' g' :=
      fun x => ⟨x.len, x.val, fun j i v h1 h2 => ⟨(x.at_ j i v h1 h2).1, i2 _ (x.at_ j i v h1 h2).2⟩, x.emp, x.nd, x.dj, fun j a ha => (x.sub j a ha).imp id fun ⟨j, hj, z⟩ => ⟨j, i2 j hj, z⟩, x.out, x.trk⟩
    cases hv : e.isVar with
    | some i =>
      have hm : i ∈ Es.md false (.cons e es) := by
        cases e with
        | var j =>
          simp only [E.isVar, Option.some.injEq] at hv
          subst hv
          simp [Es.md, E.md]
        | _ => simp [E.isVar] at hv
      refine imA (pa_cons (a4 i hv) (hs.ar z X D r1 h2 W0 tk) (star_of h3)) fun σ H Q ⟨S, g, r, h⟩ => ?_
      simp only [evA, hv] at h
      cases eg : gt S i with
      | none => rw [eg] at h; exact h.elim
      | some w =>
        obtain ⟨v, ev0, rp⟩ := r.rep i w eg
        refine ⟨v, ev0, ?_⟩
        rw [eg] at h
        by_cases pu : w.pure = true
        · simp only [pu, if_true] at h
          have h := (show Post T W0 _ σ H S g ((evA c es S).bind fun as S2 => .ok (Ar.val w :: as) S2) _ from h)
          refine ⟨S, g, r, (Post.mono (Post.bind h) i2).imp fun as S2 H2 g2 r2 go2 q2 vs fs x2 => ?_⟩
          obtain ⟨go3, _, q2⟩ := q2
          have e0 := rp.own_pure pu
          rw [e0] at rp
          refine q2.ok0 r2 (v :: vs) _ (ArR.cons (f := []) (Goes.refl (S := S)) (up x2) (fun w' ew => ?_) (fun i ei => by cases ei) List.nodup_nil (fun _ z => nomatch z) (fun _ z => nomatch z) (fun _ z => nomatch z) (fun _ z => nomatch z) (fun _ z => nomatch z))
          cases ew
          exact rp.keep go2.keep r.mut fun _ z => nomatch z
        · dsimp only at h
          rw [if_neg pu] at h
          have h := (show Post T W0 _ σ H S g ((evA c es S).bind fun as S2 => .ok (Ar.slot i :: as) S2) _ from h)
          refine ⟨S, g, r, (Post.mono (Post.bind h) i2).imp fun as S2 H2 g2 r2 go2 q2 vs fs x2 => ?_⟩
          obtain ⟨go3, _, q2⟩ := q2
          refine q2.ok0 r2 (v :: vs) _ (ArR.cons (f := []) (Goes.refl (S := S)) (up x2) (fun w' ew => by cases ew) (fun i' ei => ?_) List.nodup_nil (fun _ z => nomatch z) (fun _ z => nomatch z) (fun _ z => nomatch z) (fun _ z => nomatch z) (fun _ z => nomatch z))
          cases ei
          exact ⟨ev0, hm, rfl⟩
    | none =>
      refine imA (pa_cons (a2 W0 tk) (hs.ar z X D r1 h2 W0 tk) (star_of h3)) fun σ H Q ⟨S, g, r, h⟩ => ?_
      simp only [evA, hv, Res.bind_assoc] at h
      refine ⟨S, g, r, (h.bind.mono i1).imp fun w S1 H1 g1 r1 go q v f x1 => ?_⟩
      obtain ⟨go', _, q⟩ := q
      refine ⟨S1, g1, r1, (Post.mono (Post.bind (show Post T W0 _ σ H1 S1 g1 ((evA c es S1).bind _) _ from q)) i2).imp fun as S2 H2 g2 r2 go2 q2 vs fs x2 => ?_⟩
      obtain ⟨_, _, q2⟩ := q2
      have x1' := (x1.mono i1).step r1 go2
      refine q2.ok0 r2 (v :: vs) _ (ArR.cons go' (up x2) (fun w' ew => ?_) (fun i' ei => by cases ei) x1.nd (x1.mono i1).sub x1.dj (fun a ha => x1.rep.trk ha) x1'.dj (fun a ha => x1'.rep.trk ha))
      cases ew
      exact x1'.rep
  andE := fun z X D xs p hx => by
    obtain ⟨x1, r1, rfl, h1, h2, h3⟩ := inv_cons hx
    obtain ⟨_, a2, _⟩ := he z X D x1 h1
    have i1 : ∀ j, j ∈ e.md false → j ∈ Es.md false (.cons e es) := fun j q => by simp only [Es.md]; exact List.mem_append_left _ q
    have i2 : ∀ j, j ∈ es.md false → j ∈ Es.md false (.cons e es) := fun j q => by simp only [Es.md]; exact List.mem_append_right _ q
    cases es with
    | nil =>
      obtain rfl := inv_nil h2
      intro W0 tk
      refine imE (pe_one (a2 W0 tk)) fun σ H Q h => tV.mono (m := (· ∈ e.md false)) (m' := (· ∈ Es.md false (.cons e .nil))) ?_ i1
      simpa only [evAnd] using h
    | cons e2 es2 =>
      obtain ⟨x2, r2, rfl, _⟩ := inv_cons h2
      intro W0 tk
      refine imE (pe_and (a2 W0 tk) (hs.andE z X D _ p h2 W0 tk)) fun σ H Q h => ?_
      obtain ⟨S, g, r, h⟩ := h
      simp only [evAnd] at h
      refine ⟨S, g, r, (h.bind.mono i1).imp fun w S1 H1 g1 r1 go q v f x1 => ?_⟩
      obtain ⟨go', _, q⟩ := q
      have xr := x1.rep
      cases w <;> first | exact q.elim | skip
      rename_i b
      cases xr
      refine ⟨b, rfl, ?_⟩
      cases b with
      | true =>
        rw [if_pos rfl]
        exact ⟨S1, g1, r1, (q.mono i2).imp fun w S2 H2 g2 r2 go2 q2 v2 f2 x2 => q2 v2 f2 (Vl.back (x2.mono i2) go')⟩
      | false =>
        rw [if_neg Bool.false_ne_true]
        exact q.ok0 r1 _ [] (Vl.pure (.bl _) rfl)
  andT := fun z X D xs p hx => by
    obtain ⟨x1, r1, rfl, h1, h2, h3⟩ := inv_cons hx
    obtain ⟨_, _, a3, _⟩ := he z X D x1 h1
    have i1 : ∀ j, j ∈ e.md true → j ∈ Es.md true (.cons e es) := fun j q => by simp only [Es.md]; exact List.mem_append_left _ q
    have i2 : ∀ j, j ∈ es.md true → j ∈ Es.md true (.cons e es) := fun j q => by simp only [Es.md]; exact List.mem_append_right _ q
    cases es with
    | nil =>
      obtain rfl := inv_nil h2
      intro W0 tk
      refine imW (pw_and1 (a3 W0 tk)) fun σ H Q ⟨S, g, r, h⟩ => ?_
      simp only [evAnd] at h
      exact ⟨S, g, r, h.mono i1⟩
    | cons e2 es2 =>
      obtain ⟨x2, r2, rfl, _⟩ := inv_cons h2
      intro W0 tk
      refine imW (pw_and (a3 W0 tk) (hs.andT z X D _ p h2 W0 tk)) fun σ H Q ⟨S, g, r, h⟩ => ?_
      simp only [evAnd] at h
      refine ⟨S, g, r, (h.bind.mono i1).imp fun w S1 H1 g1 r1 go q => ?_⟩
      obtain ⟨_, _, q⟩ := q
      cases w <;> first | exact q.elim | skip
      rename_i b
      refine ⟨b, rfl, ?_⟩
      cases b with
      | true =>
        rw [if_pos rfl]
        exact ⟨S1, g1, r1, q.mono i2⟩
      | false =>
        rw [if_neg Bool.false_ne_true]
        obtain ⟨b', e, q⟩ := q.ok0 r1
        cases e
        exact q
  orE := fun z X D xs p hx => by
    obtain ⟨x1, r1, rfl, h1, h2, h3⟩ := inv_cons hx
    obtain ⟨_, a2, _⟩ := he z X D x1 h1
    have i1 : ∀ j, j ∈ e.md false → j ∈ Es.md false (.cons e es) := fun j q => by simp only [Es.md]; exact List.mem_append_left _ q
    have i2 : ∀ j, j ∈ es.md false → j ∈ Es.md false (.cons e es) := fun j q => by simp only [Es.md]; exact List.mem_append_right _ q
    cases es with
    | nil =>
      obtain rfl := inv_nil h2
      intro W0 tk
      refine imE (pe_one (a2 W0 tk)) fun σ H Q h => tV.mono (m := (· ∈ e.md false)) (m' := (· ∈ Es.md false (.cons e .nil))) ?_ i1
      simpa only [evOr] using h
    | cons e2 es2 =>
      obtain ⟨x2, r2, rfl, _⟩ := inv_cons h2
      intro W0 tk
      refine imE (pe_or (a2 W0 tk) (hs.orE z X D _ p h2 W0 tk)) fun σ H Q h => ?_
      obtain ⟨S, g, r, h⟩ := h
      simp only [evOr] at h
      refine ⟨S, g, r, (h.bind.mono i1).imp fun w S1 H1 g1 r1 go q v f x1 => ?_⟩
      obtain ⟨go', _, q⟩ := q
      have xr := x1.rep
      cases w <;> first | exact q.elim | skip
      rename_i b
      cases xr
      refine ⟨b, rfl, ?_⟩
      cases b with
      | false =>
        rw [if_neg Bool.false_ne_true]
        exact ⟨S1, g1, r1, (q.mono i2).imp fun w S2 H2 g2 r2 go2 q2 v2 f2 x2 => q2 v2 f2 (Vl.back (x2.mono i2) go')⟩
      | true =>
        rw [if_pos rfl]
        exact q.ok0 r1 _ [] (Vl.pure (.bl _) rfl)
  orT := fun z X D xs p hx => by
    obtain ⟨x1, r1, rfl, h1, h2, h3⟩ := inv_cons hx
    obtain ⟨_, _, a3, _⟩ := he z X D x1 h1
    have i1 : ∀ j, j ∈ e.md true → j ∈ Es.md true (.cons e es) := fun j q => by simp only [Es.md]; exact List.mem_append_left _ q
    have i2 : ∀ j, j ∈ es.md true → j ∈ Es.md true (.cons e es) := fun j q => by simp only [Es.md]; exact List.mem_append_right _ q
    cases es with
    | nil =>
      obtain rfl := inv_nil h2
      intro W0 tk
      refine imW (pw_or1 (a3 W0 tk)) fun σ H Q ⟨S, g, r, h⟩ => ?_
      simp only [evOr] at h
      exact ⟨S, g, r, h.mono i1⟩
    | cons e2 es2 =>
      obtain ⟨x2, r2, rfl, _⟩ := inv_cons h2
      intro W0 tk
      refine imW (pw_or (a3 W0 tk) (hs.orT z X D _ p h2 W0 tk)) fun σ H Q ⟨S, g, r, h⟩ => ?_
      simp only [evOr] at h
      refine ⟨S, g, r, (h.bind.mono i1).imp fun w S1 H1 g1 r1 go q => ?_⟩
      obtain ⟨_, _, q⟩ := q
      cases w <;> first | exact q.elim | skip
      rename_i b
      refine ⟨b, rfl, ?_⟩
      cases b with
      | false =>
        rw [if_neg Bool.false_ne_true]
        exact ⟨S1, g1, r1, q.mono i2⟩
      | true =>
        rw [if_pos rfl]
        obtain ⟨b', e, q⟩ := q.ok0 r1
        cases e
        exact q
  ts := fun z X D xs hx W0 tk => by
    obtain ⟨x1, r1, rfl, h1, h2, h3⟩ := inv_cons hx
    obtain ⟨_, _, a3, _⟩ := he z X D x1 h1
    cases es with
    | nil =>
      obtain rfl := inv_nil h2
      refine imTs (pts_one (a3 W0 tk)) fun σ H Q ⟨S, g, r, h⟩ => ?_
      simp only [evTs] at h
      exact ⟨S, g, r, h.mono fun j q => by simp only [Es.md]; exact List.mem_append_left _ q⟩
    | cons e2 es2 =>
      refine ⟨fun pins s σ H Q I ⟨S, g, r, q⟩ => ?_⟩
      simp only [evTs] at q
      exact q.elim
end
end Own

/-! Own, part H: the other forms -/
namespace Own
open PySem L2

section
variable {T : Tab} {k : Nat} {c : Fn} {z : Chk} {X : Cx}
theorem ok_and {es : Es} (hs : OkEs T k c es) : OkE T k c (.and es) := by
  intro z X D x hx
  obtain ⟨xs, p, rfl, h1⟩ := inv_and hx
  refine ⟨fun hl => by simp [E.isLk] at hl, ?_, ?_, fun i hi => by cases hi⟩
  · intro W0 tk
    refine imE (hs.andE z X D xs p h1 W0 tk) fun σ H Q ⟨S, g, r, h⟩ => ⟨S, g, r, ?_⟩
    simp only [ev, E.md] at h
    exact h
  · intro W0 tk
    refine imT (hs.andT z X D xs p h1 W0 tk).pt fun σ H Q ⟨S, g, r, h⟩ => ⟨S, g, r, ?_⟩
    simp only [ev, E.md] at h
    exact h
theorem ok_or {es : Es} (hs : OkEs T k c es) : OkE T k c (.or es) := by
  intro z X D x hx
  obtain ⟨xs, p, rfl, h1⟩ := inv_or hx
  refine ⟨fun hl => by simp [E.isLk] at hl, ?_, ?_, fun i hi => by cases hi⟩
  · intro W0 tk
    refine imE (hs.orE z X D xs p h1 W0 tk) fun σ H Q ⟨S, g, r, h⟩ => ⟨S, g, r, ?_⟩
    simp only [ev, E.md] at h
    exact h
  · intro W0 tk
    refine imT (hs.orT z X D xs p h1 W0 tk).pt fun σ H Q ⟨S, g, r, h⟩ => ⟨S, g, r, ?_⟩
    simp only [ev, E.md] at h
    exact h
theorem ok_ite {d a b : E} (hd : OkE T k c d) (ha : OkE T k c a) (hb : OkE T k c b) : OkE T k c (.ite d a b) := by
  intro z X D x hx
  obtain ⟨x1, y1, w1, p, rfl, h1, h2, h3⟩ := inv_ite hx
  obtain ⟨_, _, d3, _⟩ := hd z X D x1 h1
  obtain ⟨_, a2, _, _⟩ := ha z X D y1 h2
  obtain ⟨_, b2, _, _⟩ := hb z X D w1 h3
  have i1 : ∀ j, j ∈ d.md true → j ∈ E.md false (.ite d a b) := fun j q => by simp only [E.md]; exact List.mem_append_left _ q
  have i2 : ∀ j, j ∈ a.md false → j ∈ E.md false (.ite d a b) := fun j q => by simp only [E.md]; exact List.mem_append_right _ (List.mem_append_left _ q)
  have i3 : ∀ j, j ∈ b.md false → j ∈ E.md false (.ite d a b) := fun j q => by simp only [E.md]; exact List.mem_append_right _ (List.mem_append_right _ q)
  refine ⟨fun hl => by simp [E.isLk] at hl, ?_, noT fun S => by simp only [ev, if_true], fun i hi => by cases hi⟩
  intro W0 tk
  refine imE (pe_ifExp (d3 W0 tk) (a2 W0 tk) (b2 W0 tk)) fun σ H Q ⟨S, g, r, h⟩ => ?_
  simp only [ev, Bool.false_eq_true, if_false] at h
  refine ⟨S, g, r, (h.bind.mono i1).imp fun w S1 H1 g1 r1 go q => ?_⟩
  obtain ⟨go', _, q⟩ := q
  cases w <;> first | exact q.elim | skip
  rename_i bb
  refine ⟨bb, rfl, ?_⟩
  cases bb with
  | true =>
    rw [if_pos rfl]
    exact ⟨S1, g1, r1, (q.mono i2).imp fun w S2 H2 g2 r2 go2 q2 v2 f2 x2 => q2 v2 f2 (Vl.back (x2.mono i2) go')⟩
  | false =>
    rw [if_neg Bool.false_ne_true]
    exact ⟨S1, g1, r1, (q.mono i3).imp fun w S2 H2 g2 r2 go2 q2 v2 f2 x2 => q2 v2 f2 (Vl.back (x2.mono i3) go')⟩

/-! ### displays -/
theorem ok_tup {es : Es} (hs : OkEs T k c es) : OkE T k c (.tup es) := by
  intro z X D x hx
  obtain ⟨xs, kk, p, rfl, h1⟩ := inv_tup hx
  have sv : SE T X (es.md false) (.Tuple xs kk p) fun S => (evL c es S).bind fun ws S1 => tupR ws S1 := fun W0 tk => by
    refine imE (pe_tup (hs.ls z X D xs h1 W0 tk)) fun σ H Q ⟨S, g, r, h⟩ => ?_
    refine ⟨S, g, r, h.bind.imp fun ws S1 H1 g1 r1 go q vs f x1 => ?_⟩
    obtain ⟨_, _, q⟩ := q
    unfold tupR at q
    by_cases hz : ws.length ≤ sizeLine
    · rw [if_pos hz] at q
      refine ⟨by rw [← x1.rep.length]; exact hz, fun t ht => ?_⟩
      have al : All H1 (upd H1 t (.tup vs)) := Keep.new ht
      exact q _ g1 (r1.all al) (Goes.refl.all al) _ f ⟨.tup (.inl upd_same) (x1.rep.all al), x1.nd, x1.sub, x1.dj⟩
    · rw [if_neg hz] at q; exact q.elim
  obtain ⟨g1, g2⟩ := okV (e := .tup es) D (fun _ _ => rfl) sv rfl rfl (fun S => by simp only [ev, Res.bind_assoc]) (fun S => by simp only [ev, Res.bind_assoc])
  refine ⟨fun hl => ?_, g1, g2, fun i hi => by cases hi⟩
  simp only [E.isLk] at hl
  refine imE (pe_tup (hs.lk z X D xs h1 hl)) fun σ H Q ⟨S, g, r, w, e, h⟩ => ?_
  simp only [lk, Option.bind_eq_some_iff] at e
  obtain ⟨ws, e1, e2⟩ := e
  split at e2
  · rename_i hz
    simp only [Bool.and_eq_true, decide_eq_true_eq] at hz
    cases e2
    refine ⟨S, g, r, ws, e1, fun vs H1 f rp al => ⟨by rw [← rp.length]; exact hz.2, fun t ht => ?_⟩⟩
    have al2 : All H1 (upd H1 t (.tup vs)) := Keep.new ht
    have e0 := rp.own_pure hz.1
    subst e0
    exact h _ _ [] (.tup (.inl upd_same) (rp.all al2)) (fun _ z => nomatch z) (al.trans al2)
  · cases e2
theorem ok_lst {es : Es} (hs : OkEs T k c es) : OkE T k c (.lst es) := by
  intro z X D x hx
  obtain ⟨xs, p, rfl, h1⟩ := inv_lst hx
  have sv : SE T X (es.md false) (.List xs p) fun S => (evL c es S).bind fun ws S1 => lstR ws S1 := fun W0 tk => by
    refine imE (pe_lst (hs.ls z X D xs h1 W0 tk)) fun σ H Q ⟨S, g, r, h⟩ => ?_
    refine ⟨S, g, r, h.bind.imp fun ws S1 H1 g1 r1 go q vs f x1 => ?_⟩
    obtain ⟨go', _, q⟩ := q
    unfold lstR at q
    by_cases hz : ws.length ≤ sizeLine
    · rw [if_pos hz] at q
      refine ⟨by rw [← x1.rep.length]; exact hz, fun t ht => ?_⟩
      have al : All H1 (upd H1 t (.lst vs)) := Keep.new ht
      refine q _ g1 (r1.all al) (Goes.refl.all al) _ (t :: f) ⟨.lst upd_same (x1.rep.all al), List.nodup_cons.mpr ⟨fun z => x1.rep.trk z ht, x1.nd⟩, fun a ha => ?_, fun a ha j hj => ?_⟩
      · rcases List.mem_cons.mp ha with e | ha
        · rw [e]; exact go'.none ht
        · exact x1.sub a ha
      · rcases List.mem_cons.mp ha with e | ha
        · rw [e] at hj; exact r1.trk hj ht
        · exact x1.dj a ha j hj
    · rw [if_neg hz] at q; exact q.elim
  obtain ⟨g1, g2⟩ := okV (e := .lst es) D (fun _ _ => rfl) sv rfl rfl (fun S => by simp only [ev, Res.bind_assoc]) (fun S => by simp only [ev, Res.bind_assoc])
  exact ⟨fun hl => by simp [E.isLk] at hl, g1, g2, fun i hi => by cases hi⟩

/-! ### subscripts, cuts -/
theorem plainIx_of {kk : E} {y : Expr} (h : chkE z kk y = true) : PlainIx y := by
  cases y <;> first
    | exact fun _ _ => rfl
    | (exfalso; cases kk <;> simp only [chkE, isOdd, Bool.not_true, Bool.false_and, Bool.false_eq_true] at h)
theorem ok_idx {a b : E} (ha : OkE T k c a) (hb : OkE T k c b) : OkE T k c (.idx a b) := by
  intro z X D x hx
  obtain ⟨x1, y1, p, rfl, h1, h2⟩ := inv_idx hx
  have ho : IxR X (rIxA T.K) := by rw [← D.K]; exact ix_A D.units
  have sb : SB T X (md2 a.isLk b.isLk a.isVar (a.md false) (b.md false)) (.Subscript x1 y1 p)
      (fun S => (two a.isLk b.isLk a.isVar (lk c a) (lk c b) (ev c false a) (ev c false b) S).bind fun q S1 => lift (idxW q.1 q.2) S1) := fun W0 tk => by
    obtain ⟨ta, tb, pa, pb, hi⟩ := two_of D ha hb h1 h2 W0 tk
    refine imE (pe_ix ho pa pb (plainIx_of h2)) fun σ H Q h => hi σ H (fun x y H2 => rIxA T.K x y H2 Q) ?_
    obtain ⟨S, g, r, h⟩ := h
    refine ⟨S, g, r, h.bind.imp fun q S1 H1 g1 r1 go q2 v u f f' rv ru => ?_⟩
    obtain ⟨_, _, q2⟩ := q2
    obtain ⟨w, e, yl⟩ := q2.lift0 r1
    exact rIx_of rv ru e fun v f rp _ => yl v f rp
  obtain ⟨g1, g2⟩ := okB (e := .idx a b) D (fun _ _ => rfl) sb rfl rfl (fun S => by simp only [ev, Res.bind_assoc]) (fun S => by simp only [ev, Res.bind_assoc])
  refine ⟨fun hl => ?_, g1, g2, fun i hi => by cases hi⟩
  simp only [E.isLk, Bool.and_eq_true] at hl
  obtain ⟨a1, _⟩ := ha z X D x1 h1
  obtain ⟨b1, _⟩ := hb z X D y1 h2
  refine imE (pe_ix ho (a1 hl.1) (b1 hl.2) (plainIx_of h2)) fun σ H Q h => lk_two (R := fun x y H2 => rIxA T.K x y H2 Q) D (a1 hl.1) (b1 hl.2) ?_
  obtain ⟨S, g, r, w, e, h⟩ := h
  simp only [lk, Option.bind_eq_some_iff] at e
  obtain ⟨u, e1, t, e2, e3⟩ := e
  exact ⟨S, g, r, u, t, e1, e2, fun v v2 H' f f2 rp rp2 sb al => rIx_of rp rp2 e3 fun v3 f3 rp3 sb3 => h v3 H' f3 rp3 (fun q hq => let ⟨j, hj, z⟩ := sb q (sb3 q hq); ⟨j, by simp only [E.us]; exact List.mem_append_left _ hj, z⟩) al⟩

/-! ### built-in calls -/
def rLenD : List V → Hp → VK → Prop := fun xs H Q => ∃ a kvs, xs = [.ref a] ∧ Rd H a (.dK kvs) ∧ Q (.int kvs.length) H
theorem call_len_dct : CallR X (.builtin "len") rLenD := by
  intro pins s σ H xs us Q I r h
  obtain ⟨a, kvs, rfl, e, q⟩ := h
  cases r with
  | cons r t =>
    cases t
    cases (show _ = Value.ref a from r)
    exact d_len I e fun t s' I' => ⟨.int kvs.length, H, I', ⟨_, rfl⟩, q⟩
def rSrtD : List V → Hp → VK → Prop := fun xs H Q => (∃ (a : Addr) (kvs : List (Key × V)) (ks : List Int), xs = [.ref a] ∧ Rd H a (.dK kvs) ∧ kvs.map (·.1) = ks.map Sum.inl ∧ ks.length < 64 ∧ ∀ (ys : List Int) (p : Addr), ys.Perm ks → ys.Pairwise (· ≤ ·) → H p = none → Q (.ref p) (upd H p (.lst (ys.map V.int)))) ∨
  ∃ (a : Addr) (kvs : List (Key × V)) (ks : List Str), xs = [.ref a] ∧ Rd H a (.dK kvs) ∧ kvs.map (·.1) = ks.map Sum.inr ∧ ks.length < 64 ∧ ∀ ys p, ys.Perm ks → PyProof.Rows.sortedS ys = true → H p = none → Q (.ref p) (upd H p (.lst (ys.map V.str)))
def rL (K : PySem.W.Frag) : B1 → List V → Hp → VK → Prop
  | .len => fun xs H Q => (fun xs H Q => ∃ p ys, xs = [.ref p] ∧ (SqL K H p ys ∨ SqT K H p ys) ∧ Q (.int ys.length) H) xs H Q ∨ (fun xs H Q => ∃ z, xs = [.str z] ∧ z.length ≤ sizeLine ∧ Q (.int z.length) H) xs H Q ∨ rLenD xs H Q
  | .sum => rSum K | .any => rAny K | .all => rAll K | .max => rMax K | .min => rMin K
  | .abs => fun xs H Q => ∃ i, xs = [.int i] ∧ Q (.int (if i < 0 then -i else i)) H
  | .int => fun xs H Q => (∃ i, xs = [.int i] ∧ Q (.int i) H) ∨ ∃ k, xs = [.bl k] ∧ Q (.int (if k then 1 else 0)) H
  | .str => fun xs H Q => ∃ i, xs = [.int i] ∧ i.natAbs.log2 < 1920 ∧ Q (.str (toString i)) H
  | .tuple => fun xs H Q => ∃ p ys, xs = [.ref p] ∧ ((SqL K H p ys ∧ ∀ l, H l = none → Q (.ref l) (upd H l (.tup ys))) ∨ (SqT K H p ys ∧ Q (.ref p) H))
  | .list => fun xs H Q => ∃ p ys, xs = [.ref p] ∧ (SqL K H p ys ∨ SqT K H p ys) ∧ ∀ l, H l = none → Q (.ref l) (upd H l (.lst ys))
  | .sorted => fun xs H Q => rSortedI K xs H Q ∨ (fun xs H Q => rSortedS K xs H Q ∨ rSrtD xs H Q) xs H Q
def B1.val : B1 → Value
  | .len => .builtin "len" | .sum => .builtin "sum" | .any => .builtin "any" | .all => .builtin "all" | .max => .builtin "max" | .min => .builtin "min" | .abs => .builtin "abs"
  | .sorted => .builtin "sorted" | .int => .type "int" | .str => .type "str" | .tuple => .type "tuple" | .list => .type "list"
theorem CallR.or3 {f : Value} {a b d : List V → Hp → VK → Prop} (h : CallR X f fun xs H Q => a xs H Q ∨ b xs H Q) (h' : CallR X f d) : CallR X f fun xs H Q => a xs H Q ∨ b xs H Q ∨ d xs H Q := by
  intro pins s σ H xs us Q I r q
  rcases q with q | q | q
  · exact h pins s σ H xs us Q I r (.inl q)
  · exact h pins s σ H xs us Q I r (.inr q)
  · exact h' pins s σ H xs us Q I r q
theorem rL_ok (hc : X.calm = true) : ∀ f : B1, CallR X f.val (rL X.K f)
  | .len => CallR.or3 (call_len_seq.or call_len_str) call_len_dct
  | .sum => cr_sum hc
  | .any => cr_any hc
  | .all => cr_all hc
  | .max => cr_max hc
  | .min => cr_min hc
  | .abs => call_abs
  | .int => call_int1
  | .str => call_str_int
  | .tuple => call_tuple_of
  | .list => call_list_of
  | .sorted => cr_sortedI.or (cr_sortedS.or ((call_sortedDI hc).or (call_sortedD hc)))
theorem intsW_of {K : PySem.W.Frag} {H : Hp} : ∀ {w : List W} {v : List V} {f : List Addr} {ns : List Int}, Reps K H w v f → intsW w = some ns → v = ns.map V.int
  | _, _, _, _, .nil, e => by simp only [intsW, Option.some.injEq] at e; rw [← e]; rfl
  | _, _, _, ns, .cons (x := x) r t, e => by
    cases r <;> simp only [intsW, reduceCtorEq, Option.map_eq_some_iff] at e
    obtain ⟨ns', e1, rfl⟩ := e
    rw [intsW_of t e1]; rfl
theorem bolsW_of {K : PySem.W.Frag} {H : Hp} : ∀ {w : List W} {v : List V} {f : List Addr} {ns : List Bool}, Reps K H w v f → bolsW w = some ns → v = ns.map V.bl
  | _, _, _, _, .nil, e => by simp only [bolsW, Option.some.injEq] at e; rw [← e]; rfl
  | _, _, _, ns, .cons (x := x) r t, e => by
    cases r <;> simp only [bolsW, reduceCtorEq, Option.map_eq_some_iff] at e
    obtain ⟨ns', e1, rfl⟩ := e
    rw [bolsW_of t e1]; rfl
theorem lstW_of {K : PySem.W.Frag} {H : Hp} {w : W} {v : V} {f : List Addr} {xs : List W} (r : Rep K H w v f) (e : lstW w = some xs) : ∃ a vs g, v = .ref a ∧ SqL K H a vs ∧ Reps K H xs vs g := by
  cases r <;> simp only [lstW, reduceCtorEq, Option.some.injEq] at e
  · subst e; rename_i h rr; exact ⟨_, _, _, rfl, h.sq, rr⟩
  · subst e; rename_i h rr; exact ⟨_, _, _, rfl, .inl (.inl h), rr⟩
theorem strsW_of {K : PySem.W.Frag} {H : Hp} : ∀ {w : List W} {v : List V} {f : List Addr} {ns : List Str}, Reps K H w v f → strsW w = some ns → v = ns.map V.str
  | _, _, _, _, .nil, e => by simp only [strsW, Option.some.injEq] at e; rw [← e]; rfl
  | _, _, _, ns, .cons (x := x) r t, e => by
    cases r <;> simp only [strsW, reduceCtorEq, Option.map_eq_some_iff] at e
    obtain ⟨ns', e1, rfl⟩ := e
    rw [strsW_of t e1]; rfl
theorem kintsW_of : ∀ {ks : List Key} {ns : List Int}, kintsW ks = some ns → ks = ns.map Sum.inl
  | [], _, e => by simp only [kintsW, Option.some.injEq] at e; rw [← e]; rfl
  | .inl i :: r, ns, e => by
    simp only [kintsW, Option.map_eq_some_iff] at e
    obtain ⟨ns', e1, rfl⟩ := e
    rw [kintsW_of e1]; rfl
  | .inr i :: r, ns, e => by simp only [kintsW, reduceCtorEq] at e
theorem kstrsW_of : ∀ {ks : List Key} {ns : List Str}, kstrsW ks = some ns → ks = ns.map Sum.inr
  | [], _, e => by simp only [kstrsW, Option.some.injEq] at e; rw [← e]; rfl
  | .inr i :: r, ns, e => by
    simp only [kstrsW, Option.map_eq_some_iff] at e
    obtain ⟨ns', e1, rfl⟩ := e
    rw [kstrsW_of e1]; rfl
  | .inl i :: r, ns, e => by simp only [kstrsW, reduceCtorEq] at e
theorem reps_int {K : PySem.W.Frag} {H : Hp} : ∀ ns : List Int, Reps K H (ns.map W.int) (ns.map V.int) []
  | [] => .nil
  | n :: r => .cons (f := []) (g := []) (.int n) (reps_int r)
theorem reps_str {K : PySem.W.Frag} {H : Hp} : ∀ ns : List Str, Reps K H (ns.map W.str) (ns.map V.str) []
  | [] => .nil
  | n :: r => .cons (f := []) (g := []) (.str n) (reps_str r)
theorem maxL_spec : ∀ {ns : List Int} {m : Int}, maxL ns = some m → m ∈ ns ∧ ∀ y ∈ ns, y ≤ m
  | [], _, e => by simp [maxL] at e
  | x :: r, m, e => by
    unfold maxL at e
    cases h : maxL r with
    | none =>
      rw [h] at e; cases e
      have : r = [] := by
        cases r with
        | nil => rfl
        | cons y s => unfold maxL at h; split at h <;> cases h
      subst this
      simp
    | some y =>
      rw [h] at e
      obtain ⟨h1, h2⟩ := maxL_spec h
      simp only [Option.some.injEq] at e
      by_cases q : x < y
      · rw [if_pos q] at e; subst e
        exact ⟨List.mem_cons_of_mem _ h1, fun a ha => (List.mem_cons.mp ha).elim (fun z => by omega) (h2 a)⟩
      · rw [if_neg q] at e; subst e
        exact ⟨List.mem_cons_self, fun a ha => (List.mem_cons.mp ha).elim (fun z => by omega) fun z => by have := h2 a z; omega⟩
theorem minL_spec : ∀ {ns : List Int} {m : Int}, minL ns = some m → m ∈ ns ∧ ∀ y ∈ ns, m ≤ y
  | [], _, e => by simp [minL] at e
  | x :: r, m, e => by
    unfold minL at e
    cases h : minL r with
    | none =>
      rw [h] at e; cases e
      have : r = [] := by
        cases r with
        | nil => rfl
        | cons y s => unfold minL at h; split at h <;> cases h
      subst this
      simp
    | some y =>
      rw [h] at e
      obtain ⟨h1, h2⟩ := minL_spec h
      simp only [Option.some.injEq] at e
      by_cases q : y < x
      · rw [if_pos q] at e; subst e
        exact ⟨List.mem_cons_of_mem _ h1, fun a ha => (List.mem_cons.mp ha).elim (fun z => by omega) (h2 a)⟩
      · rw [if_neg q] at e; subst e
        exact ⟨List.mem_cons_self, fun a ha => (List.mem_cons.mp ha).elim (fun z => by omega) fun z => by have := h2 a z; omega⟩
theorem rL_of {K : PySem.W.Frag} {H : Hp} {Q : VK} {f : B1} {x w : W} {v : V} {fx : List Addr} (r : Rep K H x v fx) (e : b1W f x = some w) (q : Yld K H w Q) : rL K f [v] H Q := by
  unfold b1W at e
  split at e
  · -- sorted
    unfold sortW at e
    split at e
    · rename_i p hp
      split at e
      · rename_i hz
        obtain ⟨a, kvs, g, rfl, h1, h2, h3, h4⟩ := r.dct hp
        split at e
        · rename_i ns hn
          cases e
          have e1 := kintsW_of hn
          refine .inr (.inr (.inl ⟨a, kvs, ns, rfl, h1, h2.trans e1, by rw [e1] at hz; simpa using hz, fun ys p hp hs hn => ?_⟩))
          rw [eq_sortI hp hs]
          exact q.lst (reps_int _) hn
        · simp only [Option.map_eq_some_iff] at e
          obtain ⟨ss, e0, rfl⟩ := e
          have e1 := kstrsW_of e0
          refine .inr (.inr (.inr ⟨a, kvs, ss, rfl, h1, h2.trans e1, by rw [e1] at hz; simpa using hz, fun ys p hp hs hn => ?_⟩))
          rw [eq_sortS hp hs]
          exact q.lst (reps_str _) hn
      · cases e
    · simp only [Option.bind_eq_some_iff] at e
      obtain ⟨xs, e1, e⟩ := e
      obtain ⟨a, vs, g, rfl, hq, rr⟩ := lstW_of r e1
      split at e
      · rename_i ns hn
        cases e
        have := intsW_of rr hn
        subst this
        refine .inl ⟨a, ns, rfl, hq, fun ys p hp hs hn => ?_⟩
        rw [eq_sortI hp hs]
        exact q.lst (reps_int _) hn
      · split at e
        · rename_i hz
          simp only [Option.map_eq_some_iff] at e
          obtain ⟨ss, e0, rfl⟩ := e
          have hl := rr.length
          have := strsW_of rr e0
          subst this
          rw [List.length_map] at hl
          refine .inr (.inl ⟨a, ss, rfl, hq, by rw [← hl]; exact hz, fun ys p hp hs hn => ?_⟩)
          rw [eq_sortS hp hs]
          exact q.lst (reps_str _) hn
        · cases e
  · cases r
    split at e
    · rename_i hz; cases e; exact .inr (.inl ⟨_, rfl, hz, q.same (.int _)⟩)
    · cases e
  · split at e
    · rename_i p hp
      cases e
      obtain ⟨a, kvs, g, rfl, h1, h2, h3, h4⟩ := r.dct hp
      refine .inr (.inr ⟨a, kvs, rfl, h1, ?_⟩)
      have : kvs.length = p.1.length := by rw [← h2, List.length_map]
      rw [this]
      exact q.same (.int _)
    · simp only [Option.map_eq_some_iff] at e
      obtain ⟨xs, e1, rfl⟩ := e
      obtain ⟨a, vs, g, rfl, hq, rr, _⟩ := r.seq e1
      exact .inl ⟨a, vs, rfl, hq, by rw [← rr.length]; exact q.same (.int _)⟩
  · simp only [Option.map_eq_some_iff, Option.bind_eq_some_iff] at e
    obtain ⟨ns, ⟨xs, e1, e2⟩, rfl⟩ := e
    obtain ⟨a, vs, g, rfl, hq, rr⟩ := lstW_of r e1
    have := intsW_of rr e2
    subst this
    exact ⟨a, ns, rfl, hq, q.same (.int _)⟩
  · simp only [Option.map_eq_some_iff, Option.bind_eq_some_iff] at e
    obtain ⟨ns, ⟨xs, e1, e2⟩, rfl⟩ := e
    obtain ⟨a, vs, g, rfl, hq, rr⟩ := lstW_of r e1
    have := bolsW_of rr e2
    subst this
    exact ⟨a, ns, rfl, hq, q.same (.bl _)⟩
  · simp only [Option.map_eq_some_iff, Option.bind_eq_some_iff] at e
    obtain ⟨ns, ⟨xs, e1, e2⟩, rfl⟩ := e
    obtain ⟨a, vs, g, rfl, hq, rr⟩ := lstW_of r e1
    have := bolsW_of rr e2
    subst this
    exact ⟨a, ns, rfl, hq, q.same (.bl _)⟩
  · simp only [Option.map_eq_some_iff, Option.bind_eq_some_iff] at e
    obtain ⟨m, ⟨ns, ⟨xs, e1, e2⟩, e3⟩, rfl⟩ := e
    obtain ⟨a, vs, g, rfl, hq, rr⟩ := lstW_of r e1
    have := intsW_of rr e2
    subst this
    obtain ⟨s1, s2⟩ := maxL_spec e3
    refine ⟨a, ns, rfl, hq, List.length_pos_of_mem s1, fun m' h1 h2 => ?_⟩
    have : m' = m := Int.le_antisymm (s2 m' h1) (h2 m s1)
    rw [this]
    exact q.same (.int _)
  · simp only [Option.map_eq_some_iff, Option.bind_eq_some_iff] at e
    obtain ⟨m, ⟨ns, ⟨xs, e1, e2⟩, e3⟩, rfl⟩ := e
    obtain ⟨a, vs, g, rfl, hq, rr⟩ := lstW_of r e1
    have := intsW_of rr e2
    subst this
    obtain ⟨s1, s2⟩ := minL_spec e3
    refine ⟨a, ns, rfl, hq, List.length_pos_of_mem s1, fun m' h1 h2 => ?_⟩
    have : m' = m := Int.le_antisymm (h2 m s1) (s2 m' h1)
    rw [this]
    exact q.same (.int _)
  · cases r; cases e; exact ⟨_, rfl, q.same (.int _)⟩
  · cases r; cases e; exact .inl ⟨_, rfl, q.same (.int _)⟩
  · cases r; cases e; exact .inr ⟨_, rfl, q.same (.int _)⟩
  · cases r
    split at e
    · rename_i hz; cases e; exact ⟨_, rfl, hz, q.same (.str _)⟩
    · cases e
  · split at e
    · rename_i hp
      cases e
      cases r with
      | tup h rr =>
        have := rr.own_pure hp
        subst this
        exact ⟨_, _, rfl, .inr ⟨h.sq, q.same (.tup h rr)⟩⟩
    · cases e
  · simp only [Option.bind_eq_some_iff] at e
    obtain ⟨xs, e1, e2⟩ := e
    split at e2
    · rename_i hp
      cases e2
      obtain ⟨a, vs, g, rfl, hq, rr⟩ := lstW_of r e1
      have := rr.own_pure hp
      subst this
      exact ⟨a, vs, rfl, .inl ⟨hq, fun l hl => q.tup rr hl⟩⟩
    · cases e2
  · simp only [Option.bind_eq_some_iff] at e
    obtain ⟨xs, e1, e2⟩ := e
    split at e2
    · rename_i hp
      cases e2
      obtain ⟨a, vs, g, rfl, hq, rr, _⟩ := r.seq e1
      have := rr.own_pure hp
      subst this
      exact ⟨a, vs, rfl, hq, fun l hl => q.lst rr hl⟩
    · cases e2
  · cases e
theorem B1.boot : ∀ f : B1, bootBuiltins f.nm = some f.val := by
  intro f; cases f <;> decide +kernel
theorem B1.named : ∀ f : B1, bltNames.contains f.nm = true := by
  intro f; cases f <;> decide +kernel
theorem B1.nodebug : ∀ f : B1, (f.nm == ("__debug__" : Str)) = false := by
  intro f; cases f <;> decide +kernel
theorem B1.noname : ∀ f : B1, f.nm ≠ "__name__" := by
  intro f; cases f <;> decide +kernel
/-- the call of a built-in function or type by its name -/
theorem pe_b {f : B1} {r : List V → Hp → VK → Prop} {t : TA} {x1 : Expr} {xs : List Expr} {q p : Pos} (D : SD T k c z X) (hr : CallR X f.val r) (hg : z.gl f.nm = true) (ha : PA X (x1 :: xs) t)
    (he : starEach (x1 :: xs) X.env = (false, eval x1 X.env) :: starEach xs X.env) (hpl : (PySem.backTo p (starEach xs X.env)).any (·.1) = false) : PE X (.Call (.Name f.nm q) (x1 :: xs) [] p) (tCB r t) := by
  have hm : X.mg f.nm = none := by rw [D.mg]; exact D.blt _ f.named
  have hb := f.boot
  cases f <;> first
    | exact pe_callB hr (Chk.gl_of D hg) hm hb ha (B1.noname _) (B1.nodebug _) he hpl
    | exact pe_callTy hr (Chk.gl_of D hg) hm hb ha (B1.noname _) (B1.nodebug _) he hpl
theorem isStar_chk {e : E} {x : Expr} (h : chkE z e x = true) : isStar x = false := by
  cases x <;> first
    | rfl
    | (exfalso; cases e <;> simp only [chkE, isOdd, Bool.not_true, Bool.false_and, Bool.false_eq_true] at h)
theorem ok_b1 {f : B1} {a : E} (ha : OkE T k c a) : OkE T k c (.b1 f a) := by
  intro z X D x hx
  obtain ⟨q, x1, p, rfl, hg, h1⟩ := inv_b1 hx
  have ho : CallR X f.val (rL T.K f) := by rw [← D.K]; exact rL_ok D.calm f
  have st := isStar_chk h1
  have sy : SY T X (if a.isLk = true then [] else a.md false) (.Call (.Name f.nm q) [x1] [] p)
      (fun S => (if a.isLk = true then lift (lk c a S) S else ev c false a S).bind fun w S1 => lift (b1W f w) S1) := fun W0 tk => by
    refine imE (pe_b D ho hg (pa_cons (pk_of D ha h1 W0 tk) pa_nil (star_of st)) (star_of st) rfl) fun σ H Q h => ?_
    obtain ⟨S, g, r, h⟩ := h
    refine ⟨S, g, r, h.bind.imp fun w S1 H1 g1 r1 go q2 v f rv => ?_⟩
    obtain ⟨_, _, q2⟩ := q2
    obtain ⟨w2, e, yl⟩ := q2.lift0 r1
    exact rL_of rv e yl
  obtain ⟨g1, g2⟩ := okY (e := .b1 f a) D (fun _ _ => rfl) sy rfl rfl (fun S => by simp only [ev, Res.bind_assoc]) (fun S => by simp only [ev, Res.bind_assoc])
  refine ⟨fun hl => ?_, g1, g2, fun i hi => by cases hi⟩
  simp only [E.isLk, Bool.and_eq_true] at hl
  replace hl := hl.2
  obtain ⟨a1, _⟩ := ha z X D x1 h1
  refine imE (pe_b D ho hg (pa_cons (a1 hl) pa_nil (star_of st)) (star_of st) rfl) fun σ H Q ⟨S, g, r, w, e, h⟩ => ?_
  simp only [lk, Option.bind_eq_some_iff] at e
  obtain ⟨u, e1, e3⟩ := e
  refine ⟨S, g, r, u, e1, fun v H' f2 rp _ al => ?_⟩
  unfold pureO at e3
  split at e3
  · rename_i w' ew
    split at e3
    · rename_i hp
      cases e3
      exact rL_of rp ew fun v3 H3 f3 rp3 al3 _ _ => h v3 H3 f3 rp3 (by rw [rp3.own_pure hp]; exact fun _ z => nomatch z) (al.trans al3)
    · cases e3
  · cases e3
theorem ok_b2 {f : B1} {a b : E} (ha : OkE T k c a) (hb : OkE T k c b) : OkE T k c (.b2 f a b) := by
  intro z X D x hx
  obtain ⟨q, x1, y1, p, rfl, hg, h1, h2⟩ := inv_b2 hx
  let r2 : List V → Hp → VK → Prop := fun xs H Q => match f with
    | .max => ∃ i j, xs = [.int i, .int j] ∧ Q (.int (if j > i then j else i)) H
    | .min => ∃ i j, xs = [.int i, .int j] ∧ Q (.int (if j < i then j else i)) H
    | _ => False
  have ho : CallR X f.val r2 := by
    cases f <;> first
      | exact call_max2 D.calm
      | exact call_min2 D.calm
      | exact fun _ _ _ _ _ _ _ _ _ h => False.elim h
  have st1 := isStar_chk h1
  have st2 := isStar_chk h2
  have sy : SY T X (md2 a.isLk b.isLk a.isVar (a.md false) (b.md false)) (.Call (.Name f.nm q) [x1, y1] [] p)
      (fun S => (two a.isLk b.isLk a.isVar (lk c a) (lk c b) (ev c false a) (ev c false b) S).bind fun q S1 => lift (b2W f q.1 q.2) S1) := fun W0 tk => by
    obtain ⟨ta, tb, pa, pb, hi⟩ := two_of D ha hb h1 h2 W0 tk
    refine imE (pe_b D ho hg (pa_cons pa (pa_cons pb pa_nil (star_of st2)) (star_of st1)) (star_of st1) (by rw [star_of st2]; rfl)) fun σ H Q h => hi σ H (fun x y H2 => r2 [x, y] H2 Q) ?_
    obtain ⟨S, g, r, h⟩ := h
    refine ⟨S, g, r, h.bind.imp fun q S1 H1 g1 r1 go q2 v u f1 f2 rv ru => ?_⟩
    obtain ⟨_, _, q2⟩ := q2
    obtain ⟨w, e, yl⟩ := q2.lift0 r1
    unfold b2W at e
    split at e
    · rename_i e1 e2
      rw [e1] at rv; rw [e2] at ru
      cases rv; cases ru; cases e
      exact ⟨_, _, rfl, yl.same (.int _)⟩
    · rename_i e1 e2
      rw [e1] at rv; rw [e2] at ru
      cases rv; cases ru; cases e
      exact ⟨_, _, rfl, yl.same (.int _)⟩
    · cases e
  obtain ⟨g1, g2⟩ := okY (e := .b2 f a b) D (fun _ _ => rfl) sy rfl rfl (fun S => by simp only [ev, Res.bind_assoc]) (fun S => by simp only [ev, Res.bind_assoc])
  exact ⟨fun hl => by simp [E.isLk] at hl, g1, g2, fun i hi => by cases hi⟩

/-! ### isinstance -/
def tyN : W → String
  | .non => "NoneType" | .bl _ => "bool" | .int _ => "int" | .str _ => "str" | .tup _ => "tuple" | .flst _ => "list" | .lst _ => "list" | .dict _ _ => "dict" | .fdict _ _ => "dict" | .ins _ _ => "object"
def Ty.st : Ty → String
  | .int => "int" | .str => "str" | .bool => "bool" | .tuple => "tuple" | .list => "list" | .dict => "dict"
theorem Rep.tyx {K : PySem.W.Frag} {H : Hp} {w : W} {v : V} {f : List Addr} (r : Rep K H w v f) : TyX K H v (.type (tyN w)) := by
  cases r with
  | non => exact .base .non
  | bl b => exact .base (.bl b)
  | int i => exact .base (.int i)
  | str x => exact .base (.str x)
  | tup h _ =>
    rcases h with h | ⟨o, its, n, h1, h2, _⟩
    · exact .base (.tup h)
    · exact .kTuple h1 h2
  | flst h _ =>
    rcases h with ⟨o, h⟩ | ⟨o, its, n, h1, h2, _⟩
    · exact .base (.frz h)
    · exact .kList h1 h2
  | lst h _ => exact .base (.lst h)
  | dict h _ _ => exact .base (.dK h)
  | fdict h _ _ => obtain ⟨o, h⟩ := h; exact .fDict h
theorem kit_tab : ∀ (t : Ty) (a : String), a ∈ ["NoneType", "bool", "int", "str", "tuple", "list"] → (kitB a t.st).isSome = true := by
  intro t a ha
  simp only [List.mem_cons, List.not_mem_nil, or_false] at ha
  rcases ha with rfl | rfl | rfl | rfl | rfl | rfl <;> cases t <;> decide +kernel
theorem kit_isi {K : PySem.W.Frag} {H : Hp} {w : W} {v : V} {f : List Addr} (r : Rep K H w v f) (t : Ty) : PySem.W.kitOne K (.type (tyN w)) (.type t.st) = some (isiW t w) := by
  apply kit_ty
  cases r <;> cases t <;> first | rfl | (show kitB _ _ = _; decide +kernel)
theorem Ty.boot : ∀ t : Ty, bootBuiltins t.nm = some (.type t.st) := by
  intro t; cases t <;> decide +kernel
theorem Ty.named : ∀ t : Ty, bltNames.contains t.nm = true := by
  intro t; cases t <;> decide +kernel
theorem Ty.nodebug : ∀ t : Ty, (t.nm == ("__debug__" : Str)) = false := by
  intro t; cases t <;> decide +kernel
theorem Ty.noname : ∀ t : Ty, t.nm ≠ "__name__" := by
  intro t; cases t <;> decide +kernel
theorem ok_isi {a : E} {t : Ty} (ha : OkE T k c a) : OkE T k c (.isi a t) := by
  intro z X D x hx
  obtain ⟨q, x1, q2, p, rfl, hg, h1, hg2⟩ := inv_isi hx
  have ho : CallR X (.builtin "isinstance") (rIsi T.K) := by rw [← D.K]; exact call_isi
  have st := isStar_chk h1
  have hm : X.mg "isinstance" = none := by rw [D.mg]; exact D.blt _ (by decide +kernel)
  have hm2 : X.mg t.nm = none := by rw [D.mg]; exact D.blt _ t.named
  have hT : PE X (.Name t.nm q2) (tC (.ty t.st)) := pe_bltn (Chk.gl_of D hg2) hm2 t.boot rfl t.noname t.nodebug
  have pe : ∀ {W0 : WX}, Takes X W0 → PE X (.Call (.Name "isinstance" q) [x1, .Name t.nm q2] [] p) (tCB (rIsi T.K) (tCons (tBw T W0 (· ∈ (if a.isLk = true then [] else a.md false)) fun S => if a.isLk = true then lift (lk c a S) S else ev c false a S) (tCons (tC (.ty t.st)) tNil))) := fun tk =>
    pe_callB ho (Chk.gl_of D hg) hm (by decide +kernel) (pa_cons (pk_of D ha h1 _ tk) (pa_cons hT pa_nil rfl) (star_of st)) (by decide +kernel) (by decide +kernel) (star_of st) rfl
  have key : ∀ {W0 : WX} {σ : St} {H : Hp} {m : Nat → Prop} {R : W → SW → Hp → (Nat → List Addr) → Prop} {Q : VK} {S : SW} {g : Nat → List Addr},
      Post T W0 m σ H S g ((if a.isLk = true then lift (lk c a S) S else ev c false a S).bind fun w S1 => .ok (.bl (isiW t w)) S1) R →
      (∀ b S' H' g', R (.bl b) S' H' g' → Q (.bl b) H') → Post T W0 m σ H S g (if a.isLk = true then lift (lk c a S) S else ev c false a S) fun w _ H' _ => ∀ v f, Rep T.K H' w v f → rIsi T.K [v, .ty t.st] H' Q := by
    intro W0 σ H m R Q S g h hQ
    refine h.bind.imp fun w S1 H1 g1 r1 go q2 v f rv => ?_
    obtain ⟨_, _, q2⟩ := q2
    exact ⟨v, .ty t.st, _, _, _, rfl, .ty _, rv.tyx, kit_isi rv t, hQ _ _ _ _ (q2.ok0 r1)⟩
  refine ⟨fun hl => by simp [E.isLk] at hl, fun W0 tk => ?_, fun W0 tk => ?_, fun i hi => by cases hi⟩
  · refine imE (pe tk) fun σ H Q ⟨S, g, r, h⟩ => ?_
    simp only [ev, E.md] at h
    exact ⟨S, g, r, key h fun b S' H' g' q => q _ [] (Vl.pure (.bl _) rfl)⟩
  · refine imT (pt_truth (pe tk) (fun _ => rfl)) fun σ H Q ⟨S, g, r, h⟩ => ?_
    simp only [ev, E.md] at h
    refine ⟨S, g, r, key (Q := fun x H' => ∃ k, TruV X.K x H' k ∧ Q k H') h fun b S' H' g' q => ?_⟩
    obtain ⟨b', e, q⟩ := q
    cases e
    exact ⟨_, rfl, q⟩
end
end Own

/-! list.extend by a tuple -/
namespace PySem.AutoSeq1
set_option maxRecDepth 8000 in
theorem list_extend_list_tup (l : Addr) (items : Array Value) (n : Nat) (b : Addr) (items2 : Array Value) (hs0 : ¬(!items.isEmpty && Builtin.List.listTooLong (items.size + items2.size)) = true) (hs1 : items.size ≤ sizeLine) (hs2 : items.size + items2.size ≤ sizeLine + 1 := by seq_fits) :
    Meets (Builtin.«list.extend» ⟨[.ref l, .ref b], []⟩) (fun _ R s => s.heap.get? l = some { cls := .type "list", dict := none, data := .seq items n, slots := #[] } ∧ PyProof.Rows.IsTup s.heap b items2 ∧ R (.ok (.ret Value.none)) { s with heap := s.heap.update l (Obj.mapSeq fun x => x ++ items2), toks := s.toks }) :=
  .of_wp fun prog w A R s h => by
    obtain ⟨hp, g, d, tk, os⟩ := s; obtain ⟨hl, ⟨⟨oc, od, dt, sl⟩, hb, hc, n2, hd⟩, h⟩ := h
    dsimp only at hc hd
    subst hc; subst hd
    have f1 := idx_int; have f2 := sub_tuple_tuple; have f3 := sub_list_list; have f4 := sub_tuple_list; have f5 := sub_list_tuple;
    have hz' : (items ++ items2).size ≤ sizeLine + 1 := by rw [Array.size_append]; exact hs2
    wp_walk using (wpAny_updateSeq hl rfl (hz := hs1) (_hz' := hz')), wpAny_loadPart' hl, wpAny_loadPart' hb; exact ⟨_, rfl, h⟩
end PySem.AutoSeq1
/-! Own, part I: cuts, calls of the text's defs, methods of lists -/
namespace Own
open PySem L2

def rExtendT (K : PySem.W.Frag) : V → List V → Hp → VK → Prop := fun x vs H Q => ∃ l b xs zs, x = .ref l ∧ vs = [.ref b] ∧ H l = some (.lst xs) ∧ SqT K H b zs ∧ xs.length + zs.length ≤ sizeLine ∧ Q .non (upd H l (.lst (xs ++ zs)))
theorem mt_extendT {X : Cx} : MtR X "list.extend" (rExtendT X.K) := by
  intro pins s σ H x vs v us Q I rx rv h
  obtain ⟨l, b, xs, zs, rfl, rfl, hH, hB, hz, q⟩ := h
  cases rx
  obtain ⟨u, rfl, ru⟩ := rv.one
  cases ru
  obtain ⟨z, its, n, r, hl, e⟩ := I.lstM hH
  obtain ⟨its2, r2, p2, z2⟩ := I.tuple hB
  have hl2 := r2.length
  have hsz : its.toArray.size + its2.toArray.size ≤ sizeLine := by rw [List.size_toArray, List.size_toArray]; omega
  have hlong : ¬ (!its.toArray.isEmpty && Builtin.List.listTooLong (its.toArray.size + its2.toArray.size)) = true := by
    rw [notLongL hsz, Bool.and_false]
    exact Bool.false_ne_true
  refine call_meets F.slot_list_extend ⟨_, e, rfl⟩ F.entry_list_extend (F.args_list_extend_2 _ _)
    (AutoSeq1.list_extend_list_tup l its.toArray n b its2.toArray hlong (by rw [List.size_toArray]; omega) (by omega)) ⟨e, p2, ?_⟩
  refine ⟨.non, _, I.lset (its' := its ++ its2) hH e (by simp) (r.append r2) ?_, rfl, q⟩
  rw [List.length_append]
  omega
end Own

/-! Own, part I2: rules that the hand layer lacks: del xs[a:] -/
namespace L2
open PySem PySem.Spec PyProof.Rows
section
variable {prog : Program} {w : World} {A : Around} {E : Value → Shared → Prop} {s : Shared}
theorem bounds_tail {a n : Nat} : sliceBounds (some (a : Int)) none none n = (((min a n : Nat) : Int), (n : Int), 1) := by
  simp only [sliceBounds, Option.getD_none]
  have h1 : ¬ ((a : Int) < 0) := by omega
  simp only [h1, if_false, show (1 : Int) > 0 by decide, if_true]
  congr 1
  omega
/-- whether a cut of steps takes a place -/
def cutSel (start stop step : Int) (i : Nat) : Bool :=
  if step > 0 then start ≤ i && i < stop && (i - start) % step == 0
  else stop < i && i ≤ start && (start - i) % (-step) == 0
theorem cutSel_tail {a n i : Nat} (hi : i < n) : cutSel ((min a n : Nat) : Int) n 1 i = decide (a ≤ i) := by
  unfold cutSel
  rw [if_pos (by decide)]
  have h1 : (((i : Int) - ((min a n : Nat) : Int)) % 1 == 0) = true := by simp [Int.emod_one]
  rw [h1, Bool.and_true, Bool.eq_iff_iff]
  simp only [Bool.and_eq_true, decide_eq_true_eq]
  omega
theorem cut_take : ∀ (xs : List Value) (k a n : Nat), k + xs.length = n → ((xs.zipIdx k).filterMap fun p => if cutSel ((min a n : Nat) : Int) n 1 p.2 = true then none else some p.1) = xs.take (a - k)
  | [], k, a, n, _ => by simp
  | x :: xs, k, a, n, h => by
    simp only [List.length_cons] at h
    rw [List.zipIdx_cons, List.filterMap_cons]
    have hs : cutSel ((min a n : Nat) : Int) n 1 k = decide (a ≤ k) := cutSel_tail (by omega)
    simp only [hs, decide_eq_true_eq]
    by_cases hk : a ≤ k
    · rw [if_pos hk]
      simp only
      rw [cut_take xs (k + 1) a n (by omega), show a - (k + 1) = 0 by omega, show a - k = 0 by omega]
      simp
    · rw [if_neg hk]
      simp only
      rw [cut_take xs (k + 1) a n (by omega), show a - k = (a - (k + 1)) + 1 by omega, List.take_succ_cons]
set_option maxRecDepth 100000 in
/-- list.__delitem__ with a slice a: -/
theorem delItem_tail {l sl : Addr} {items : Array Value} {n : Nat} {vl vu : Value} {a : Nat} {Q : Unit → Shared → Prop}
    (e : s.heap.get? l = some { cls := .type "list", data := .seq items n })
    (hs : s.heap.IsSliceOf sl vl vu .none) (pl : IsPart vl (some (a : Int))) (pu : IsPart vu none)
    (hsz : items.size ≤ sizeLine) (h : ∀ f : Array Value → Array Value, (f items).toList = items.toList.take a → Q () { s with heap := s.heap.update l (Obj.mapSeq f) }) :
    wpAny (model prog w) A (delItem (.ref l) (.ref sl)) Q E s := by
  have hl : s.heap.IsList l items := PySem.IsL.isList e
  obtain ⟨os, hos, hcs, hds⟩ := id hs
  have hTs : s.TypeIs (.ref sl) "slice" := ⟨os, hos, hcs⟩
  have hstep : ¬ ((rawPart none == rawInt 0) = true) := Bool.false_ne_true
  unfold delItem
  try with_reducible refine wpAny_holding ?_
  first | refine wpAny_bind (wpAny_pure ?_) | skip
  refine wpAny_bind (wpAny_sequenceKey hl.typeIs (by decide) ?_)
  refine wpAny_bind (wpAny_callSpecial?_slot (name := Str.ofString "__delitem__") hl.typeIs F.slot_list_delitem
    (wpAny_call_entry F.slot_list_delitem hl.typeIs F.entry_list_delitem ?_ (F.args_list_delitem_2 _ _)))
  show wpAny _ _ (Builtin.List.listSubscript? (.ref sl) >>= _) _ _ s
  refine wpAny_bind ?_
  unfold Builtin.List.listSubscript?
  refine wpAny_bind (wpAny_specialOf hTs slice_no_index ?_)
  simp only [Option.isNone_none, if_true]
  refine wpAny_pure ?_
  show wpAny _ _ (typeOf (.ref sl) >>= _) _ _ s
  refine wpAny_bind (wpAny_typeOf hTs ?_)
  first
    | rw [if_neg (by decide)]
    | refine PySem.W.KFB.if_not (by decide) ?_
  rw [listSliceParts_eq]
  refine wpAny_bind (wpAny_bind (wpAny_field hos hds (x := .none) rfl (wpAny_bind (wpAny_listPart .none ?_))))
  rw [if_neg hstep]
  refine wpAny_bind (wpAny_field hos hds (x := vl) rfl (wpAny_bind (wpAny_listPart pl ?_)))
  refine wpAny_bind (wpAny_field hos hds (x := vu) rfl (wpAny_bind (wpAny_listPart pu (wpAny_pure ?_))))
  refine wpAny_bind ?_
  unfold Builtin.List.listItems
  refine wpAny_bind (wpAny_seqItems e rfl ?_)
  refine wpAny_pure ?_
  refine wpAny_bind (wpAny_of_eq ((sliceIndices_raw (some (a : Int)) none none items.size (by simp)).trans (congrArg (pure : Int × Int × Int → Sem (Int × Int × Int)) (bounds_tail (a := a)))) ?_)
  refine wpAny_bind (wpAny_rule ?_)
  have hv : ((fun xs : Array Value => (xs.toList.zipIdx.filterMap fun p => if cutSel ((min a items.size : Nat) : Int) (items.size : Int) 1 p.2 = true then none else some p.1).toArray) items).toList = items.toList.take a := by
    have := cut_take items.toList 0 a items.size (by simp)
    simpa using this
  generalize hf : (fun xs : Array Value => (xs.toList.zipIdx.filterMap fun p => if cutSel ((min a items.size : Nat) : Int) (items.size : Int) 1 p.2 = true then none else some p.1).toArray) = f at hv
  refine wpAny_bind ?_
  have go : ∀ Q' : Unit → Shared → Prop, Q' () { s with heap := s.heap.update l (Obj.mapSeq f) } → wpAny (model prog w) A.in1 (updateSeq l f) Q' E s := fun Q' hq => by
    refine wpAny_updateSeq (hz := hsz) (_hz' := ?_) e rfl hq
    have h2 := congrArg List.length hv
    rw [Array.length_toList, List.length_take, Array.length_toList] at h2
    omega
  subst hf
  refine go _ ?_
  refine wpAny_bind (wpAny_letGo ?_)
  exact wpAny_pure ⟨.none, rfl, wpAny_pure (h _ hv)⟩
end
section
variable {X : Cx}
/-- del xs[a:] -/
def tDelT (to : TE) (ta : TE) : TS := fun D σ H => to σ H fun x H1 => ta σ H1 fun y H2 => ∃ (l : Addr) (xs : List V) (a : Nat), x = .ref l ∧ y = .int a ∧ H2 l = some (.lst xs) ∧ D.nx σ (upd H2 l (.lst (xs.take a)))
theorem ps_delT {o lo : Expr} {to ta : TE} {tpos p2 pos : Pos} (ho : PE X o to) (hi : PE X lo ta) : PS X (.Delete [.Subscript o (.Slice (some lo) none none p2) tpos] pos) (tDelT to ta) := by
  refine ⟨fun pins s σ H D I h => ?_⟩
  refine wpAny_Delete (wpAny_deleteEach_cons (wpAny_delete_Subscript (thn (ho.run pins s σ H _ I h) fun u s1 ⟨x, H1, I1, rx, q1⟩ => ?_)))
  refine wpAny_Slice ?_
  rw [evalPart_some]
  refine thn (hi.run pins s1 σ H1 _ I1 q1) fun iv s2 ⟨y, H2, I2, ry, q2⟩ => ?_
  rw [evalPart_none]
  refine wpAny_pure ?_
  try rw [evalPart_none]
  refine wpAny_pure ?_
  obtain ⟨l, xs, j, ex, ey, hH, q2⟩ := q2
  subst ex
  subst ey
  cases (show u = Value.ref l from rx)
  obtain ⟨t, rfl⟩ := (show ∃ t, iv = Value.int j t from ry)
  have I4 : Inv X pins σ H2 { s2 with heap := s2.heap.push { cls := .type "slice", data := .fields #[.int j t, .none, .none] } } := I2.kept (t' := s2.toks) fun b ob q => Heap.get?_push_of_some _ q
  obtain ⟨z, its, n, r, hl, e⟩ := I4.lstM hH
  refine delItem_tail (a := j) e (Heap.IsSliceOf.new ..) (.int _ _) .none (by rw [List.size_toArray, ← hl]; exact z) fun f hf => ?_
  refine wpAny_deleteEach_nil ⟨σ, _, ?_, q2⟩
  refine I4.lset (its' := its.take j) (t' := s2.toks) hH e ?_ (r.take _) ?_
  · apply Array.toList_inj.mp
    simpa using hf
  · rw [List.length_take]; omega
end
end L2

/-! Own, part I3: list(reversed(x)) -/
namespace RT
open PySem PySem.Spec PyProof.Rows L2
theorem slot_rt_hint : Slot "reversed" "__length_hint__" "reversed.__length_hint__" :=
  .of (owner := "reversed") (n := "__length_hint__") (by rw [typeLookup_type, builtinLookup_eq_fast]; kernel_rfl) (by decide +kernel) (by decide +kernel) (by decide +kernel)
    (by first | exact .inl (by decide +kernel) | exact .inr (by decide +kernel)) (by rw [isSubtype_type]; kernel_rfl)
theorem entry_rt_hint : entryFor table "reversed.__length_hint__" = some Builtin.«reversed.__length_hint__» := entryFor_of_tree (by kernel_rfl)
theorem args_rt_hint (a : Value) : argsOk "reversed.__length_hint__" ⟨[a], []⟩ := by
  unfold argsOk; rw [signature?_of (id := "reversed.__length_hint__") (n := ['_', '_', 't', 'n', 'i', 'h', '_', 'h', 't', 'g', 'n', 'e', 'l', '_', '_']) (o := ['d', 'e', 's', 'r', 'e', 'v', 'e', 'r']) (by kernel_rfl) owner_rt]; kernel_rfl
theorem nolen_rt : typeLookup (.type "reversed") "__len__" = pure none := by rw [typeLookup_type, builtinLookup_eq_fast]; kernel_rfl
section
variable {prog : Program} {w : World} {A : Around} {E : Value → Shared → Prop} {s : Shared}
/-- the walk of reversed(a tuple) -/
theorem walks_rt (hh : A.handled = none) (I t : Addr) (hne : t ≠ I) (items : Array Value) (hz : items.size ≤ sizeLine) :
    Walks prog w A I [I, t] [I] items.size (fun i v => items[items.size - 1 - i]? = some v) (fun i h => i ≤ items.size ∧ IsRt h I t ((items.size : Int) - 1 - (i : Int)) ∧ IsTup h t items) where
  sub := fun b hb => by simp at hb; simp [hb]
  frame := fun _ _ _ x hk => ⟨x.1, x.2.1.at fun o e => hk I (by simp) o e, by
    obtain ⟨o, ho, r⟩ := x.2.2
    exact ⟨o, hk t (by simp) o ho, r⟩⟩
  item := fun i s Q E hi x hQ => by
    have e : (items.size : Int) - 1 - (i : Int) = ((items.size - 1 - i : Nat) : Int) := by omega
    have hit := x.2.1
    rw [e] at hit
    have hx : items[items.size - 1 - i]? = some (items[items.size - 1 - i]'(by omega)) := Array.getElem?_eq_getElem (by omega)
    refine next_rt_item hit x.2.2 hx hz fun h' hit' hs' => ?_
    have e2 : ((items.size - 1 - i : Nat) : Int) - 1 = (items.size : Int) - 1 - ((i + 1 : Nat) : Int) := by omega
    rw [e2] at hit'
    refine hQ _ h' (s.toks + 1) hx ⟨hi, hit', ?_⟩ fun b o hb eo => hs'.extBut b o (fun h => hb (by simp [h])) eo
    obtain ⟨o, ho, r⟩ := x.2.2
    exact ⟨o, (hs'.2 t hne).trans ho, r⟩
  done := fun s Q E x hQ => by
    have e : (items.size : Int) - 1 - (items.size : Int) = -1 := by omega
    have hit := x.2.1
    rw [e] at hit
    exact next_rt_end hh hit fun h' he' => hQ h' s.toks fun b o hb eo => he' b o (fun h => hb (by simp [h])) eo
  self := fun _ _ _ _ x hQ => iter_rt x.2.1 hQ
theorem hint_rt {it t : Addr} {items : Array Value} {Q : Bool → Shared → Prop} (hit : IsRt s.heap it t ((items.size : Int) - 1)) (ht : IsTup s.heap t items) (hz : items.size ≤ sizeLine) (h : ∀ b tk, s.toks ≤ tk → Q b { s with toks := tk }) :
    wpAny (model prog w) A (Builtin.List.listLengthHint (.ref it)) Q E s := by
  have hT := hit.typeIs
  have hn := line63
  obtain ⟨o, ho, hc, hd⟩ := id hit
  unfold Builtin.List.listLengthHint
  refine wpAny_bind (wpAny_specialOf hT nolen_rt ?_)
  show wpAny _ A (specialOf (Value.ref it) (Str.ofString "__length_hint__") >>= _) _ _ _
  refine wpAny_bind (wpAny_specialOf hT slot_rt_hint.lookup ?_)
  generalize hid : ("reversed.__length_hint__" : String) = id0
  wp_delta
  rw [show splitId id0 = some ("reversed", "__length_hint__") from by subst hid; decide +kernel]
  refine wpAny_bind (wpAny_isInstance (b := true) hT F.sub_reversed_self ?_)
  rw [if_neg (by decide)]
  subst hid
  rw [if_neg (by decide +kernel)]
  refine wpAny_bind (wpAny_rule ?_)
  refine wpAny_bind (wpAny_of_eq (slot_rt_hint.bind _) ?_)
  refine wpAny_bind (wpAny_attempt (wpAny_call_entry slot_rt_hint hT entry_rt_hint ?_ (args_rt_hint _)))
  unfold Builtin.«reversed.__length_hint__»
  refine wpAny_bind (wpAny_of_eq (a := Value.ref it) rfl ?_)
  refine wpAny_bind (wpAny_field ho hd (x := .ref t) rfl ?_)
  rw [if_neg (show ¬ (Value.ref t == Value.none) = true from Bool.false_ne_true)]
  refine wpAny_bind (len_tuple ht (by omega) ?_)
  refine wpAny_bind (wpAny_of_eq (a := some (items.size : Int)) rfl ?_)
  refine wpAny_bind (wpAny_field (s := { s with toks := s.toks + 1 + 1 }) ho hd (x := rawInt ((items.size : Int) - 1)) rfl ?_)
  show wpAny _ _ (if (items.size : Int) < (items.size : Int) - 1 + 1 then _ else _) _ _ _
  rw [if_neg (by omega)]
  have e1 : (items.size : Int) - 1 + 1 = (items.size : Int) := by omega
  rw [e1]
  have hz1 : (items.size : Int).toNat ≤ sizeLine := by simpa using hz
  have h0 : (0 : Int) ≤ (items.size : Int) := by omega
  have h63 : (items.size : Int) < 2 ^ 63 := by omega
  clear e1
  generalize (items.size : Int) = m at hz1 h0 h63 ⊢
  unfold retInt
  refine wpAny_bind (wpAny_mkInt ?_)
  refine wpAny_pure ⟨_, rfl, ?_⟩
  dsimp only
  have hfit : Builtin.List.listFitsIndex m = true := fitsIndex_both (by omega) h63
  have hlong : Builtin.List.listTooLong m.toNat = false := notLongL hz1
  refine wpAny_bind (show wpAny (model prog w) A (pure (some m)) _ E _ from wpAny_pure ?_)
  show wpAny _ _ (if (!Builtin.List.listFitsIndex m) = true then _ else _) _ _ _
  rw [hfit, if_neg (by decide)]
  show wpAny _ _ (if m < 0 then _ else _) _ _ _
  rw [if_neg (by omega)]
  show wpAny _ _ (if Builtin.List.listTooLong m.toNat = true then _ else _) _ _ _
  rw [hlong, if_neg Bool.false_ne_true]
  exact wpAny_pure (h _ _ (by show s.toks ≤ s.toks + 1 + 1 + 1; omega))
end
end RT
namespace PySem
open PySem.Spec PyProof.Rows L2
section
variable {prog : Program} {w : World} {A : Around} {s : Shared} {R : Result → Shared → Prop}
variable {I : Addr} {fp wr : List Addr} {G : Array GenState → Array GenState → Prop} {n : Nat} {P : Nat → Value → Prop} {St : Nat → Shared → Prop} {T : String}
theorem wpAny_extend_walk (W : WalksS prog w A.in1 I fp wr G n P St) (hT : ∀ i s, St i s → s.TypeIs (.ref I) T) (h2 : (Value.type T == Value.type "list") = false) (h3 : (Value.type T == Value.type "tuple") = false)
    (hint : ∀ (E : Value → Shared → Prop) (Q' : Bool → Shared → Prop) (s1 : Shared), St 0 s1 → (∀ b tk, s1.toks ≤ tk → Q' b { s1 with toks := tk }) → wpAny (model prog w) A.in1 (Builtin.List.listLengthHint (.ref I)) Q' E s1) (S : Addr) (res : Value) (c₀ : Nat) (hst : St 0 s) (hSf : S ∉ fp) (hI : I ∈ fp)
    (hS : s.heap.get? S = some { cls := .type "list", data := .seq #[] c₀ })
    (hR : ∀ s' acc' c', Moved (S :: wr) G s s' → s'.heap.get? S = some { cls := .type "list", dict := none, data := .seq acc' c', slots := #[] } → ItemsOf P acc' n → R (.ok (.ret res)) s') (hn : n ≤ sizeLine) :
    wpAny (model prog w) A.in1 (Builtin.List.listExtendWith (.ref S) (.ref I) res)
      (fun fin s' => match fin with | .done f => R (.ok f) s' | .again c' => c'.quiet = true ∧ codeAny (model prog w) A c' R s') (fun e s' => R (.error e) s') s := by
  have hSI : S ≠ I := fun e => hSf (e ▸ hI)
  unfold Builtin.List.listExtendWith
  refine wpAny_bind (wpAny_typeOf (hT 0 _ hst) ?_)
  have h1 : Builtin.List.listSameRef (.ref S) (.ref I) = false := by simp [Builtin.List.listSameRef, hSI]
  simp only [h1, h2, h3, Bool.or_false, Bool.false_eq_true, if_false]
  refine wpAny_bind (W.self 0 _ _ _ hst ?_)
  refine wpAny_bind (wpAny_holding (hint _ _ s hst fun b tk htk => ?_))
  have hst1 : St 0 { s with toks := tk } := W.frame 0 s s.heap tk hst htk fun _ _ _ e => e
  have mv : Moved (S :: wr) G s { s with toks := tk } := ((Moved.refl W.grefl).then_heap htk fun b o _ e => e)
  have hS1 : ({ s with toks := tk } : Shared).heap.get? S = some { cls := .type "list", data := .seq #[] c₀ } := hS
  have no : codeAny (model prog w) A (.builtin "list.extend.loop" ⟨[.ref S, .ref I, res], []⟩) R { s with toks := tk } := by
    refine codeAny_extend_loopS W hn _ hSf _ n 0 _ _ _ rfl (Nat.zero_le _) hst1 hS1 (ItemsOf.nil P) fun s' acc' c' hm hS' hacc => ?_
    exact hR s' acc' c' (Moved.trans W.gtrans mv hm) hS' hacc
  have yes : ∀ Q' E', Q' () { s with heap := (s.heap.update S (Obj.mapSeq (·.push Value.none))).update S (Obj.mapSeq (·.pop)), toks := tk } → wpAny (model prog w) A.in1 (Builtin.List.listTouch (.ref S)) Q' E' { s with toks := tk } := by
    intro Q' E' hq
    show wpAny _ A.in1 (updateSeq S (·.push .none) >>= fun _ => updateSeq S (·.pop)) _ _ _
    refine wpAny_bind (wpAny_updateSeq hS1 rfl ?_)
    have hS₂ := Heap.get?_update_self (Obj.mapSeq (·.push Value.none)) hS1 rfl
    exact wpAny_updateSeq (hz := by seq_fits) hS₂ rfl hq
  have after : codeAny (model prog w) A (.builtin "list.extend.loop" ⟨[.ref S, .ref I, res], []⟩) R { s with heap := (s.heap.update S (Obj.mapSeq (·.push Value.none))).update S (Obj.mapSeq (·.pop)), toks := tk } := by
    have hS₂ := Heap.get?_update_self (Obj.mapSeq (·.push Value.none)) hS1 rfl
    have hS₃ := Heap.get?_update_self (Obj.mapSeq (·.pop)) hS₂ rfl
    have oth : ∀ b o, b ≠ S → s.heap.get? b = some o → ((s.heap.update S (Obj.mapSeq (·.push Value.none))).update S (Obj.mapSeq (·.pop))).get? b = some o :=
      fun b o hb e => (Heap.get?_update_other _ _ (Ne.symm hb)).trans ((Heap.get?_update_other _ _ (Ne.symm hb)).trans e)
    refine codeAny_extend_loopS W hn _ hSf _ n 0 _ _ _ rfl (Nat.zero_le _)
      (W.frame 0 s _ tk hst htk fun b hb o e => oth b o (fun h => hSf (h ▸ hb)) e) hS₃ (ItemsOf.nil P) fun s' acc' c' hm hS' hacc => ?_
    exact hR s' acc' c' (Moved.trans W.gtrans ((Moved.refl W.grefl).then_heap htk fun b o hb e => oth b o (fun h => hb (h ▸ List.mem_cons_self)) e) hm) hS' hacc
  split
  · refine wpAny_bind (wpAny_rule ?_)
    exact wpAny_bind (yes _ _ (wpAny_pure ⟨plainId_quiet F.plain_extend_loop _, after⟩))
  · exact wpAny_pure ⟨plainId_quiet F.plain_extend_loop _, no⟩
end
section
variable {prog : Program} {w : World} {A : Around} {E : Value → Shared → Prop} {s : Shared}
variable {I : Addr} {fp wr : List Addr} {G : Array GenState → Array GenState → Prop} {n : Nat} {P : Nat → Value → Prop} {St : Nat → Shared → Prop} {T : String}
theorem call_list_walk {Q : Value → Shared → Prop} (W : WalksS prog w A.in1.in1 I fp wr G n P St) (hT : ∀ i s, St i s → s.TypeIs (.ref I) T) (h2 : (Value.type T == Value.type "list") = false) (h3 : (Value.type T == Value.type "tuple") = false)
    (hint : ∀ (E : Value → Shared → Prop) (Q' : Bool → Shared → Prop) (s1 : Shared), St 0 s1 → (∀ b tk, s1.toks ≤ tk → Q' b { s1 with toks := tk }) → wpAny (model prog w) A.in1.in1 (Builtin.List.listLengthHint (.ref I)) Q' E s1)
    (hst : St 0 s) (hfp : ∀ b ∈ fp, b < s.heap.objs.size) (hI : I ∈ fp)
    (hQ : ∀ s' acc' c', Moved (s.heap.objs.size :: wr) G { s with heap := s.heap.push { cls := .type "list", data := .seq #[] } } s' →
      s'.heap.get? s.heap.objs.size = some { cls := .type "list", dict := none, data := .seq acc' c', slots := #[] } → ItemsOf P acc' n → Q (.ref s.heap.objs.size) s') (hn : n ≤ sizeLine) :
    wpAny (model prog w) A (call (.type "list") [.ref I]) Q E s := by
  have hSf : s.heap.objs.size ∉ fp := fun hm => Nat.lt_irrefl _ (hfp _ hm)
  refine callType_codes (Q₁ := fun obj s₁ => obj = .ref s.heap.objs.size ∧ s₁ = { s with heap := s.heap.push { cls := .type "list", data := .seq #[] } }) F.called_list (F.typeCall_list_1 _) F.entry_list_init
    (code_list_new _ ⟨rfl, rfl⟩) fun obj s₁ h₁ => ?_
  obtain ⟨rfl, rfl⟩ := h₁
  have hS : (s.heap.push { cls := .type "list", data := .seq #[] }).get? s.heap.objs.size = some { cls := .type "list", data := .seq #[] } := Heap.get?_push_size _ rfl
  refine ⟨⟨_, hS, rfl⟩, F.args_list_init_2 _ _, ?_⟩
  show wpAny _ A.in1.in1 (do let old ← Builtin.List.listItems (.ref s.heap.objs.size); Builtin.List.listUpdate (.ref s.heap.objs.size) (fun _ => #[]); letGo old.toList.reverse; Builtin.List.listExtendWith (.ref s.heap.objs.size) (.ref I) .none) _ _ _
  refine wpAny_bind ?_
  unfold Builtin.List.listItems
  refine wpAny_bind (wpAny_seqItems hS rfl (wpAny_pure ?_))
  show wpAny _ A.in1.in1 (updateSeq s.heap.objs.size (fun _ => #[]) >>= fun _ => letGo (#[] : Array Value).toList.reverse >>= fun _ => Builtin.List.listExtendWith (.ref s.heap.objs.size) (.ref I) .none) _ _ _
  refine wpAny_bind (wpAny_updateSeq hS rfl ?_)
  have hS₂ := Heap.get?_update_self (Obj.mapSeq (fun _ => (#[] : Array Value))) hS rfl
  have oth : ∀ b o, b ≠ s.heap.objs.size → (s.heap.push { cls := .type "list", data := .seq #[] }).get? b = some o → ((s.heap.push { cls := .type "list", data := .seq #[] }).update s.heap.objs.size (Obj.mapSeq (fun _ => (#[] : Array Value)))).get? b = some o :=
    fun b o hb e => (Heap.get?_update_other _ _ (Ne.symm hb)).trans e
  refine wpAny_bind (wpAny_letGo ?_)
  have hst2 : St 0 { s with heap := (s.heap.push { cls := .type "list", data := .seq #[] }).update s.heap.objs.size (Obj.mapSeq (fun _ => (#[] : Array Value))) } :=
    W.frame 0 s _ s.toks hst (Nat.le_refl _) fun b hb o e => oth b o (fun h => hSf (h ▸ hb)) (Heap.get?_push_of_some _ e)
  refine wpAny_extend_walk (hn := hn) W hT h2 h3 hint _ .none _ hst2 hSf hI hS₂ fun s' acc' c' hm hS' hacc => ?_
  exact ⟨rfl, hQ s' acc' c' (Moved.trans W.gtrans ((Moved.refl W.grefl).then_heap (Nat.le_refl _) fun b o hb e => oth b o (fun h => hb (h ▸ List.mem_cons_self)) e) hm) hS' hacc⟩
end
end PySem
namespace L2
open PySem PySem.Spec PyProof.Rows RT
/-- list(reversed(x)), x a list or a tuple -/
def tListRev (K : PySem.W.Frag) (te : TE) : TE := fun σ H Q => te σ H fun v H1 => ∃ (a : Addr) (xs : List V), v = .ref a ∧ (SqL K H1 a xs ∨ SqT K H1 a xs) ∧ ∀ q, H1 q = none → Q (.ref q) (upd H1 q (.lst xs.reverse))
section
variable {X : Cx}
theorem pe_listRev {e : Expr} {te : TE} {p p2 pos pos2 : Pos} (hc : X.calm = true) (hg : Gl X "list") (hm : X.mg "list" = none) (hg2 : Gl X "reversed") (hm2 : X.mg "reversed" = none) (he : PE X e te)
    (hs : starEach [e] X.env = (false, eval e X.env) :: starEach [] X.env := by rfl)
    (hs2 : starEach [.Call (.Name "reversed" p2) [e] [] pos2] X.env = (false, eval (.Call (.Name "reversed" p2) [e] [] pos2) X.env) :: starEach [] X.env := by rfl) :
    PE X (.Call (.Name "list" p) [.Call (.Name "reversed" p2) [e] [] pos2] [] pos) (tListRev X.K te) := by
  refine ⟨fun pins s σ H Q I h => ?_⟩
  refine Call_ (ld_blt I hg hm boot_list (PyProof.Rows.callWith_type1 (args_cons (Call_ (ld_blt I hg2 hm2 PyProof.Rows.boot_reversed (PyProof.Rows.callWith_type1 (args_cons (thn (he.run pins s σ H _ I h) fun u s1 ⟨v, H1, I1, r1, q1⟩ => args_nil ?_) hs) hs rfl))) hs2) hs2 rfl))
  obtain ⟨a, xs, ev, hq, q⟩ := q1
  subst ev
  obtain rfl : u = Value.ref a := r1
  have hh := I1.ok.hd hc
  have fin : ∀ (its : List Value) (S : Addr) (s' : Shared) (acc : Array Value) (c : Nat), Vals xs its → xs.length ≤ sizeLine → s1.heap.objs.size ≤ S → (∀ b o, s1.heap.get? b = some o → s'.heap.get? b = some o) → s'.gens = s1.gens → s'.drawn = s1.drawn → s'.os = s1.os →
      s'.heap.get? S = some { cls := .type "list", dict := none, data := .seq acc c, slots := #[] } → ItemsOf (fun i v => its.toArray[its.toArray.size - 1 - i]? = some v) acc its.toArray.size → EP X pins σ Q (.ref S) s' := fun its S s' acc c rv hz hS k g1 g2 g3 e hi => by
    have es : s' = { s1 with heap := s'.heap, toks := s'.toks } := by
      obtain ⟨h', g', d', t', o'⟩ := s'
      simp only at g1 g2 g3
      subst g1; subst g2; subst g3
      rfl
    rw [es]
    exact ⟨.ref S, _, I1.laid (h' := s'.heap) (t' := s'.toks) k hS (show ObjOk X.prog X.w _ s'.heap _ (.lst xs.reverse) from ⟨by rw [List.length_reverse]; exact hz, acc.toList, c, vals_rev rv hi, by rw [Array.toArray_toList]; exact e⟩), rfl, q _ (I1.hok.fresh hS)⟩
  rcases hq with hq | hq
  · obtain ⟨its, rv, p', hz⟩ := I1.list hq
    have hl := p'.isList
    obtain ⟨ol, hol, _⟩ := id hl
    have hne : a ≠ s1.heap.objs.size := Nat.ne_of_lt (Heap.lt_size hol)
    have hn : its.toArray.size ≤ sizeLine := by rw [List.size_toArray, ← rv.length]; exact hz
    refine call_reversed_list hl (args_nil ?_)
    have k0 : ∀ b o, s1.heap.get? b = some o → (s1.heap.push (revObj a ((its.toArray.size : Int) - 1))).get? b = some o := fun b o e => Heap.get?_push_of_some _ e
    have e0 : ((its.toArray.size : Nat) : Int) - 1 - ((0 : Nat) : Int) = (its.toArray.size : Int) - 1 := by omega
    refine call_list_walk (T := "list_reverseiterator") (s := { s1 with heap := s1.heap.push (revObj a ((its.toArray.size : Int) - 1)) }) (Walks.listRev (prog := X.prog) (w := X.w) (A := X.A.in1.in1) hh s1.heap.objs.size a hne its.toArray).toS
      (fun i s st => Heap.IsRevIter.typeIs st.2.1) (by decide) (by decide) (fun E' Q' s2 st hq' => ?_) ⟨Nat.zero_le _, by rw [e0]; exact ⟨_, Heap.get?_push_size _ rfl, rfl, rfl⟩, hl.push _⟩ ?_ (by simp) (fun s' acc c hmv hS' hacc => ?_) hn
    · have hT : s2.TypeIs (.ref s1.heap.objs.size) "list_reverseiterator" := Heap.IsRevIter.typeIs st.2.1
      unfold Builtin.List.listLengthHint
      refine wpAny_bind (wpAny_specialOf hT nolen_lri ?_)
      show wpAny _ _ (specialOf (Value.ref s1.heap.objs.size) (Str.ofString "__length_hint__") >>= _) _ _ _
      refine wpAny_bind (wpAny_specialOf hT hint_lri ?_)
      generalize hid : ("list_reverseiterator.__length_hint__" : String) = id0
      wp_delta
      rw [show splitId id0 = some ("list_reverseiterator", "__length_hint__") from by subst hid; decide +kernel]
      subst hid
      refine wpAny_bind (wpAny_isInstance (b := true) hT (by rw [isSubtype_type]; kernel_rfl) ?_)
      exact wpAny_pure (hq' _ _ (Nat.le_refl _))
    · intro b hb
      have hsz : (s1.heap.push (revObj a ((its.toArray.size : Int) - 1))).objs.size = s1.heap.objs.size + 1 := by simp [Heap.push]
      show b < (s1.heap.push (revObj a ((its.toArray.size : Int) - 1))).objs.size
      simp only [List.mem_cons, List.not_mem_nil, or_false] at hb
      have := Heap.lt_size hol
      rw [hsz]
      rcases hb with rfl | rfl
      · exact Nat.lt_succ_self _
      · exact Nat.lt_succ_of_lt this
    · have hsz : (s1.heap.push (revObj a ((its.toArray.size : Int) - 1))).objs.size = s1.heap.objs.size + 1 := by simp [Heap.push]
      refine fin its _ s' acc c rv hz (by show s1.heap.objs.size ≤ (s1.heap.push (revObj a ((its.toArray.size : Int) - 1))).objs.size; omega) (fun b o e => ?_) hmv.gens hmv.drawn hmv.os hS' hacc
      refine hmv.heap b o (fun hm => ?_) (Heap.get?_push_of_some _ (k0 b o e))
      have := Heap.lt_size e
      simp only [List.mem_cons, List.not_mem_nil, or_false] at hm
      rcases hm with hm | hm
      · have hm : b = (s1.heap.push (revObj a ((its.toArray.size : Int) - 1))).objs.size := hm
        rw [hm, hsz] at this
        exact Nat.not_lt.mpr (Nat.le_succ _) this
      · rw [hm] at this
        exact Nat.lt_irrefl _ this
  · obtain ⟨its, rv, p', hz⟩ := I1.tuple hq
    have ht := p'
    obtain ⟨ol, hol, _⟩ := id ht
    have hne : a ≠ s1.heap.objs.size := Nat.ne_of_lt (Heap.lt_size hol)
    have hn : its.toArray.size ≤ sizeLine := by rw [List.size_toArray, ← rv.length]; exact hz
    have h63 := line63
    refine call_reversed_tup p' (fun A E Q k => len_tuple p' (by omega) k) (args_nil ?_)
    have k0 : ∀ b o, s1.heap.get? b = some o → (s1.heap.push (rtObj a ((its.toArray.size : Int) - 1))).get? b = some o := fun b o e => Heap.get?_push_of_some _ e
    have e0 : ((its.toArray.size : Nat) : Int) - 1 - ((0 : Nat) : Int) = (its.toArray.size : Int) - 1 := by omega
    have ht2 : IsTup (s1.heap.push (rtObj a ((its.toArray.size : Int) - 1))) a its.toArray := by
      obtain ⟨o, ho, r⟩ := ht
      exact ⟨o, k0 _ _ ho, r⟩
    refine call_list_walk (T := "reversed") (s := { s1 with heap := s1.heap.push (rtObj a ((its.toArray.size : Int) - 1)), toks := s1.toks + 1 + 1 }) (walks_rt (prog := X.prog) (w := X.w) (A := X.A.in1.in1) hh s1.heap.objs.size a hne its.toArray hn).toS
      (fun i s st => IsRt.typeIs st.2.1) (by decide) (by decide) (fun E' Q' s2 st hq' => ?_) ⟨Nat.zero_le _, by rw [e0]; exact ⟨_, Heap.get?_push_size _ rfl, rfl, rfl⟩, ht2⟩ ?_ (by simp) (fun s' acc c hmv hS' hacc => ?_) hn
    · obtain ⟨-, st1, st2⟩ := st
      rw [e0] at st1
      exact hint_rt st1 st2 hn hq'
    · intro b hb
      have hsz : (s1.heap.push (rtObj a ((its.toArray.size : Int) - 1))).objs.size = s1.heap.objs.size + 1 := by simp [Heap.push]
      show b < (s1.heap.push (rtObj a ((its.toArray.size : Int) - 1))).objs.size
      simp only [List.mem_cons, List.not_mem_nil, or_false] at hb
      have := Heap.lt_size hol
      rw [hsz]
      rcases hb with rfl | rfl
      · exact Nat.lt_succ_self _
      · exact Nat.lt_succ_of_lt this
    · have hsz : (s1.heap.push (rtObj a ((its.toArray.size : Int) - 1))).objs.size = s1.heap.objs.size + 1 := by simp [Heap.push]
      refine fin its _ s' acc c rv hz (by show s1.heap.objs.size ≤ (s1.heap.push (rtObj a ((its.toArray.size : Int) - 1))).objs.size; omega) (fun b o e => ?_) hmv.gens hmv.drawn hmv.os hS' hacc
      refine hmv.heap b o (fun hm => ?_) (Heap.get?_push_of_some _ (k0 b o e))
      have := Heap.lt_size e
      simp only [List.mem_cons, List.not_mem_nil, or_false] at hm
      rcases hm with hm | hm
      · have hm : b = (s1.heap.push (rtObj a ((its.toArray.size : Int) - 1))).objs.size := hm
        rw [hm, hsz] at this
        exact Nat.not_lt.mpr (Nat.le_succ _) this
      · rw [hm] at this
        exact Nat.lt_irrefl _ this
end
end L2

/-! Own, part J: cuts, calls of the text's defs, methods of lists -/
namespace Own
open PySem L2
section
variable {T : Tab} {k : Nat} {c : Fn} {z : Chk} {X : Cx}
/-! ### cuts -/
def rS (K : PySem.W.Frag) : V → Option Int → Option Int → Hp → VK → Prop := fun x lo hi H Q => rSlA K x lo hi H Q ∨ rSlL K x lo hi H Q
theorem Reps.cut {K : PySem.W.Frag} {H : Hp} {w : List W} {v : List V} {f : List Addr} (r : Reps K H w v f) (p : pureL w = true) (lo hi : Option Int) : Reps K H (cutW w lo hi) (cutV v lo hi) [] := by
  unfold cutW cutV
  rw [r.length]
  have a := r.drop_pure p (HT.sIx v.length 0 lo)
  exact a.take_pure (pureL_iff.mpr fun x hx => pureL_iff.mp p x (List.mem_of_mem_drop hx)) _
theorem cutW_all {xs : List W} {lo hi : Option Int} (h : HT.sIx xs.length 0 lo = 0 ∧ HT.sIx xs.length xs.length hi = xs.length) : cutW xs lo hi = xs := by
  unfold cutW
  rw [h.1, h.2]
  simp
theorem rS_of {K : PySem.W.Frag} {H : Hp} {Q : VK} {x w : W} {v : V} {f : List Addr} {lo hi : Option Int} (r : Rep K H x v f) (e : slW x lo hi = some w) (q : Yld K H w Q) : rS K v lo hi H Q := by
  unfold slW at e
  split at e
  · split at e
    · rename_i hp
      cases e
      cases r with
      | tup h rr =>
        have e0 := rr.own_pure hp
        subst e0
        refine .inl ⟨_, _, rfl, h.sq, fun hw => ?_, fun _ p hp' => q.tup (rr.cut hp lo hi) hp'⟩
        rw [← rr.length] at hw
        rw [cutW_all hw] at q
        exact q.same (.tup h rr)
    · cases e
  · split at e
    · rename_i hp
      cases e
      cases r with
      | lst h rr =>
        refine .inr ⟨_, _, rfl, .inl (.inl h), fun p hp' => q.lst (rr.cut hp lo hi) hp'⟩
    · cases e
  · split at e
    · rename_i hp
      cases e
      cases r with
      | flst h rr =>
        refine .inr ⟨_, _, rfl, h.sq, fun p hp' => q.lst (rr.cut hp lo hi) hp'⟩
    · cases e
  · cases e
theorem chkP_of {e : E} {o : Option Expr} (h : chkP z e o = true) : (e = .non ∧ o = none) ∨ ∃ x, o = some x ∧ e.isNon = false ∧ e.isLk = true ∧ chkE z e x = true := by
  cases o with
  | none =>
    have h : e.isNon = true := h
    cases e <;> first | exact .inl ⟨rfl, rfl⟩ | cases h
  | some x =>
    have h : (!e.isNon && (e.isLk && chkE z e x)) = true := h
    simp only [Bool.and_eq_true, Bool.not_eq_true'] at h
    exact .inr ⟨x, rfl, h.1, h.2.1, h.2.2⟩
theorem ok_part {e : E} {o : Option Expr} (D : SD T k c z X) (he : OkE T k c e) (h : chkP z e o = true) :
    ∃ t : TO, PO X o t ∧ ∀ σ H (Q : Option Int → Hp → Prop), (∃ S g, SR T.K H S σ g ∧ ∃ i, part e (lk c e S) = some i ∧ ∀ H', All H H' → Q i H') → t σ H Q := by
  rcases chkP_of h with ⟨rfl, rfl⟩ | ⟨x, rfl, h1, h2, h3⟩
  · refine ⟨_, po_none, fun σ H Q ⟨S, g, r, i, e, q⟩ => ?_⟩
    have e : some none = some i := e
    cases e
    exact q H Keep.refl
  · obtain ⟨a1, _⟩ := he z X D x h3
    refine ⟨_, po_some (a1 h2), fun σ H Q ⟨S, g, r, i, e, q⟩ => ?_⟩
    unfold part at e
    rw [h1, if_neg Bool.false_ne_true] at e
    split at e
    · rename_i n en
      cases e
      refine ⟨S, g, r, _, en, fun v H' f rp _ al => ?_⟩
      cases rp
      exact ⟨n, rfl, q H' al⟩
    · cases e
theorem ok_sl {a lo hi : E} (ha : OkE T k c a) (hl : OkE T k c lo) (hh : OkE T k c hi) : OkE T k c (.sl a lo hi) := by
  intro z X D x hx
  obtain ⟨x1, l1, h1', p, q, rfl, h1, h2, h3⟩ := inv_sl hx
  have ho : SlR X (rS T.K) := by rw [← D.K]; exact sl_tupA.or sl_list
  obtain ⟨tl, pl, il⟩ := ok_part D hl h2
  obtain ⟨th, ph, ih⟩ := ok_part D hh h3
  have sy : SY T X (if a.isLk = true then [] else a.md false) (.Subscript x1 (.Slice l1 h1' none p) q)
      (fun S => (if a.isLk = true then lift (lk c a S) S else ev c false a S).bind fun w S1 => (lift (part lo (lk c lo S1)) S1).bind fun l S2 => (lift (part hi (lk c hi S2)) S2).bind fun h S3 => lift (slW w l h) S3) := fun W0 tk => by
    refine imE (pe_slice ho (pk_of D ha h1 W0 tk) pl ph) fun σ H Q ⟨S, g, r, h⟩ => ?_
    refine ⟨S, g, r, h.bind.imp fun w S1 H1 g1 r1 go q2 v f rv => ?_⟩
    obtain ⟨_, _, q2⟩ := q2
    obtain ⟨l, el, q3⟩ := q2.lift
    obtain ⟨u, eu, q4⟩ := q3.lift
    obtain ⟨w', ew, yl⟩ := q4.lift0 r1
    refine il σ H1 _ ⟨S1, g1, r1, l, el, fun H2 al => ih σ H2 _ ⟨S1, g1, r1.all al, u, eu, fun H3 al2 => ?_⟩⟩
    exact rS_of (rv.all (al.trans al2)) ew fun v3 H4 f3 rp3 al3 nd fr => yl v3 H4 f3 rp3 ((al.trans al2).trans al3) nd fun a ha => ((al.trans al2).none_of (fr a ha)).elim id fun z => z.elim
  obtain ⟨g1, g2⟩ := okY (e := .sl a lo hi) D (fun _ _ => rfl) sy rfl rfl (fun S => by simp only [ev, Res.bind_assoc]) (fun S => by simp only [ev, Res.bind_assoc])
  exact ⟨fun hl => by simp [E.isLk] at hl, g1, g2, fun i hi => by cases hi⟩

/-! ### the slots handed to a call -/
theorem nodupB_of : ∀ {l : List Nat}, nodupB l = true → l.Nodup
  | [], _ => List.nodup_nil
  | x :: r, h => by
    simp only [nodupB, Bool.and_eq_true, Bool.not_eq_true', List.contains_eq_mem, decide_eq_false_iff_not] at h
    exact List.nodup_cons.mpr ⟨h.1, nodupB_of h.2⟩
theorem mem_ats : ∀ {as : List Ar} {j i : Nat}, as[j]? = some (.slot i) → i ∈ atsOf as
  | [], j, i, h => by simp at h
  | a :: r, 0, i, h => by simp at h; subst h; simp [atsOf]
  | .val _ :: r, j + 1, i, h => by simp only [atsOf]; exact mem_ats (j := j) (by simpa using h)
  | .slot _ :: r, j + 1, i, h => by simp only [atsOf]; exact List.mem_cons_of_mem _ (mem_ats (j := j) (by simpa using h))
theorem ats_inj : ∀ {as : List Ar} {j l i : Nat}, (atsOf as).Nodup → as[j]? = some (.slot i) → as[l]? = some (.slot i) → j = l
  | [], j, l, i, _, h, _ => by simp at h
  | a :: r, 0, 0, i, _, _, _ => rfl
  | a :: r, 0, l + 1, i, nd, h1, h2 => by
    simp at h1; subst h1
    simp only [atsOf, List.nodup_cons] at nd
    exact absurd (mem_ats (j := l) (by simpa using h2)) nd.1
  | a :: r, j + 1, 0, i, nd, h1, h2 => by
    simp at h2; subst h2
    simp only [atsOf, List.nodup_cons] at nd
    exact absurd (mem_ats (j := j) (by simpa using h1)) nd.1
  | .val _ :: r, j + 1, l + 1, i, nd, h1, h2 => congrArg _ (ats_inj (as := r) nd (by simpa using h1) (by simpa using h2))
  | .slot _ :: r, j + 1, l + 1, i, nd, h1, h2 => congrArg _ (ats_inj (as := r) (List.nodup_cons.mp nd).2 (by simpa using h1) (by simpa using h2))
theorem resolve_len : ∀ {as : List Ar} {S : SW} {ws : List W}, resolve as S = some ws → ws.length = as.length
  | [], S, ws, h => by simp only [resolve, Option.some.injEq] at h; subst h; rfl
  | .val w :: r, S, ws, h => by
    simp only [resolve, Option.map_eq_some_iff] at h
    obtain ⟨ws', h1, rfl⟩ := h
    simp [resolve_len h1]
  | .slot i :: r, S, ws, h => by
    simp only [resolve, Option.bind_eq_some_iff, Option.map_eq_some_iff] at h
    obtain ⟨w, _, ws', h1, rfl⟩ := h
    simp [resolve_len h1]
theorem resolve_get : ∀ {as : List Ar} {S : SW} {ws : List W} {j : Nat} {w : W}, resolve as S = some ws → ws[j]? = some w → as[j]? = some (.val w) ∨ ∃ i, as[j]? = some (.slot i) ∧ gt S i = some w
  | [], S, ws, j, w, h, e => by simp only [resolve, Option.some.injEq] at h; subst h; simp at e
  | .val u :: r, S, ws, j, w, h, e => by
    simp only [resolve, Option.map_eq_some_iff] at h
    obtain ⟨ws', h1, rfl⟩ := h
    cases j with
    | zero => simp at e; subst e; exact .inl rfl
    | succ j => simpa using resolve_get (j := j) h1 (by simpa using e)
  | .slot i :: r, S, ws, j, w, h, e => by
    simp only [resolve, Option.bind_eq_some_iff, Option.map_eq_some_iff] at h
    obtain ⟨u, h0, ws', h1, rfl⟩ := h
    cases j with
    | zero => simp at e; subst e; exact .inr ⟨i, rfl, h0⟩
    | succ j => simpa using resolve_get (j := j) h1 (by simpa using e)
theorem back_len : ∀ {as : List Ar} {ws : List W} {S : SW}, (Own.backTo as ws S).length = S.length
  | [], ws, S => by cases ws <;> rfl
  | .val _ :: r, [], S => rfl
  | .slot _ :: r, [], S => rfl
  | .val _ :: r, w :: ws, S => by simp only [Own.backTo]; exact back_len
  | .slot i :: r, w :: ws, S => by simp only [Own.backTo]; rw [back_len, List.length_set]
theorem back_ne : ∀ {as : List Ar} {ws : List W} {S : SW} {i : Nat}, (∀ j : Nat, as[j]? ≠ some (.slot i)) → gt (Own.backTo as ws S) i = gt S i
  | [], ws, S, i, _ => by cases ws <;> rfl
  | .val _ :: r, [], S, i, _ => rfl
  | .slot _ :: r, [], S, i, _ => rfl
  | .val _ :: r, w :: ws, S, i, h => by simp only [Own.backTo]; exact back_ne fun j e => h (j + 1) (by simpa using e)
  | .slot l :: r, w :: ws, S, i, h => by
    simp only [Own.backTo]
    rw [back_ne fun j e => h (j + 1) (by simpa using e), gt_set, if_neg]
    rintro ⟨e, _⟩
    exact h 0 (by simp [e])
theorem back_eq : ∀ {as : List Ar} {ws : List W} {S : SW} {i j : Nat}, (atsOf as).Nodup → as[j]? = some (.slot i) → ws.length = as.length → i < S.length → gt (Own.backTo as ws S) i = ws[j]?
  | [], ws, S, i, j, _, h, _, _ => by simp at h
  | a :: r, [], S, i, j, _, _, h, _ => by simp at h
  | .val _ :: r, w :: ws, S, i, 0, nd, h, _, _ => by simp at h
  | .slot l :: r, w :: ws, S, i, 0, nd, h, hl, hi => by
    simp at h; subst h
    simp only [Own.backTo]
    simp only [atsOf, List.nodup_cons] at nd
    rw [back_ne fun j e => nd.1 (mem_ats e), gt_set, if_pos ⟨rfl, hi⟩]
    rfl
  | .val _ :: r, w :: ws, S, i, j + 1, nd, h, hl, hi => by
    simp only [Own.backTo]
    rw [back_eq (as := r) (j := j) nd (by simpa using h) (by simpa using hl) hi]
    simp
  | .slot l :: r, w :: ws, S, i, j + 1, nd, h, hl, hi => by
    simp only [Own.backTo]
    rw [back_eq (as := r) (j := j) (List.nodup_cons.mp nd).2 (by simpa using h) (by simpa using hl) (by rw [List.length_set]; exact hi)]
    simp
def gcOf (as : List Ar) (fs g1 : Nat → List Addr) (j : Nat) : List Addr := match as[j]? with
  | some (.val _) => fs j | some (.slot i) => g1 i | none => []
def ixOf : List Ar → Nat → Option Nat
  | [], _ => none
  | .slot l :: r, i => if l = i then some 0 else (ixOf r i).map (· + 1)
  | .val _ :: r, i => (ixOf r i).map (· + 1)
theorem ix_some : ∀ {as : List Ar} {i j : Nat}, ixOf as i = some j → as[j]? = some (.slot i)
  | [], i, j, h => by simp [ixOf] at h
  | .slot l :: r, i, j, h => by
    simp only [ixOf] at h
    split at h
    · rename_i e; cases h; subst e; rfl
    · simp only [Option.map_eq_some_iff] at h
      obtain ⟨j', h1, rfl⟩ := h
      simpa using ix_some h1
  | .val _ :: r, i, j, h => by
    simp only [ixOf, Option.map_eq_some_iff] at h
    obtain ⟨j', h1, rfl⟩ := h
    simpa using ix_some h1
theorem ix_none : ∀ {as : List Ar} {i : Nat}, ixOf as i = none → ∀ j : Nat, as[j]? ≠ some (.slot i)
  | [], i, _, j => by simp
  | .slot l :: r, i, h, j => by
    simp only [ixOf] at h
    split at h
    · cases h
    · rename_i ne
      simp only [Option.map_eq_none_iff] at h
      cases j with
      | zero => simpa using ne
      | succ j => simpa using ix_none h j
  | .val _ :: r, i, h, j => by
    simp only [ixOf, Option.map_eq_none_iff] at h
    cases j with
    | zero => simp
    | succ j => simpa using ix_none h j
def gBack (as : List Ar) (g1 g' : Nat → List Addr) (i : Nat) : List Addr := match ixOf as i with
  | some j => g' j | none => g1 i

section
variable {K : PySem.W.Frag} {m : Nat → Prop} {σ : St} {H H1 H' : Hp} {S S1 : SW} {g g1 g' : Nat → List Addr} {as : List Ar} {vs : List V} {fs : Nat → List Addr} {ws ws' : List W}
theorem map_get {j : Nat} {w : W} : gt (ws.map some) j = some w ↔ ws[j]? = some w := by
  unfold gt
  rw [List.getElem?_map]
  cases ws[j]? <;> simp
theorem call_sr (r1 : SR K H1 S1 σ g1) (x : ArR K m σ H g as vs fs H1 g1) (nd : (atsOf as).Nodup) (e : resolve as S1 = some ws) : SR K H1 (ws.map some) (vs.map some) (gcOf as fs g1) where
  len := by rw [List.length_map, List.length_map, resolve_len e, x.len]
  rep := fun j w ej => by
    rw [map_get] at ej
    have hj : j < vs.length := by rw [← x.len, ← resolve_len e]; exact (List.getElem?_eq_some_iff.mp ej).1
    have ev : vs[j]? = some vs[j] := List.getElem?_eq_getElem hj
    refine ⟨vs[j], by rw [List.getElem?_map, ev]; rfl, ?_⟩
    unfold gcOf
    rcases resolve_get e ej with h | ⟨i, h, h2⟩
    · rw [h]; exact x.val j w _ h ev
    · rw [h]
      obtain ⟨v, h3, h4⟩ := r1.rep i w h2
      have := (x.at_ j i _ h ev).1
      rw [h3] at this
      have hv : v = vs[j] := by simpa using this
      rw [← hv]; exact h4
  emp := fun j ej => by
    unfold gcOf
    have : as[j]? = none := by
      cases h : as[j]? with
      | none => rfl
      | some a =>
        have hj : j < as.length := (List.getElem?_eq_some_iff.mp h).1
        rw [← resolve_len e] at hj
        rw [map_get.mpr (List.getElem?_eq_getElem hj)] at ej; cases ej
    rw [this]
  nd := fun j => by
    unfold gcOf
    split
    · exact x.nd j
    · exact r1.nd _
    · exact List.nodup_nil
  dj := fun i j a ha hj => by
    unfold gcOf at ha hj
    split at ha <;> split at hj <;> try (first | cases ha | cases hj)
    · exact x.dj i j a ha hj
    · exact (x.out i a ha _ hj).elim
    · exact (x.out j a hj _ ha).elim
    · rename_i l1 e1 _ l2 e2
      have := r1.dj l1 l2 a ha hj
      subst this
      exact ats_inj nd e1 e2
theorem gc_sub (go : Goes m H S g H1 S1 g1) (x : ArR K m σ H g as vs fs H1 g1) {a : Addr} (h : Ow any (gcOf as fs g1) a) : H a = none ∨ Ow m g a := by
  obtain ⟨j, _, h⟩ := h
  unfold gcOf at h
  split at h
  · exact x.sub j a h
  · rename_i i e
    have hj : j < vs.length := by rw [← x.len]; exact (List.getElem?_eq_some_iff.mp e).1
    exact go.sub i a (x.at_ j i _ e (List.getElem?_eq_getElem hj)).2 h
  · cases h
theorem gc_out (r1 : SR K H1 S1 σ g1) (x : ArR K m σ H g as vs fs H1 g1) {a : Addr} {i : Nat} (hi : ∀ j : Nat, as[j]? ≠ some (.slot i)) (ha : a ∈ g1 i) : ¬ Ow any (gcOf as fs g1) a := by
  rintro ⟨j, _, h⟩
  unfold gcOf at h
  split at h
  · exact x.out j a h i ha
  · rename_i l e
    have := r1.dj l i a h ha
    subst this
    exact hi j e
  · cases h
/-- behind the call -/
theorem back_sr (go : Goes m H S g H1 S1 g1) (r1 : SR K H1 S1 σ g1) (x : ArR K m σ H g as vs fs H1 g1) (nd : (atsOf as).Nodup) (e : resolve as S1 = some ws) (hl : ws'.length = as.length)
    (r' : SR K H' (ws'.map some) (vs.map some) g') (go' : Goes any H1 (ws.map some) (gcOf as fs g1) H' (ws'.map some) g') :
    SR K H' (Own.backTo as ws' S1) σ (gBack as g1 g') ∧ Goes m H S g H' (Own.backTo as ws' S1) (gBack as g1 g') := by
  have sc := call_sr r1 x nd e
  have slot_lt : ∀ {i j : Nat}, as[j]? = some (.slot i) → i < S1.length := fun {i j} h => by
    have hj : j < ws.length := by rw [resolve_len e]; exact (List.getElem?_eq_some_iff.mp h).1
    rcases resolve_get e (List.getElem?_eq_getElem hj) with q | ⟨i', q, q2⟩
    · rw [h] at q; cases q
    · rw [h] at q; cases q
      exact gt_lt q2
  have cross : ∀ {a : Addr} {i j : Nat}, a ∈ g' j → a ∈ g1 i → (∀ j : Nat, as[j]? ≠ some (.slot i)) → False := fun {a i j} h1 h2 h3 => by
    rcases go'.sub j a True.intro h1 with q | q
    · exact r1.trk h2 q
    · exact gc_out r1 x h3 h2 q
  refine ⟨⟨by rw [back_len]; exact r1.len, fun i w h => ?_, fun i h => ?_, fun i => ?_, fun i j a h1 h2 => ?_⟩, ⟨fun a o h n => ?_, fun i n => ?_, fun i a hi h => ?_⟩⟩
  · unfold gBack
    cases q : ixOf as i with
    | some j =>
      have qj := ix_some q
      rw [back_eq nd qj hl (slot_lt qj)] at h
      obtain ⟨v, h1, h2⟩ := r'.rep j w (map_get.mpr h)
      rw [List.getElem?_map] at h1
      cases hv : vs[j]? with
      | none => rw [hv] at h1; cases h1
      | some v' =>
        rw [hv] at h1
        have : v' = v := by simpa using h1
        subst this
        exact ⟨v', (x.at_ j i v' qj hv).1, h2⟩
    | none =>
      have qn := ix_none q
      rw [back_ne qn] at h
      obtain ⟨v, h1, h2⟩ := r1.rep i w h
      exact ⟨v, h1, h2.keep go'.keep sc.mut fun a ha => gc_out r1 x qn ha⟩
  · unfold gBack
    cases q : ixOf as i with
    | some j =>
      have qj := ix_some q
      rw [back_eq nd qj hl (slot_lt qj)] at h
      have hj : j < ws'.length := by rw [hl]; exact (List.getElem?_eq_some_iff.mp qj).1
      rw [List.getElem?_eq_getElem hj] at h; cases h
    | none =>
      rw [back_ne (ix_none q)] at h
      exact r1.emp i h
  · unfold gBack
    cases q : ixOf as i with
    | some j => exact r'.nd j
    | none => exact r1.nd i
  · unfold gBack at h1 h2
    cases q1 : ixOf as i with
    | some i' =>
      rw [q1] at h1
      cases q2 : ixOf as j with
      | some j' =>
        rw [q2] at h2
        have := r'.dj i' j' a h1 h2
        subst this
        have z := (ix_some q1).symm.trans (ix_some q2)
        simpa using z
      | none => rw [q2] at h2; exact (cross h1 h2 (ix_none q2)).elim
    | none =>
      rw [q1] at h1
      cases q2 : ixOf as j with
      | some j' => rw [q2] at h2; exact (cross h2 h1 (ix_none q1)).elim
      | none => rw [q2] at h2; exact r1.dj i j a h1 h2
  · refine go'.keep a o (go.keep a o h n) fun q => ?_
    rcases gc_sub go x q with z | z
    · rw [h] at z; cases z
    · exact n z
  · have qn : ∀ j : Nat, as[j]? ≠ some (.slot i) := fun j z => by
      have hj : j < vs.length := by rw [← x.len]; exact (List.getElem?_eq_some_iff.mp z).1
      exact n (x.at_ j i _ z (List.getElem?_eq_getElem hj)).2
    have qi : ixOf as i = none := by
      cases q : ixOf as i with
      | none => rfl
      | some j => exact absurd (ix_some q) (qn j)
    unfold gBack
    rw [back_ne qn, qi]
    exact go.same i n
  · unfold gBack at h
    cases q : ixOf as i with
    | some j =>
      rw [q] at h
      exact (go'.sub j a True.intro h).elim go.none (gc_sub go x)
    | none =>
      rw [q] at h
      exact go.sub i a hi h
theorem back_vl {w : W} {v : V} {f : List Addr} (go : Goes m H S g H1 S1 g1) (r1 : SR K H1 S1 σ g1) (x : ArR K m σ H g as vs fs H1 g1) (y : Vl K any H1 (gcOf as fs g1) w v f H' g') : Vl K m H g w v f H' (gBack as g1 g') where
  rep := y.rep
  nd := y.nd
  sub := fun a ha => (y.sub a ha).elim go.none (gc_sub go x)
  dj := fun a ha i h => by
    unfold gBack at h
    cases q : ixOf as i with
    | some j => rw [q] at h; exact y.dj a ha j h
    | none =>
      rw [q] at h
      rcases y.sub a ha with z | z
      · exact r1.trk h z
      · exact gc_out r1 x (ix_none q) h z
end

theorem ok_call {f : Str} {es : Es} (hs : OkEs T k c es) : OkE T k c (.call f es) := by
  intro z X D x hx
  obtain ⟨q, x1, xs, p, rfl, hg, hf, h1, hd⟩ := inv_call hx
  obtain ⟨fa, fd, ps, hm, hk, hb, hlen, F⟩ := (D.fns f hf).ex
  have F' : FnOk X.prog X.w X.K X.mg X.base (L2.CX X.prog X.w) k fa fd ps (spD T (c.call f) ps.length) := by rw [D.P, D.w, D.K, D.mg, D.base]; exact F
  obtain ⟨e1, r1, he1⟩ : ∃ e1 r1, es = .cons e1 r1 := by cases es with
    | nil => have := inv_nil h1; cases this
    | cons e r => exact ⟨e, r, rfl⟩
  have stars : (∀ (es : Es) (ys : List Expr), chkEs z es ys = true → (PySem.backTo p (starEach ys X.env)).any (·.1) = false) := by
    intro es
    induction es using Es.rec (motive_1 := fun _ => True) (motive_3 := fun _ => True) <;> try trivial
    · intro ys h; rw [inv_nil h]; rfl
    · rename_i ih
      intro ys h
      obtain ⟨y1, yr, rfl, h2, h3, h4⟩ := inv_cons h
      rw [star_of h4]
      show ((false, _) :: PySem.backTo p (starEach yr X.env)).any (·.1) = false
      rw [List.any_cons, ih yr h3]; rfl
  subst he1
  obtain ⟨y1, yr, hy, hy1, hy2, hy3⟩ := inv_cons h1
  cases hy
  have sv : SE T X (E.md false (.call f (.cons e1 r1))) (.Call (.Name f q) (x1 :: xs) [] p) fun S => (evA c (.cons e1 r1) S).bind fun as S1 => callR c f as S1 := fun W0 tk => by
    have ha := hs.ar z X D _ h1 W0 tk
    refine imE (pe_callS F' D.room (Chk.gl_of D hg) (by rw [D.mg]; exact hm) (by rw [D.K]; exact hk) (by rw [D.K]; exact hb) (fun σ => passAt tk σ) ha hd (star_of hy3) (stars _ _ hy2)) fun σ H Q ⟨S, g, r, h⟩ => ?_
    refine ⟨S, g, r, h.bindS.imp fun as S1 H1 g1 r1' go q2 vs fs x1' => ?_⟩
    obtain ⟨_, _, q2⟩ := q2
    unfold callR at q2
    split at q2
    · rename_i hn
      have nd := nodupB_of hn
      split at q2
      · rename_i ws er
        have sc := call_sr r1' x1' nd er
        split at q2
        · rename_i w ws' ec
          have hn' : ws.length = ps.length := hlen ws (by rw [ec]; exact fun z => nomatch z)
          have hv : vs.length = ps.length := by rw [← x1'.len, ← resolve_len er]; exact hn'
          refine ⟨hv, ws, _, hn', sc, ?_⟩
          rw [ec]
          intro v H' g' f' hl' r' go' y
          obtain ⟨b1, b2⟩ := back_sr go r1' x1' nd er (by rw [hl', ← hn', resolve_len er]) r' go'
          exact q2 H' _ b1 b2 v f' (back_vl go r1' x1' y)
        · rename_i ex ws' ec
          have hn' : ws.length = ps.length := hlen ws (by rw [ec]; exact fun z => nomatch z)
          have hv : vs.length = ps.length := by rw [← x1'.len, ← resolve_len er]; exact hn'
          refine ⟨hv, ws, _, hn', sc, ?_⟩
          rw [ec]
          intro cls d H' g' hl' hx' r' go'
          obtain ⟨b1, b2⟩ := back_sr go r1' x1' nd er (by rw [hl', ← hn', resolve_len er]) r' go'
          exact q2 cls d H' _ hx' b1 b2
        · exact q2.elim
      · exact q2.elim
    · exact q2.elim
  obtain ⟨g1, g2⟩ := okV (e := .call f (.cons e1 r1)) D (fun _ _ => rfl) sv rfl (by simp only [E.md]) (fun S => by simp only [ev, Res.bind_assoc]) (fun S => by simp only [ev, Res.bind_assoc])
  exact ⟨fun hl => by simp [E.isLk] at hl, g1, g2, fun i hi => by cases hi⟩
end
end Own

/-! Own, part K: methods of lists -/
namespace Own
open PySem L2
section
variable {K : PySem.W.Frag} {m : Nat → Prop} {σ : St} {H H1 H2 : Hp} {S S1 : SW} {g g1 : Nat → List Addr} {i : Nat} {w' : W} {v : V} {f : List Addr} {O : Addr → Prop}
theorem SR.change (r : SR K H S σ g) (hv : σ[i]? = some (some v)) (hi : i < S.length) (k : Keep O H H1) (mu : AllMut H O) (ho : ∀ j, j ≠ i → ∀ a ∈ g j, ¬ O a) (q : Rep K H1 w' v f) (nd : f.Nodup) (dj : ∀ a ∈ f, ∀ j, j ≠ i → a ∉ g j) :
    SR K H1 (S.set i (some w')) σ (put g i f) where
  len := by rw [List.length_set]; exact r.len
  rep := fun j x ej => by
    rw [gt_set] at ej
    by_cases h : i = j
    · subst h
      rw [if_pos ⟨rfl, hi⟩] at ej; cases ej
      exact ⟨v, hv, by rw [put_same]; exact q⟩
    · rw [if_neg (fun z => h z.1)] at ej
      obtain ⟨u, h1, h2⟩ := r.rep j x ej
      refine ⟨u, h1, ?_⟩
      rw [put_ne (fun z => h z.symm)]
      exact h2.keep k mu (ho j fun z => h z.symm)
  emp := fun j ej => by
    rw [gt_set] at ej
    by_cases h : i = j
    · subst h; rw [if_pos ⟨rfl, hi⟩] at ej; cases ej
    · rw [if_neg (fun z => h z.1)] at ej
      rw [put_ne (fun z => h z.symm)]; exact r.emp j ej
  nd := fun j => by
    by_cases h : j = i
    · subst h; rw [put_same]; exact nd
    · rw [put_ne h]; exact r.nd j
  dj := fun j l a ha hl => by
    by_cases h1 : j = i
    · by_cases h2 : l = i
      · rw [h1, h2]
      · rw [h1, put_same] at ha
        rw [put_ne h2] at hl
        exact absurd hl (dj a ha l h2)
    · by_cases h2 : l = i
      · rw [h2, put_same] at hl
        rw [put_ne h1] at ha
        exact absurd ha (dj a hl j h1)
      · rw [put_ne h1] at ha; rw [put_ne h2] at hl
        exact r.dj j l a ha hl
theorem Goes.change {x : Option W} (go : Goes m H S g H1 S1 g1) (mi : m i) (k : Keep O H1 H2) (hO : ∀ a, O a → a ∈ g1 i) (hf : ∀ a ∈ f, a ∈ g1 i ∨ H a = Option.none ∨ Ow m g a) : Goes m H S g H2 (S1.set i x) (put g1 i f) where
  keep := fun a o h n => k a o (go.keep a o h n) fun z => by
    rcases go.sub i a mi (hO a z) with q | q
    · rw [h] at q; cases q
    · exact n q
  same := fun j n => by
    have ne : j ≠ i := fun z => n (z ▸ mi)
    rw [gt_set, if_neg (fun z => ne z.1.symm), put_ne ne]
    exact go.same j n
  sub := fun j a hj h => by
    by_cases ne : j = i
    · rw [ne, put_same] at h
      rcases hf a h with q | q
      · exact go.sub i a mi q
      · exact q
    · rw [put_ne ne] at h
      exact go.sub j a hj h
/-- a list in a slot -/
theorem SR.lst {xs : List W} (r : SR K H S σ g) (e : gt S i = some (.lst xs)) : ∃ l vs f0, σ[i]? = some (some (.ref l)) ∧ H l = some (.lst vs) ∧ Reps K H xs vs f0 ∧ g i = l :: f0 ∧ l ∉ f0 ∧ f0.Nodup := by
  obtain ⟨v, h1, h2⟩ := r.rep i _ e
  have nd := r.nd i
  cases hg : g i with
  | nil => rw [hg] at h2; cases h2
  | cons l f0 =>
    rw [hg] at h2 nd
    cases h2 with
    | lst h rr => exact ⟨l, _, f0, h1, h, rr, rfl, (List.nodup_cons.mp nd).1, (List.nodup_cons.mp nd).2⟩
end
section
variable {T : Tab} {k : Nat} {c : Fn} {z : Chk} {X : Cx}
theorem tyL {K : PySem.W.Frag} {H : Hp} {l : Addr} {vs : List V} (h : H l = some (.lst vs)) : tyV K "list" (.ref l) H := .inl ⟨rfl, _, .inl (.inl h)⟩
theorem keep1 {H : Hp} {l : Addr} {o : HO} : Keep (fun a => a = l) H (upd H l o) := Keep.at rfl
theorem mut1 {H : Hp} {l : Addr} {vs : List V} (h : H l = some (.lst vs)) : AllMut H fun a => a = l := fun a e => ⟨.lst vs, by subst e; exact h, rfl⟩
theorem ok_pop {i : Nat} : OkE T k c (.pop i) := by
  intro z X D x hx
  obtain ⟨y, q, p, r, rfl, hv, hl⟩ := inv_pop hx
  refine ⟨fun hl => by simp [E.isLk] at hl, ?_, ?_, fun i hi => by cases hi⟩
  · intro W0 tk
    refine imE (pe_bm0 PySem.F.plainAttrs_list PySem.F.slot_list_pop PySem.F.type_list_pop mt_pop (pe_slot D hv) (hline := hl)) fun σ H Q ⟨S, g, r, h⟩ => ?_
    simp only [ev, E.md] at h
    split at h
    · rename_i xs e
      split at h
      · rename_i yy ey
        rw [if_neg Bool.false_ne_true] at h
        obtain ⟨l, vs, f0, h1, h2, h3, h4, h5, h6⟩ := r.lst e
        have hlt : xs.length - 1 < xs.length := (List.getElem?_eq_some_iff.mp ey).1
        obtain ⟨f1, f2, ef, s1, s2⟩ := h3.split (xs.length - 1)
        have ed : xs.drop (xs.length - 1) = [yy] := by
          rw [List.drop_eq_getElem_cons hlt, (List.getElem?_eq_some_iff.mp ey).2, List.drop_eq_nil_of_le (by omega)]
        rw [ed] at s2
        have et : xs.take (xs.length - 1) = xs.dropLast := by rw [List.dropLast_eq_take]
        have et2 : vs.take (xs.length - 1) = vs.dropLast := by rw [List.dropLast_eq_take, h3.length]
        rw [et, et2] at s1
        subst ef
        cases hdv : vs.drop (xs.length - 1) with
        | nil => rw [hdv] at s2; cases s2
        | cons yv rest =>
          rw [hdv] at s2
          cases s2 with
          | cons ry rn =>
            cases rn
            rename_i f2
            have hyv : vs[vs.length - 1]? = some yv := by
              rw [← h3.length]
              have := congrArg (·[0]?) hdv
              simpa [List.getElem?_drop] using this
            refine ⟨.ref l, h1, tyL h2, l, vs, yv, rfl, rfl, h2, hyv, ?_⟩
            have nd1 := List.nodup_append.mp h6
            have hf2 : f2 ++ [] = f2 := List.append_nil _
            rw [hf2] at h4 h5 h6 nd1
            have sub1 : ∀ a ∈ f1, a ∈ g i := fun a ha => by rw [h4]; exact List.mem_cons_of_mem _ (List.mem_append_left _ ha)
            have sub2 : ∀ a ∈ f2, a ∈ g i := fun a ha => by rw [h4]; exact List.mem_cons_of_mem _ (List.mem_append_right _ ha)
            have lin : l ∈ g i := by rw [h4]; exact List.mem_cons_self
            have n1 : ∀ a ∈ f1, ¬ a = l := fun a ha e => h5 (e ▸ List.mem_append_left _ ha)
            have n2 : ∀ a ∈ f2, ¬ a = l := fun a ha e => h5 (e ▸ List.mem_append_right _ ha)
            refine h (upd H l (.lst vs.dropLast)) (put g i (l :: f1)) (r.change h1 (gt_lt e) keep1 (mut1 h2) (fun j hj a ha ea => hj (r.dj j i a ha (ea ▸ lin))) (.lst upd_same (s1.keep keep1 (mut1 h2) n1)) (List.nodup_cons.mpr ⟨fun z => h5 (List.mem_append_left _ z), nd1.1⟩) fun a ha j hj hg => ?_)
              (Goes.refl.change (by simp) keep1 (fun a ea => ea ▸ lin) fun a ha => .inl ?_) yv f2 ⟨ry.keep keep1 (mut1 h2) n2, nd1.2.1, fun a ha => .inr ⟨i, by simp, sub2 a ha⟩, fun a ha j hg => ?_⟩
            · rcases List.mem_cons.mp ha with ea | ha
              · exact hj (r.dj j i a hg (ea ▸ lin))
              · exact hj (r.dj j i a hg (sub1 a ha))
            · rcases List.mem_cons.mp ha with ea | ha
              · exact ea ▸ lin
              · exact sub1 a ha
            · by_cases ne : j = i
              · rw [ne, put_same] at hg
                rcases List.mem_cons.mp hg with ea | hg
                · exact n2 a ha ea
                · exact nd1.2.2 a hg a ha rfl
              · rw [put_ne ne] at hg
                exact ne (r.dj j i a hg (sub2 a ha))
      · exact h.elim
    · exact h.elim
  · exact noT fun S => by
      simp only [ev, if_true]
      split
      · split <;> rfl
      · rfl
theorem ok_rev {i : Nat} : OkE T k c (.rev i) := by
  intro z X D x hx
  obtain ⟨y, q, p, r, rfl, hv, hl⟩ := inv_rev hx
  refine ⟨fun hl => by simp [E.isLk] at hl, ?_, ?_, fun i hi => by cases hi⟩
  · intro W0 tk
    refine imE (pe_bm0 PySem.F.plainAttrs_list PySem.F.slot_list_reverse PySem.F.type_list_reverse mt_reverse (pe_slot D hv) (hline := hl)) fun σ H Q ⟨S, g, r, h⟩ => ?_
    simp only [ev, E.md] at h
    split at h
    · rename_i xs e
      rw [if_neg Bool.false_ne_true] at h
      split at h
      · rename_i hp
        obtain ⟨l, vs, f0, h1, h2, h3, h4, h5, h6⟩ := r.lst e
        have := h3.own_pure hp
        subst this
        have lin : l ∈ g i := by rw [h4]; exact List.mem_cons_self
        have rv : ∀ {w : List W} {v : List V}, Reps T.K H w v [] → Reps T.K H w.reverse v.reverse [] := by
          intro w
          induction w with
          | nil => intro v h; cases h; exact .nil
          | cons a w ih =>
            intro v h
            generalize e0 : ([] : List Addr) = f00 at h
            cases h with
            | cons ra rb =>
              obtain ⟨rfl, rfl⟩ : _ = [] ∧ _ = [] := by simpa using e0.symm
              rw [List.reverse_cons, List.reverse_cons]
              exact Reps.append (ih rb) (.cons ra .nil)
        refine ⟨.ref l, h1, tyL h2, l, vs, rfl, rfl, h2, ?_⟩
        refine h (upd H l (.lst vs.reverse)) (put g i [l]) (r.change h1 (gt_lt e) keep1 (mut1 h2) (fun j hj a ha ea => hj (r.dj j i a ha (ea ▸ lin))) (.lst upd_same ((rv h3).keep keep1 (mut1 h2) fun _ z => nomatch z)) (by simp) fun a ha j hj hg => ?_)
          (Goes.refl.change (by simp) keep1 (fun a ea => ea ▸ lin) fun a ha => .inl ?_) .non [] (Vl.pure .non rfl)
        · have ea : a = l := by simpa using ha
          exact hj (r.dj j i a hg (ea ▸ lin))
        · have ea : a = l := by simpa using ha
          exact ea ▸ lin
      · exact h.elim
    · exact h.elim
  · exact noT fun S => by
      simp only [ev, if_true]
      split <;> rfl
theorem isL_of {o : Option W} (h : isL o = true) : ∃ xs, o = some (.lst xs) := by
  unfold isL at h
  split at h
  · exact ⟨_, rfl⟩
  · cases h
theorem ok_app {i : Nat} {e : E} (he : OkE T k c e) : OkE T k c (.app i e) := by
  intro z X D x hx
  obtain ⟨y, q, p, w, r, rfl, hv, hl, h1⟩ := inv_app hx
  obtain ⟨_, e2, _, _⟩ := he z X D w h1
  have st := isStar_chk h1
  refine ⟨fun hl => by simp [E.isLk] at hl, ?_, noT fun S => by simp only [ev, if_true], fun i hi => by cases hi⟩
  intro W0 tk
  have i1 : ∀ j, j ∈ e.md false → j ∈ E.md false (.app i e) := fun j q => by simp only [E.md]; exact List.mem_cons_of_mem _ q
  refine imE (pe_bm PySem.F.plainAttrs_list PySem.F.slot_list_append PySem.F.type_list_append mt_append (pe_slot D hv) (pa_cons (e2 W0 tk) pa_nil (star_of st)) (hline := hl) (hs := star_of st) (hfew := by rw [star_of st]; rfl) (hplain := rfl)) fun σ H Q ⟨S, g, r, h⟩ => ?_
  simp only [ev] at h
  rw [if_neg Bool.false_ne_true] at h
  split at h
  · rename_i hL
    obtain ⟨xs0, e0⟩ := isL_of hL
    obtain ⟨l, vs0, _, a1, a2, _⟩ := r.lst e0
    refine ⟨.ref l, a1, tyL a2, S, g, r, (h.bindS.mono i1).imp fun w S1 H1 g1 r1 go q v f x1 => ?_⟩
    obtain ⟨go, _, q⟩ := q
    split at q
    · rename_i xs ex
      split at q
      · rename_i hz
        obtain ⟨l', vs, f0, b1, b2, b3, b4, b5, b6⟩ := r1.lst ex
        rw [a1] at b1
        have el : l = l' := by simpa using b1
        subst el
        have lin : l ∈ g1 i := by rw [b4]; exact List.mem_cons_self
        have f0in : ∀ a ∈ f0, a ∈ g1 i := fun a ha => by rw [b4]; exact List.mem_cons_of_mem _ ha
        have nf : ∀ a ∈ f, ¬ a = l := fun a ha e => x1.dj a ha i (e ▸ lin)
        have n0 : ∀ a ∈ f0, ¬ a = l := fun a ha e => b5 (e ▸ ha)
        have x1' := x1.mono i1
        refine ⟨l, vs, v, rfl, rfl, b2, by rw [← b3.length]; exact hz, ?_⟩
        have mi : i ∈ E.md false (.app i e) := by simp only [E.md]; exact List.mem_cons_self
        have rr : Reps T.K (upd H1 l (.lst (vs ++ [v]))) (xs ++ [w]) (vs ++ [v]) (f0 ++ (f ++ [])) := Reps.append (b3.keep keep1 (mut1 b2) n0) (.cons (x1.rep.keep keep1 (mut1 b2) nf) .nil)
        rw [List.append_nil] at rr
        refine q (upd H1 l (.lst (vs ++ [v]))) (put g1 i (l :: (f0 ++ f))) (r1.change a1 (gt_lt ex) keep1 (mut1 b2) (fun j hj a ha ea => hj (r1.dj j i a ha (ea ▸ lin))) (.lst upd_same rr) (List.nodup_cons.mpr ⟨fun z => (List.mem_append.mp z).elim b5 fun z => nf l z rfl, List.nodup_append.mpr ⟨b6, x1.nd, fun a ha b hb e => x1.dj b hb i (f0in b (e ▸ ha))⟩⟩) fun a ha j hj hg => ?_)
          (go.change mi keep1 (fun a ea => ea ▸ lin) fun a ha => ?_) .non [] (Vl.pure .non rfl)
        · rcases List.mem_cons.mp ha with ea | ha
          · exact hj (r1.dj j i a hg (ea ▸ lin))
          · rcases List.mem_append.mp ha with ha | ha
            · exact hj (r1.dj j i a hg (f0in a ha))
            · exact x1.dj a ha j hg
        · rcases List.mem_cons.mp ha with ea | ha
          · exact .inl (ea ▸ lin)
          · rcases List.mem_append.mp ha with ha | ha
            · exact .inl (f0in a ha)
            · exact .inr (x1'.sub a ha)
      · exact q.elim
    · exact q.elim
  · exact h.elim
theorem ok_ext {i : Nat} {e : E} (he : OkE T k c e) : OkE T k c (.ext i e) := by
  intro z X D x hx
  obtain ⟨y, q, p, w, r, rfl, hv, hl, h1⟩ := inv_ext hx
  have st := isStar_chk h1
  have ho : MtR X "list.extend" (fun x vs H Q => rExtend x vs H Q ∨ rExtendT T.K x vs H Q) := by
    have h1 : MtR X "list.extend" rExtend := mt_extend
    have h2 : MtR X "list.extend" (rExtendT T.K) := by rw [← D.K]; exact mt_extendT
    exact h1.or h2
  refine ⟨fun hl => by simp [E.isLk] at hl, ?_, noT fun S => by simp only [ev, if_true], fun i hi => by cases hi⟩
  intro W0 tk
  have i1 : ∀ j, j ∈ (if e.isLk = true then [] else e.md false) → j ∈ E.md false (.ext i e) := fun j q => by simp only [E.md]; exact List.mem_cons_of_mem _ q
  refine imE (pe_bm PySem.F.plainAttrs_list PySem.F.slot_list_extend PySem.F.type_list_extend ho (pe_slot D hv) (pa_cons (pk_of D he h1 W0 tk) pa_nil (star_of st)) (hline := hl) (hs := star_of st) (hfew := by rw [star_of st]; rfl) (hplain := rfl)) fun σ H Q ⟨S, g, r, h⟩ => ?_
  simp only [ev] at h
  rw [if_neg Bool.false_ne_true] at h
  split at h
  · rename_i hL
    obtain ⟨xs0, e0⟩ := isL_of hL
    obtain ⟨l, vs0, _, a1, a2, _⟩ := r.lst e0
    refine ⟨.ref l, a1, tyL a2, S, g, r, (h.bindS.mono i1).imp fun w S1 H1 g1 r1 go q v f x1 => ?_⟩
    obtain ⟨go, _, q⟩ := q
    split at q
    · rename_i xs ex
      obtain ⟨ys, ey, q⟩ := q.lift
      split at q
      · rename_i hz
        obtain ⟨l', vs, f0, b1, b2, b3, b4, b5, b6⟩ := r1.lst ex
        rw [a1] at b1
        have el : l = l' := by simpa using b1
        subst el
        have lin : l ∈ g1 i := by rw [b4]; exact List.mem_cons_self
        have f0in : ∀ a ∈ f0, a ∈ g1 i := fun a ha => by rw [b4]; exact List.mem_cons_of_mem _ ha
        have n0 : ∀ a ∈ f0, ¬ a = l := fun a ha e => b5 (e ▸ ha)
        have mi : i ∈ E.md false (.ext i e) := by simp only [E.md]; exact List.mem_cons_self
        have fin : ∀ {us : List V}, Reps T.K H1 ys us [] → Q .non (upd H1 l (.lst (vs ++ us))) := fun {us} ru => by
          have rr : Reps T.K (upd H1 l (.lst (vs ++ us))) (xs ++ ys) (vs ++ us) (f0 ++ []) := Reps.append (b3.keep keep1 (mut1 b2) n0) (ru.keep keep1 (mut1 b2) fun _ z => nomatch z)
          rw [List.append_nil] at rr
          refine q (upd H1 l (.lst (vs ++ us))) (put g1 i (l :: f0)) (r1.change a1 (gt_lt ex) keep1 (mut1 b2) (fun j hj a ha ea => hj (r1.dj j i a ha (ea ▸ lin))) (.lst upd_same rr) (List.nodup_cons.mpr ⟨b5, b6⟩) fun a ha j hj hg => ?_)
            (go.change mi keep1 (fun a ea => ea ▸ lin) fun a ha => ?_) .non [] (Vl.pure .non rfl)
          · rcases List.mem_cons.mp ha with ea | ha
            · exact hj (r1.dj j i a hg (ea ▸ lin))
            · exact hj (r1.dj j i a hg (f0in a ha))
          · rcases List.mem_cons.mp ha with ea | ha
            · exact .inl (ea ▸ lin)
            · exact .inl (f0in a ha)
        unfold extW at ey
        split at ey
        · split at ey
          · rename_i hp
            cases ey
            cases x1 with
            | tup ht rt =>
              have := rt.own_pure hp
              subst this
              exact .inr ⟨l, _, vs, _, rfl, rfl, b2, ht.sq, by rw [← b3.length, ← rt.length]; exact hz, fin rt⟩
          · cases ey
        · split at ey
          · rename_i hp
            cases ey
            cases x1 with
            | lst ht rt =>
              have := rt.own_pure hp
              subst this
              exact .inl ⟨l, _, vs, _, rfl, rfl, b2, ht, by rw [← b3.length, ← rt.length]; exact hz, fin rt⟩
          · cases ey
        · cases ey
      · exact q.elim
    · exact q.elim
  · exact h.elim
end

/-! ### from here on nobody changes it -/
/-- a thing that may be known for good -/
def Fzb (u : HO) : Prop := (∃ xs, u = .lst xs) ∨ ∃ kvs, u = .dK kvs
/-- the things at L are known for good -/
structure Fz (L : List Addr) (H H' : Hp) : Prop where
  off : ∀ b, b ∉ L → H' b = H b
  on : ∀ b, b ∈ L → ∀ u, H b = some u → ∃ o, H' b = some (.frz o u)
section
variable {X : Cx} {pins : List (Addr × Obj)} {σ : St} {H : Hp} {s : Shared}
theorem hok_frz {P : Program} {w : World} {h : Heap} {a : Addr} {u0 : HO} {o : Obj} (k : HOk P w H h) (e : H a = some u0) (fb : Fzb u0) (q : h.get? a = some o) : HOk P w (upd H a (.frz o u0)) h := fun b u z => by
  have no : ∀ {x}, H a = some x → Fzb x := fun h => by rw [e] at h; cases h; exact fb
  have st : ∀ {b u}, ObjOk P w H h b u → ObjOk P w (upd H a (.frz o u0)) h b u := fun x => x.stay (fun _ _ _ z => z) (fun c z => by
    rw [upd_ne (fun e' => by rw [e'] at z; rcases no z with ⟨_, w⟩ | ⟨_, w⟩ <;> cases w)]; exact z) fun c _ z => by
    rw [upd_ne (fun e' => by rw [e'] at z; rcases no z with ⟨_, w⟩ | ⟨_, w⟩ <;> cases w)]; exact z
  by_cases hb : b = a
  · subst hb
    rw [upd_same] at z
    cases z
    exact ⟨q, st (k b _ e)⟩
  · rw [upd_ne hb] at z
    exact st (k b u z)
theorem inv_frz1 {a : Addr} {u0 : HO} (I : Inv X pins σ H s) (e : H a = some u0) (fb : Fzb u0) : ∃ o, Inv X pins σ (upd H a (.frz o u0)) s := by
  obtain ⟨o, q⟩ : ∃ o, s.heap.get? a = some o := by
    have x := I.hok a _ e
    rcases fb with ⟨xs, rfl⟩ | ⟨kvs, rfl⟩
    · obtain ⟨_, its, n, _, q⟩ := x; exact ⟨_, q⟩
    · obtain ⟨_, _, vs, _, ob, es, ep, q, _⟩ := x; exact ⟨_, q⟩
  have no : ∀ {x}, H a = some x → Fzb x := fun h => by rw [e] at h; cases h; exact fb
  have ne : ∀ {b}, H b = none → b ≠ a := fun h z => by rw [z, e] at h; cases h
  refine ⟨_, I.ok, I.os, I.bare, ⟨I.base.keep, I.base.slot, fun b o h n hx => ?_, I.base.there, fun b ys h => ?_, fun b o u h => ?_, fun b ps h => ?_⟩, I.loc, I.cell, ?_, fun x c h => ?_, fun p hp => ?_, hok_frz I.hok e fb q, I.len⟩
  · have z := I.base.free b o h n hx
    rw [upd_ne (ne z)]; exact z
  · have z := I.base.tups b ys h
    rw [upd_ne (fun w => by rw [w] at z; rcases no z with ⟨_, w⟩ | ⟨_, w⟩ <;> cases w)]; exact z
  · have z := I.base.frzs b o u h
    rw [upd_ne (fun w => by rw [w] at z; rcases no z with ⟨_, w⟩ | ⟨_, w⟩ <;> cases w)]; exact z
  · obtain ⟨more, z⟩ := I.base.tbls b ps h
    exact ⟨more, by rw [upd_ne (fun w => by rw [w] at z; rcases no z with ⟨_, w⟩ | ⟨_, w⟩ <;> cases w)]; exact z⟩
  · rw [upd_ne (ne I.free)]; exact I.free
  · rw [upd_ne (ne (I.freeC x c h))]; exact I.freeC x c h
  · obtain ⟨h1, h2, h3⟩ := I.pin p hp
    exact ⟨h1, by rw [upd_ne (ne h2)]; exact h2, h3⟩
theorem inv_frz : ∀ (L : List Addr) (H : Hp), Inv X pins σ H s → L.Nodup → (∀ b ∈ L, ∃ u, H b = some u ∧ Fzb u) → ∃ H', Inv X pins σ H' s ∧ Fz L H H'
  | [], H, I, _, _ => ⟨H, I, fun _ _ => rfl, fun _ z => nomatch z⟩
  | a :: r, H, I, nd, hl => by
    obtain ⟨na, nr⟩ := List.nodup_cons.mp nd
    obtain ⟨u0, e, fb⟩ := hl a List.mem_cons_self
    obtain ⟨o, I1⟩ := inv_frz1 I e fb
    have nb : ∀ {b}, b ∈ r → b ≠ a := fun h z => na (z ▸ h)
    obtain ⟨H', I2, f⟩ := inv_frz r _ I1 nr fun b hb => by
      rw [upd_ne (nb hb)]; exact hl b (List.mem_cons_of_mem _ hb)
    refine ⟨H', I2, fun b hb => ?_, fun b hb u h => ?_⟩
    · rw [f.off b fun z => hb (List.mem_cons_of_mem _ z), upd_ne fun z => hb (by rw [z]; exact List.mem_cons_self)]
    · rcases List.mem_cons.mp hb with z | hb
      · subst z
        rw [e] at h; cases h
        exact ⟨o, by rw [f.off b na, upd_same]⟩
      · exact f.on b hb u (by rw [upd_ne (nb hb)]; exact h)
theorem pe_frz {e : Expr} {t : TE} (h : PE X e t) : PE X e fun σ H Q => t σ H fun v H1 => ∃ L : List Addr, L.Nodup ∧ (∀ b ∈ L, ∃ u, H1 b = some u ∧ Fzb u) ∧ ∀ H2, Fz L H1 H2 → Q v H2 :=
  ⟨fun pins s σ H Q I q => thn (h.run pins s σ H _ I q) fun u s' ⟨v, H1, I1, rv, L, nd, hl, z⟩ =>
    let ⟨H2, I2, f⟩ := inv_frz L H1 I1 nd hl
    ⟨v, H2, I2, rv, z H2 f⟩⟩
theorem pss_frz {l : List Stmt} {t : TS} (h : PSs X l t) : PSs X l fun D σ H => ∃ L : List Addr, L.Nodup ∧ (∀ b ∈ L, ∃ u, H b = some u ∧ Fzb u) ∧ ∀ H2, Fz L H H2 → t D σ H2 :=
  ⟨fun pins s σ H D I ⟨L, nd, hl, z⟩ => let ⟨H2, I2, f⟩ := inv_frz L H I nd hl
    h.run pins s σ H2 D I2 (z H2 f)⟩
end
section
variable {K : PySem.W.Frag} {H H' : Hp}
mutual
theorem Rep.lsts : ∀ {w w' : W} {v : V} {f : List Addr}, Rep K H w v f → frzW w = some w' → ∀ a ∈ f, ∃ u, H a = some u ∧ Fzb u
  | _, _, _, _, .non, _, _, h => nomatch h
  | _, _, _, _, .bl b, _, _, h => nomatch h
  | _, _, _, _, .int i, _, _, h => nomatch h
  | _, _, _, _, .str x, _, _, h => nomatch h
  | _, _, _, _, .tup _ r, e, a, h => by
    simp only [frzW, Option.map_eq_some_iff] at e
    obtain ⟨_, e, _⟩ := e
    exact Reps.lsts r e a h
  | _, _, _, _, .flst _ r, e, a, h => by
    simp only [frzW, Option.map_eq_some_iff] at e
    obtain ⟨_, e, _⟩ := e
    exact Reps.lsts r e a h
  | _, _, _, _, .lst q r, e, a, h => by
    simp only [frzW, Option.map_eq_some_iff] at e
    obtain ⟨_, e, _⟩ := e
    exact (List.mem_cons.mp h).elim (fun z => ⟨_, z ▸ q, .inl ⟨_, rfl⟩⟩) fun z => Reps.lsts r e a z
  | _, _, _, _, .dict q _ r, e, a, h => by
    simp only [frzW, Option.map_eq_some_iff] at e
    obtain ⟨_, e, _⟩ := e
    exact (List.mem_cons.mp h).elim (fun z => ⟨_, z ▸ q, .inr ⟨_, rfl⟩⟩) fun z => Reps.lsts r e a z
  | _, _, _, _, .fdict _ _ r, e, a, h => by
    simp only [frzW, Option.map_eq_some_iff] at e
    obtain ⟨_, e, _⟩ := e
    exact Reps.lsts r e a h
theorem Reps.lsts : ∀ {w w' : List W} {v : List V} {f : List Addr}, Reps K H w v f → frzL w = some w' → ∀ a ∈ f, ∃ u, H a = some u ∧ Fzb u
  | _, _, _, _, .nil, _, _, h => nomatch h
  | _, _, _, _, .cons r t, e, a, h => by
    simp only [frzL, Option.bind_eq_some_iff, Option.map_eq_some_iff] at e
    obtain ⟨_, e1, _, e2, _⟩ := e
    exact (List.mem_append.mp h).elim (fun z => Rep.lsts r e1 a z) fun z => Reps.lsts t e2 a z
end
mutual
theorem Rep.frz {L : List Addr} (fz : Fz L H H') (hl : ∀ b ∈ L, ∃ u, H b = some u ∧ Fzb u) : ∀ {w w' : W} {v : V} {f : List Addr}, Rep K H w v f → (∀ a ∈ f, a ∈ L) → frzW w = some w' → Rep K H' w' v []
  | _, _, _, _, .non, _, e => by cases e; exact .non
  | _, _, _, _, .bl b, _, e => by cases e; exact .bl b
  | _, _, _, _, .int i, _, e => by cases e; exact .int i
  | _, _, _, _, .str x, _, e => by cases e; exact .str x
  | _, _, _, _, .tup h r, s, e => by
    simp only [frzW, Option.map_eq_some_iff] at e
    obtain ⟨_, e, rfl⟩ := e
    refine .tup ?_ (Reps.frz fz hl r s e)
    rcases h with h | h
    · exact .inl (by rw [fz.off _ fun z => by obtain ⟨u, q, fb⟩ := hl _ z; rw [h] at q; cases q; rcases fb with ⟨_, w⟩ | ⟨_, w⟩ <;> cases w]; exact h)
    · exact .inr h
  | _, _, _, _, .flst h r, s, e => by
    simp only [frzW, Option.map_eq_some_iff] at e
    obtain ⟨_, e, rfl⟩ := e
    refine .flst ?_ (Reps.frz fz hl r s e)
    rcases h with ⟨o, h⟩ | h
    · exact .inl ⟨o, by rw [fz.off _ fun z => by obtain ⟨u, q, fb⟩ := hl _ z; rw [h] at q; cases q; rcases fb with ⟨_, w⟩ | ⟨_, w⟩ <;> cases w]; exact h⟩
    · exact .inr h
  | _, _, _, _, .lst h r, s, e => by
    simp only [frzW, Option.map_eq_some_iff] at e
    obtain ⟨_, e, rfl⟩ := e
    exact .flst (.inl (fz.on _ (s _ List.mem_cons_self) _ h)) (Reps.frz fz hl r (fun a ha => s a (List.mem_cons_of_mem _ ha)) e)
  | _, _, _, _, .dict h hk r, s, e => by
    simp only [frzW, Option.map_eq_some_iff] at e
    obtain ⟨_, e, rfl⟩ := e
    exact .fdict (fz.on _ (s _ List.mem_cons_self) _ h) hk (Reps.frz fz hl r (fun a ha => s a (List.mem_cons_of_mem _ ha)) e)
  | _, _, _, _, .fdict h hk r, s, e => by
    simp only [frzW, Option.map_eq_some_iff] at e
    obtain ⟨_, e, rfl⟩ := e
    obtain ⟨o, h⟩ := h
    exact .fdict ⟨o, by rw [fz.off _ fun z => by obtain ⟨u, q, fb⟩ := hl _ z; rw [h] at q; cases q; rcases fb with ⟨_, w⟩ | ⟨_, w⟩ <;> cases w]; exact h⟩ hk (Reps.frz fz hl r s e)
theorem Reps.frz {L : List Addr} (fz : Fz L H H') (hl : ∀ b ∈ L, ∃ u, H b = some u ∧ Fzb u) : ∀ {w w' : List W} {v : List V} {f : List Addr}, Reps K H w v f → (∀ a ∈ f, a ∈ L) → frzL w = some w' → Reps K H' w' v []
  | _, _, _, _, .nil, _, e => by cases e; exact .nil
  | _, _, _, _, .cons r t, s, e => by
    simp only [frzL, Option.bind_eq_some_iff, Option.map_eq_some_iff] at e
    obtain ⟨_, e1, _, e2, rfl⟩ := e
    exact .cons (f := []) (g := []) (Rep.frz fz hl r (fun a ha => s a (List.mem_append_left _ ha)) e1) (Reps.frz fz hl t (fun a ha => s a (List.mem_append_right _ ha)) e2)
end
mutual
theorem frzW_pure : ∀ {w u : W}, frzW w = some u → u.pure = true
  | .non, u, e => by cases e; rfl
  | .bl b, u, e => by cases e; rfl
  | .int i, u, e => by cases e; rfl
  | .str x, u, e => by cases e; rfl
  | .tup xs, u, e => by
    simp only [frzW, Option.map_eq_some_iff] at e
    obtain ⟨_, e, rfl⟩ := e
    simp only [W.pure]; exact frzL_pure e
  | .flst xs, u, e => by
    simp only [frzW, Option.map_eq_some_iff] at e
    obtain ⟨_, e, rfl⟩ := e
    simp only [W.pure]; exact frzL_pure e
  | .lst xs, u, e => by
    simp only [frzW, Option.map_eq_some_iff] at e
    obtain ⟨_, e, rfl⟩ := e
    simp only [W.pure]; exact frzL_pure e
  | .dict _ xs, u, e => by
    simp only [frzW, Option.map_eq_some_iff] at e
    obtain ⟨_, e, rfl⟩ := e
    simp only [W.pure]; exact frzL_pure e
  | .fdict _ xs, u, e => by
    simp only [frzW, Option.map_eq_some_iff] at e
    obtain ⟨_, e, rfl⟩ := e
    simp only [W.pure]; exact frzL_pure e
  | .ins _ _, u, e => by cases e
theorem frzL_pure : ∀ {w u : List W}, frzL w = some u → pureL u = true
  | [], u, e => by cases e; rfl
  | x :: r, u, e => by
    simp only [frzL, Option.bind_eq_some_iff, Option.map_eq_some_iff] at e
    obtain ⟨_, e1, _, e2, rfl⟩ := e
    simp only [pureL, Bool.and_eq_true]
    exact ⟨frzW_pure e1, frzL_pure e2⟩
end
end
section
variable {T : Tab} {k : Nat} {c : Fn}
theorem ok_frz {e : E} (he : OkE T k c e) : OkE T k c (.frz e) := by
  intro z X D x hx
  have hx : chkE z e x = true := by
    unfold chkE at hx
    simp only [Bool.and_eq_true] at hx
    exact hx.2
  obtain ⟨_, h1, h2, _⟩ := he z X D x hx
  have sv : SE T X (e.md false) x fun S => (ev c false e S).bind fun w S1 => (lift (frzW w) S1).bind fun u S2 => .ok u S2 := fun W0 tk => by
    refine imE (pe_frz (h1 W0 tk)) fun σ H Q ⟨S, g, r, h⟩ => ?_
    refine ⟨S, g, r, h.bindS.imp fun w S1 H1 g1 r1 go q v f x1 => ?_⟩
    obtain ⟨go', _, q⟩ := q
    obtain ⟨u, e1, q⟩ := q.lift
    refine ⟨f, x1.nd, x1.rep.lsts e1, fun H2 fz => ?_⟩
    have mu : AllMut H1 (· ∈ f) := fun a ha => x1.rep.mut a ha
    have kp : Keep (· ∈ f) H1 H2 := fun a o h n => by rw [fz.off a n]; exact h
    have r2 : SR T.K H2 S1 σ g1 := ⟨r1.len, fun i w h => by
      obtain ⟨v, a1, a2⟩ := r1.rep i w h
      exact ⟨v, a1, a2.keep kp mu fun a ha z => x1.dj a z i ha⟩, r1.emp, r1.nd, r1.dj⟩
    have go2 : Goes (· ∈ e.md false) H S g H2 S1 g1 := ⟨fun a o h n => by
      have z := go'.keep a o h n
      exact kp a o z fun hf => by
        rcases x1.sub a hf with y | y
        · rw [h] at y; cases y
        · exact n y, go'.same, go'.sub⟩
    have rf := x1.rep.frz fz (fun a ha => x1.rep.lsts e1 a ha) (fun a ha => ha) e1
    exact q H2 g1 r2 go2 v [] (Vl.pure rf (frzW_pure e1))
  exact ⟨fun hl => by simp [E.isLk] at hl, by simpa only [ev, E.md, Bool.false_eq_true, if_false] using sv, fun W0 tk => imT (h2 W0 tk) fun σ H Q ⟨S, g, r, h⟩ => by simp only [ev] at h; exact h.elim, fun i hi => by cases hi⟩
end
end Own

/-! Own, part L: targets, what is walked -/
namespace Own
open PySem L2
section
variable {T : Tab} {k : Nat} {c : Fn} {z : Chk} {X : Cx}

/-! ### targets: pure values alone -/
theorem SR.assign0 {K : PySem.W.Frag} {H : Hp} {S : SW} {σ : St} {g : Nat → List Addr} {i : Nat} {w : W} {v : V} (r : SR K H S σ g) (q : Rep K H w v []) : SR K H (S.set i (some w)) (σ.set i (some v)) (put g i []) := by
  by_cases hi : i < σ.length
  · exact r.assign q List.nodup_nil (fun _ z => nomatch z) hi
  · have e1 : σ.set i (some v) = σ := List.set_eq_of_length_le (Nat.le_of_not_lt hi)
    have e2 : S.set i (some w) = S := List.set_eq_of_length_le (by rw [r.len]; exact Nat.le_of_not_lt hi)
    have e3 : put g i [] = g := by
      funext j
      by_cases h : j = i
      · subst h
        rw [put_same]
        refine (r.emp j ?_).symm
        unfold gt
        rw [List.getElem?_eq_none (by rw [r.len]; exact Nat.le_of_not_lt hi)]; rfl
      · exact put_ne h
    rw [e1, e2, e3]; exact r
/-- behind a target -/
structure TgOk (is : List Nat) (σ : St) (S : SW) (g : Nat → List Addr) (σ' : St) (S' : SW) (g' : Nat → List Addr) : Prop where
  sl : ∀ j, j ∉ is → σ'[j]? = σ[j]?
  st : ∀ j, j ∉ is → gt S' j = gt S j ∧ g' j = g j
  gs : ∀ j a, a ∈ g' j → a ∈ g j
  len : σ'.length = σ.length
def tTg (T : Tab) (tg : Tg) : TG := fun v σ H Q => ∃ S g w, SR T.K H S σ g ∧ Rep T.K H w v [] ∧ ∃ S', setTg tg w S = some S' ∧ ∀ σ' g', SR T.K H S' σ' g' → TgOk tg.slots σ S g σ' S' g' → Q σ' H
def tTgs (T : Tab) (is : List Nat) : TGs := fun vs σ H Q => ∃ S g ws, SR T.K H S σ g ∧ Reps T.K H ws vs [] ∧ ∃ S', setMany is ws S = some S' ∧ ∀ σ' g', SR T.K H S' σ' g' → TgOk is σ S g σ' S' g' → Q σ' H
theorem TgOk.one {i : Nat} {σ : St} {S : SW} {g : Nat → List Addr} {w : W} {v : V} : TgOk [i] σ S g (σ.set i (some v)) (S.set i (some w)) (put g i []) where
  sl := fun j h => List.getElem?_set_ne fun e => h (by simp [e])
  st := fun j h => by
    have ne : j ≠ i := fun e => h (by simp [e])
    exact ⟨by rw [gt_set, if_neg fun z => ne z.1.symm], put_ne ne⟩
  gs := fun j a h => by
    by_cases e : j = i
    · rw [e, put_same] at h; cases h
    · rwa [put_ne e] at h
  len := List.length_set
theorem Chk.loc_of {i : Nat} {y : Str} (D : SD T k c z X) (h : z.loc i y = true) : X.N[i]? = some y ∧ Loc X.env.scope y ∧ (X.fn y = true ∨ X.env.scope.names.lookup y = some .local) := by
  unfold Chk.loc at h
  simp only [Bool.and_eq_true, decide_eq_true_eq] at h
  obtain ⟨h1, h2⟩ := h
  rw [D.N]
  refine ⟨h1, ?_⟩
  rw [D.sc]
  split at h2
  · rename_i q; exact ⟨.inl q, .inr q⟩
  · rename_i q; exact ⟨.inr q, .inl (D.fn y h2)⟩
  · cases h2
theorem pg_slot {i : Nat} {y : Str} {p : Pos} (D : SD T k c z X) (h : z.loc i y = true) : PG X (.Name y p) (gName i) := by
  obtain ⟨h1, h2, h3⟩ := Chk.loc_of D h
  exact pg_name (by rw [D.N]; exact D.nd) h1 h2 h3
theorem imG {X : Cx} {e : Expr} {t t' : TG} (h : PG X e t) (i : ∀ v σ H Q, t' v σ H Q → t v σ H Q) : PG X e t' := ⟨fun pins s σ H v u Q I r q => h.run pins s σ H v u Q I r (i v σ H Q q)⟩
theorem imGs {X : Cx} {e : List Expr} {t t' : TGs} (h : PGs X e t) (i : ∀ v σ H Q, t' v σ H Q → t v σ H Q) : PGs X e t' := ⟨fun pins s σ H v u Q I r q => h.run pins s σ H v u Q I r (i v σ H Q q)⟩
theorem inv_tgs {i : Nat} {is : List Nat} {xs : List Expr} (h : chkTgs z (i :: is) xs = true) : ∃ y p r, xs = .Name y p :: r ∧ z.loc i y = true ∧ chkTgs z is r = true := by
  cases xs with
  | nil => simp only [chkTgs, Bool.false_eq_true] at h
  | cons x r =>
    cases x <;> simp only [chkTgs, Bool.false_eq_true, Bool.and_eq_true] at h
    exact ⟨_, _, _, rfl, h.1, h.2⟩
theorem ok_tgs (D : SD T k c z X) : ∀ (is : List Nat) (xs : List Expr), chkTgs z is xs = true → PGs X xs (tTgs T is) ∧ (assignEach xs X.env).length = is.length ∧ (assignEach xs X.env).findIdx? (·.1) = none
  | [], xs, h => by
    cases xs with
    | cons x r => simp only [chkTgs, Bool.false_eq_true] at h
    | nil =>
      refine ⟨⟨fun pins s σ H vs us Q I r ⟨S, g, ws, sr, rr, S', e, q⟩ => ?_⟩, rfl, rfl⟩
      cases ws with
      | cons w ws => simp only [setMany, reduceCtorEq] at e
      | nil =>
        cases rr
        cases r
        have e : some S = some S' := e
        cases e
        exact (pgs_nil (X := X)).run pins s σ H [] [] Q I .nil ⟨rfl, q σ g sr ⟨fun _ _ => rfl, fun _ _ => ⟨rfl, rfl⟩, fun _ _ h => h, rfl⟩⟩
  | i :: is, xs, h => by
    obtain ⟨y, p, r, rfl, h1, h2⟩ := inv_tgs h
    obtain ⟨a1, a2, a3⟩ := ok_tgs D is r h2
    refine ⟨imGs (pgs_cons (pg_slot D h1) a1) fun vs σ H Q ⟨S, g, ws, sr, rr, S', e, q⟩ => ?_, ?_, ?_⟩
    · cases ws with
      | nil => simp only [setMany, reduceCtorEq] at e
      | cons w ws =>
        simp only [setMany] at e
        generalize e0 : ([] : List Addr) = f00 at rr
        cases rr with
        | cons ra rb =>
          obtain ⟨rfl, rfl⟩ : _ = [] ∧ _ = [] := by simpa using e0.symm
          refine ⟨_, _, rfl, _, _, ws, sr.assign0 (i := i) ra, rb, S', e, fun σ' g' sr' ok => q σ' g' sr' ?_⟩
          have one := TgOk.one (i := i) (σ := σ) (S := S) (g := g) (w := w) (v := ‹V›)
          refine ⟨fun j hj => ?_, fun j hj => ?_, fun j a ha => one.gs j a (ok.gs j a ha), ok.len.trans one.len⟩
          · rw [ok.sl j fun z => hj (List.mem_cons_of_mem _ z)]
            exact one.sl j fun z => hj (by rw [List.mem_singleton.mp z]; exact List.mem_cons_self)
          · have s1 := ok.st j fun z => hj (List.mem_cons_of_mem _ z)
            have s2 := one.st j fun z => hj (by rw [List.mem_singleton.mp z]; exact List.mem_cons_self)
            exact ⟨s1.1.trans s2.1, s1.2.trans s2.2⟩
    · show (assignEach r X.env).length + 1 = is.length + 1
      rw [a2]
    · show List.findIdx? (·.1) ((false, _) :: assignEach r X.env) = none
      rw [List.findIdx?_cons, if_neg (by simp), a3]; rfl
theorem ok_tg (D : SD T k c z X) {tg : Tg} {t : Expr} (h : chkTg z tg t = true) : PG X t (tTg T tg) := by
  cases tg with
  | one i =>
    cases t <;> simp only [chkTg, Bool.false_eq_true] at h
    refine imG (pg_slot D h) fun v σ H Q ⟨S, g, w, sr, rp, S', e, q⟩ => ?_
    have e : some (S.set i (some w)) = some S' := e
    cases e
    exact q _ _ (sr.assign0 rp) TgOk.one
  | many is =>
    cases t <;> simp only [chkTg, Bool.false_eq_true] at h
    rename_i xs kk p
    obtain ⟨a1, a2, a3⟩ := ok_tgs D is xs h
    refine imG (pg_tup D.calm a1 a2 a3) fun v σ H Q ⟨S, g, w, sr, rp, S', e, q⟩ => ?_
    cases w <;> simp only [setTg, reduceCtorEq] at e
    rename_i ws
    split at e
    · rename_i hl
      cases rp with
      | tup ht rr =>
        refine ⟨_, _, rfl, by rw [D.K]; exact ht.sq, by rw [← rr.length]; simpa using hl, S, g, ws, sr, rr, S', e, q⟩
    · cases e

/-! ### what is walked -/
structure Walk (K : PySem.W.Frag) (J : L2.It) (ws : List W) (P : Hp → Prop) (B : List Addr) : Prop where
  item : ∀ i H w, P H → ws[i]? = some w → J.go i H ∧ ∀ x H', J.yld i H x H' → All H H' ∧ Rep K H' w x []
  stop : ∀ i H, P H → ws.length ≤ i → J.stop i H
  keep : ∀ H H' O, P H → Keep O H H' → AllMut H O → (∀ a ∈ B, ¬ O a) → P H'
def tI (T : Tab) (W0 : WX) (m : Nat → Prop) (mb : List Nat) (d : SW → Res (List W)) : TI := fun σ H R => ∃ S g, SR T.K H S σ g ∧ Post T W0 m σ H S g (d S) fun ws _ H' g' => ∀ (J : L2.It) P B, Walk T.K J ws P B → P H' → (∀ a ∈ B, H' a ≠ none ∧ ∀ j, a ∈ g' j → j ∉ mb) → R J H'
theorem imI {X : Cx} {tg e : Expr} {t t' : TI} (h : PI X tg e t) (i : ∀ σ H R, t' σ H R → t σ H R) : PI X tg e t' := ⟨fun pins s σ H R I q => h.run pins s σ H R I (i σ H R q)⟩
/-- over a list, a tuple whose items are told -/
def ItlX (K : PySem.W.Frag) (a : Addr) (vs : List V) : L2.It := ⟨fun i H => ∃ x, SqL K H a vs ∧ vs[i]? = some x, fun i H x H' => H' = H ∧ vs[i]? = some x, fun i H => SqL K H a vs ∧ vs.length ≤ i⟩
def IttX (K : PySem.W.Frag) (a : Addr) (vs : List V) : L2.It := ⟨fun i H => ∃ x, SqT K H a vs ∧ vs[i]? = some x, fun i H x H' => H' = H ∧ vs[i]? = some x, fun i H => SqT K H a vs ∧ vs.length ≤ i⟩
theorem turn_imp {P : Program} {w : World} {K : PySem.W.Frag} {tg : Expr} {J J' : L2.It} {fp : List Addr} {it : Addr} {tn : Nat → Heap → Prop} (t : Turn P w K tg J fp it tn) (g : ∀ i H, J'.go i H → J.go i H) (y : ∀ i H x H', J'.go i H → J.yld i H x H' → J'.yld i H x H') (s : ∀ i H, J'.stop i H → J.stop i H) : Turn P w K tg J' fp it tn where
  mem := t.mem
  obj := t.obj
  keep := t.keep
  item := fun X h1 h2 h3 h4 i pins s' σ H E I f st go => wpAny_mono (t.item X h1 h2 h3 h4 i pins s' σ H E I f st (g i H go)) (fun r s1 ⟨u, e, q⟩ => ⟨u, e, wpAny_mono q (fun _ s2 ⟨x, H', I', r', y', rest⟩ => ⟨x, H', I', r', y i H x H' go y', rest⟩) fun _ _ z => z⟩) fun _ _ z => z
  done := fun X h1 h2 h3 h4 i pins s' σ H E I f st go => t.done X h1 h2 h3 h4 i pins s' σ H E I f st (s i H go)
  self := t.self
theorem turn_lx {P : Program} {w : World} {K : PySem.W.Frag} {tg : Expr} {a it : Addr} {vs : List V} : Turn P w K tg (ItlX K a vs) [it] it (fun i h => h.IsListIter it a i) :=
  turn_imp (turn_list a it) (fun i H ⟨x, h1, h2⟩ => ⟨vs, x, h1, h2⟩) (fun i H x H' ⟨x', h1, h2⟩ ⟨e, y⟩ => ⟨e, y vs h1⟩) fun i H ⟨h1, h2⟩ => ⟨vs, h1, h2⟩
theorem turn_tx {P : Program} {w : World} {K : PySem.W.Frag} {tg : Expr} {a it : Addr} {vs : List V} : Turn P w K tg (IttX K a vs) [it] it (fun i h => h.IsTupleIter it a i) :=
  turn_imp (turn_tuple a it) (fun i H ⟨x, h1, h2⟩ => ⟨vs, x, h1, h2⟩) (fun i H x H' ⟨x', h1, h2⟩ ⟨e, y⟩ => ⟨e, y vs h1⟩) fun i H ⟨h1, h2⟩ => ⟨vs, h1, h2⟩
/-- a list or a tuple -/
def iSeq (K : PySem.W.Frag) (tl : TE) : TI := fun σ H R => tl σ H fun x H1 => ∃ a, x = .ref a ∧ ((∃ xs, SqL K H1 a xs ∧ R (ItlX K a xs) H1) ∨ (∃ xs, SqT K H1 a xs ∧ R (IttX K a xs) H1))
theorem pi_seq {tg l : Expr} {tl : TE} (hl : PE X l tl) : PI X tg l (iSeq X.K tl) := by
  refine ⟨fun pins s σ H R I h => ?_⟩
  refine thn (hl.run pins s σ H _ I h) fun v s1 ⟨x, H1, I1, r1, q1⟩ => ?_
  obtain ⟨a, e, ⟨xs, hq, q⟩ | ⟨xs, hq, q⟩⟩ := q1
  · subst e
    cases r1
    obtain ⟨its, rv, p, hz⟩ := I1.list hq
    refine wpAny_pyIter_list p.isList ?_
    refine ⟨s1.heap.objs.size, [s1.heap.objs.size], _, _, H1, rfl, I1.kept (t' := s1.toks) fun b o e => Heap.get?_push_of_some _ e, turn_lx, ⟨_, Heap.get?_push_size _ rfl, rfl, rfl⟩, fun b hb => ?_, q⟩
    have e : b = s1.heap.objs.size := by simpa using hb
    subst e
    exact I1.fpOk (Nat.le_refl _) (I1.hok.fresh (Nat.le_refl _))
  · subst e
    cases r1
    obtain ⟨its, rv, p, hz⟩ := I1.tuple hq
    refine wpAny_pyIter_tuple (show s1.heap.IsTuple a its.toArray from p) ?_
    refine ⟨s1.heap.objs.size, [s1.heap.objs.size], _, _, H1, rfl, I1.kept (t' := s1.toks) fun b o e => Heap.get?_push_of_some _ e, turn_tx, ⟨_, Heap.get?_push_size _ rfl, rfl, rfl⟩, fun b hb => ?_, q⟩
    have e : b = s1.heap.objs.size := by simpa using hb
    subst e
    exact I1.fpOk (Nat.le_refl _) (I1.hok.fresh (Nat.le_refl _))
theorem FzL.inj {K : PySem.W.Frag} {H : Hp} {a : Addr} {xs : List V} (h : H a = some (.lst xs) ∨ FzL K H a xs) : True := True.intro
/-- an owned list -/
theorem walk_l {K : PySem.W.Frag} {a : Addr} {ws : List W} {vs : List V} : Walk K (ItlX K a vs) ws (fun H => (H a = some (.lst vs) ∨ FzL K H a vs) ∧ Reps K H ws vs []) [a] where
  item := fun i H w ⟨h1, h2⟩ e => by
    obtain ⟨y, g, hy, ry, hg⟩ := h2.get e
    have eg : g = [] := List.eq_nil_iff_forall_not_mem.mpr fun b hb => by simpa using hg b hb
    subst eg
    refine ⟨⟨y, h1.elim (fun z => .inl (.inl z)) fun z => z.sq, hy⟩, fun x H' ⟨e1, e2⟩ => ?_⟩
    subst e1
    rw [hy] at e2
    cases e2
    exact ⟨Keep.refl, ry⟩
  stop := fun i H ⟨h1, h2⟩ hi => ⟨h1.elim (fun z => .inl (.inl z)) fun z => z.sq, by rw [← h2.length]; exact hi⟩
  keep := fun H H' O ⟨h1, h2⟩ k mu hB => ⟨h1.imp (fun z => k a _ z (hB a (by simp))) fun z => z.keep k mu, h2.keep k mu fun _ z => nomatch z⟩
theorem walk_t {K : PySem.W.Frag} {a : Addr} {ws : List W} {vs : List V} : Walk K (IttX K a vs) ws (fun H => Tp K H a vs ∧ Reps K H ws vs []) [] where
  item := fun i H w ⟨h1, h2⟩ e => by
    obtain ⟨y, g, hy, ry, hg⟩ := h2.get e
    have eg : g = [] := List.eq_nil_iff_forall_not_mem.mpr fun b hb => by simpa using hg b hb
    subst eg
    refine ⟨⟨y, h1.sq, hy⟩, fun x H' ⟨e1, e2⟩ => ?_⟩
    subst e1
    rw [hy] at e2
    cases e2
    exact ⟨Keep.refl, ry⟩
  stop := fun i H ⟨h1, h2⟩ hi => ⟨h1.sq, by rw [← h2.length]; exact hi⟩
  keep := fun H H' O ⟨h1, h2⟩ k mu hB => ⟨h1.keep k mu, h2.keep k mu fun _ z => nomatch z⟩
theorem walk_r {K : PySem.W.Frag} {a b : Int} : Walk K (Itr a (b - a).toNat) (rngW a b) (fun _ => True) [] where
  item := fun i H w _ e => by
    unfold rngW at e
    rw [List.getElem?_map] at e
    simp only [Option.map_eq_some_iff] at e
    obtain ⟨j, e1, e2⟩ := e
    obtain ⟨h1, h2⟩ := List.getElem?_eq_some_iff.mp e1
    rw [List.length_range] at h1
    rw [List.getElem_range] at h2
    subst h2 e2
    refine ⟨h1, fun x H' ⟨e1, e2⟩ => ?_⟩
    subst e1 e2
    exact ⟨Keep.refl, .int _⟩
  stop := fun i H _ hi => by
    unfold rngW at hi
    rwa [List.length_map, List.length_range] at hi
  keep := fun _ _ _ _ _ _ _ => True.intro
end
end Own

/-! Own, part M: what is walked; comprehensions -/
namespace Own
open PySem L2
section
variable {K : PySem.W.Frag} {m : Nat → Prop} {σ : St} {H H1 H' : Hp} {S S1 : SW} {g g1 : Nat → List Addr}
theorem gt_wipe : ∀ (own : List Nat) (j : Nat), gt (wipeS S own) j = if j ∈ own then none else gt S j
  | [], j => by simp [wipeS]
  | v :: vs, j => by
    unfold wipeS
    rw [gt_set, gt_wipe vs j]
    by_cases h : v = j
    · subst h
      by_cases l : v < (wipeS S vs).length
      · rw [if_pos ⟨rfl, l⟩, if_pos (by simp)]
      · rw [if_neg fun z => l z.2, if_pos (by simp : v ∈ v :: vs)]
        split
        · rfl
        · rename_i nm
          have := gt_wipe vs v
          rw [if_neg nm] at this
          rw [← this]
          unfold gt
          rw [List.getElem?_eq_none (Nat.le_of_not_lt l)]; rfl
    · rw [if_neg fun z => h z.1]
      by_cases q : j ∈ vs
      · rw [if_pos q, if_pos (List.mem_cons_of_mem _ q)]
      · rw [if_neg q, if_neg fun z => (List.mem_cons.mp z).elim (fun e => h e.symm) q]
theorem wipeS_length : ∀ own : List Nat, (wipeS S own).length = S.length
  | [] => rfl
  | v :: vs => by unfold wipeS; rw [List.length_set, wipeS_length vs]
theorem wipe_in {σ : St} {j : Nat} : ∀ {own : List Nat}, j ∈ own → j < σ.length → (wipe σ own)[j]? = some none
  | [], h, _ => by simp at h
  | v :: vs, h, l => by
    unfold wipe
    by_cases e : v = j
    · subst e
      exact List.getElem?_set_self (by rw [wipe_length]; exact l)
    · rw [List.getElem?_set_ne e]
      exact wipe_in ((List.mem_cons.mp h).elim (fun z => absurd z.symm e) id) l
theorem wipe_congr {σ σ2 : St} {own : List Nat} (hl : σ2.length = σ.length) (h : ∀ j, j ∉ own → σ2[j]? = σ[j]?) : wipe σ2 own = wipe σ own := by
  apply List.ext_getElem?
  intro j
  by_cases hj : j ∈ own
  · by_cases l : j < σ.length
    · rw [wipe_in hj l, wipe_in hj (by rw [hl]; exact l)]
    · rw [List.getElem?_eq_none (by rw [wipe_length, hl]; exact Nat.le_of_not_lt l), List.getElem?_eq_none (by rw [wipe_length]; exact Nat.le_of_not_lt l)]
  · rw [wipe_out hj, wipe_out hj, h j hj]
def gw (g : Nat → List Addr) (own : List Nat) (j : Nat) : List Addr := if j ∈ own then [] else g j
theorem gw_sub {own : List Nat} {j : Nat} {a : Addr} (h : a ∈ gw g own j) : a ∈ g j ∧ j ∉ own := by
  unfold gw at h
  split at h
  · cases h
  · rename_i n; exact ⟨h, n⟩
theorem SR.wipe (r : SR K H S σ g) (own : List Nat) : SR K H (wipeS S own) (L2.wipe σ own) (gw g own) where
  len := by rw [wipeS_length, wipe_length]; exact r.len
  rep := fun j w h => by
    rw [gt_wipe] at h
    split at h
    · cases h
    · rename_i n
      obtain ⟨v, h1, h2⟩ := r.rep j w h
      refine ⟨v, by rw [wipe_out n]; exact h1, ?_⟩
      unfold gw
      rw [if_neg n]; exact h2
  emp := fun j h => by
    unfold gw
    split
    · rfl
    · rename_i n
      rw [gt_wipe, if_neg n] at h
      exact r.emp j h
  nd := fun j => by
    unfold gw
    split
    · exact List.nodup_nil
    · exact r.nd j
  dj := fun i j a h1 h2 => r.dj i j a (gw_sub h1).1 (gw_sub h2).1
theorem SR.keep {O : Addr → Prop} (r : SR K H S σ g) (k : Keep O H H') (mu : AllMut H O) (ho : ∀ j a, a ∈ g j → ¬ O a) : SR K H' S σ g :=
  ⟨r.len, fun i w e => let ⟨v, h1, h2⟩ := r.rep i w e; ⟨v, h1, h2.keep k mu (ho i)⟩, r.emp, r.nd, r.dj⟩
theorem Goes.wipe (own : List Nat) (h : ∀ j, j ∈ own → m j) : Goes m H S g H (wipeS S own) (gw g own) where
  keep := Keep.refl
  same := fun j n => by
    have no : j ∉ own := fun z => n (h j z)
    unfold gw
    rw [gt_wipe, if_neg no, if_neg no]
    exact ⟨rfl, rfl⟩
  sub := fun j a hj ha => .inr ⟨j, hj, (gw_sub ha).1⟩
theorem gt_unwipe {S0 : SW} (hl : S0.length = S.length) : ∀ (own : List Nat) (j : Nat), gt (unwipe S0 S own) j = if j ∈ own then gt S0 j else gt S j
  | [], j => by simp [unwipe]
  | v :: vs, j => by
    have len : ∀ vs : List Nat, (unwipe S0 S vs).length = S.length := by
      intro vs
      induction vs with
      | nil => rfl
      | cons a r ih => unfold unwipe; rw [List.length_set, ih]
    unfold unwipe
    rw [gt_set, gt_unwipe hl vs j]
    by_cases h : v = j
    · subst h
      by_cases l : v < (unwipe S0 S vs).length
      · rw [if_pos ⟨rfl, l⟩, if_pos (by simp)]
      · rw [if_neg fun z => l z.2, if_pos (by simp : v ∈ v :: vs)]
        rw [len] at l
        have e1 : gt S0 v = none := by unfold gt; rw [List.getElem?_eq_none (by rw [hl]; exact Nat.le_of_not_lt l)]; rfl
        have e2 : gt S v = none := by unfold gt; rw [List.getElem?_eq_none (Nat.le_of_not_lt l)]; rfl
        rw [e1, e2]; split <;> rfl
    · rw [if_neg fun z => h z.1]
      by_cases q : j ∈ vs
      · rw [if_pos q, if_pos (List.mem_cons_of_mem _ q)]
      · rw [if_neg q, if_neg fun z => (List.mem_cons.mp z).elim (fun e => h e.symm) q]
theorem unwipe_length {S0 : SW} : ∀ own : List Nat, (unwipe S0 S own).length = S.length
  | [] => rfl
  | v :: vs => by unfold unwipe; rw [List.length_set, unwipe_length vs]

/-- what a comprehension carries along: the walked thing, the new list -/
structure Car (K : PySem.W.Frag) (P : Hp → Prop) (B : List Addr) (D : Addr) (acc : List W) (accV : List V) (f : List Addr) (m : Nat → Prop) (H : Hp) (g : Nat → List Addr) : Prop where
  p : P H
  b : ∀ a ∈ B, H a ≠ none ∧ ∀ j, m j → a ∉ g j
  nB : D ∉ B
  hD : H D = some (.lst accV)
  rp : Reps K H acc accV f
  nd : (D :: f).Nodup
  dj : ∀ a ∈ D :: f, ∀ j, a ∉ g j
variable {P : Hp → Prop} {B : List Addr} {D : Addr} {acc ws : List W} {accV : List V} {f : List Addr} {J : L2.It}
theorem Car.trk (c : Car K P B D acc accV f m H g) : ∀ a ∈ D :: f, H a ≠ none := fun a ha => by
  rcases List.mem_cons.mp ha with e | ha
  · rw [e, c.hD]; exact fun z => nomatch z
  · exact c.rp.trk ha
theorem Car.step (c : Car K P B D acc accV f m H g) (wk : Walk K J ws P B) (r : SR K H S σ g) (go : Goes m H S g H' S1 g1) : Car K P B D acc accV f m H' g1 where
  p := wk.keep H H' (Ow m g) c.p go.keep r.mut fun a ha ⟨j, hj, z⟩ => (c.b a ha).2 j hj z
  b := fun a ha => by
    refine ⟨fun z => ?_, fun j hj z => ?_⟩
    · rcases go.keep.none_of z with q | ⟨j, hj, q⟩
      · exact (c.b a ha).1 q
      · exact (c.b a ha).2 j hj q
    · rcases go.sub j a hj z with q | ⟨i, hi, q⟩
      · exact (c.b a ha).1 q
      · exact (c.b a ha).2 i hi q
  nB := c.nB
  hD := go.keep D _ c.hD fun ⟨j, _, z⟩ => c.dj D List.mem_cons_self j z
  rp := c.rp.keep go.keep r.mut fun a ha ⟨j, _, z⟩ => c.dj a (List.mem_cons_of_mem _ ha) j z
  nd := c.nd
  dj := dj_step r go c.trk c.dj
end

section
variable {T : Tab} {k : Nat} {c : Fn} {z : Chk} {X : Cx}
theorem walk_f {K : PySem.W.Frag} {a : Addr} {ws : List W} {vs : List V} : Walk K (ItlX K a vs) ws (fun H => FzL K H a vs ∧ Reps K H ws vs []) [] where
  item := fun i H w ⟨h1, h2⟩ e => walk_l.item i H w ⟨.inr h1, h2⟩ e
  stop := fun i H ⟨h1, h2⟩ hi => walk_l.stop i H ⟨.inr h1, h2⟩ hi
  keep := fun H H' O ⟨h1, h2⟩ k mu hB => ⟨h1.keep k mu, h2.keep k mu fun _ z => nomatch z⟩
def OkIt (T : Tab) (k : Nat) (c : Fn) (it : It) : Prop := ∀ (z : Chk) (X : Cx), SD T k c z X → ∀ x tg mb, chkIt z it x = true → ∀ W0, Takes X W0 → PI X tg x (tI T W0 (· ∈ it.md) mb (evIt c mb it))
theorem itemsW_of {w : W} {ws : List W} (h : itemsW w = some ws) : seqW w = some ws ∧ pureL ws = true := by
  unfold itemsW at h
  simp only [Option.bind_eq_some_iff] at h
  obtain ⟨xs, h1, h2⟩ := h
  split at h2
  · rename_i hp; cases h2; exact ⟨h1, hp⟩
  · cases h2
/-- from a value to its walk -/
theorem seq_walk {K : PySem.W.Frag} {H : Hp} {w : W} {v : V} {f : List Addr} {ws : List W} {R : L2.It → Hp → Prop} {g : Nat → List Addr} {mb : List Nat} (rp : Rep K H w v f) (e : itemsW w = some ws)
    (hf : ∀ xs, w = .lst xs → ∀ a ∈ f, ∀ j, a ∈ g j → j ∉ mb)
    (h : ∀ (J : L2.It) P B, Walk K J ws P B → P H → (∀ a ∈ B, H a ≠ none ∧ ∀ j, a ∈ g j → j ∉ mb) → R J H) : ∃ a, v = .ref a ∧ ((∃ xs, SqL K H a xs ∧ R (ItlX K a xs) H) ∨ (∃ xs, SqT K H a xs ∧ R (IttX K a xs) H)) := by
  obtain ⟨e1, e2⟩ := itemsW_of e
  cases rp with
  | tup ht rr =>
    simp only [seqW, Option.some.injEq] at e1
    subst e1
    have := rr.own_pure e2
    subst this
    exact ⟨_, rfl, .inr ⟨_, ht.sq, h _ _ _ walk_t ⟨ht, rr⟩ fun _ z => nomatch z⟩⟩
  | flst ht rr =>
    simp only [seqW, Option.some.injEq] at e1
    subst e1
    have := rr.own_pure e2
    subst this
    exact ⟨_, rfl, .inl ⟨_, ht.sq, h _ _ _ walk_f ⟨ht, rr⟩ fun _ z => nomatch z⟩⟩
  | lst ht rr =>
    simp only [seqW, Option.some.injEq] at e1
    subst e1
    have := rr.own_pure e2
    subst this
    refine ⟨_, rfl, .inl ⟨_, .inl (.inl ht), h _ _ _ walk_l ⟨.inl ht, rr⟩ fun b hb => ?_⟩⟩
    have eb := List.mem_singleton.mp hb
    subst eb
    exact ⟨(by rw [ht]; exact fun z => nomatch z), fun j hj => hf _ rfl b (by simp) j hj⟩
  | _ => simp [seqW] at e1
theorem okIt_seq {e : E} (he : OkE T k c e) : OkIt T k c (.seq e) := by
  intro z X D x tg mb hx W0 tk
  have hx : chkE z e x = true := by simpa only [chkIt] using hx
  obtain ⟨a1, a2, _, _⟩ := he z X D x hx
  have ps : ∀ {tl : TE}, PE X x tl → PI X tg x (iSeq T.K tl) := fun h => by rw [← D.K]; exact pi_seq h
  by_cases la : e.isLk = true
  · refine imI (ps (a1 la)) fun σ H R ⟨S, g, r, h⟩ => ?_
    simp only [evIt, la, if_true, Bool.not_true, Bool.false_or] at h
    obtain ⟨w, ew, h⟩ := h.lift
    refine ⟨S, g, r, w, ew, fun v H1 f rp sb al => ?_⟩
    by_cases hc : (w.pure || aloof e.us mb) = true
    · rw [if_pos hc] at h
      have hit : ∃ ws, itemsW w = some ws := by
        cases q : itemsW w with
        | none => rw [q] at h; exact h.elim
        | some ws => exact ⟨ws, rfl⟩
      obtain ⟨ws, ei⟩ := hit
      rw [ei] at h
      refine seq_walk (g := g) rp ei (fun xs exs a ha j hj => ?_) (h H1 g (r.all al) (Goes.refl.all al))
      subst exs
      have hc : aloof e.us mb = true := by simpa [W.pure] using hc
      obtain ⟨i, hi, z1⟩ := sb a ha
      have := r.dj i j a z1 hj
      subst this
      unfold aloof at hc
      have := List.all_eq_true.mp hc i hi
      simpa using this
    · rw [if_neg hc] at h
      exact h.elim
  · refine imI (ps (a2 W0 tk)) fun σ H R ⟨S, g, r, h⟩ => ?_
    have hm : It.md (.seq e) = e.md false := by simp only [It.md]; rw [if_neg la]
    simp only [evIt, la, if_false, Bool.not_false, Bool.true_or, Bool.or_true, if_true, hm] at h
    refine ⟨S, g, r, h.bind.imp fun w S1 H1 g1 r1 go q v f x1 => ?_⟩
    obtain ⟨_, _, q⟩ := q
    obtain ⟨ws, ei, q⟩ := q.lift0 r1
    exact seq_walk (g := g1) x1.rep ei (fun xs exs a ha j hj => (x1.dj a ha j hj).elim) q
theorem okIt_rng {e : E} (he : OkE T k c e) : OkIt T k c (.rng e) := by
  intro z X D x tg mb hx W0 tk
  obtain ⟨y, q, x1, p, rfl, rfl, hg, h1⟩ : ∃ y q x1 p, x = .Call (.Name y q) [x1] [] p ∧ y = ("range" : Str) ∧ z.gl y = true ∧ chkE z e x1 = true := by
    unfold chkIt at hx
    obtain ⟨_, _, _, _, rfl, hy⟩ := onC1_inv hx
    simp only [Bool.and_eq_true, decide_eq_true_eq] at hy
    exact ⟨_, _, _, _, rfl, hy.1, hy.2.1, hy.2.2⟩
  obtain ⟨_, a2, _, _⟩ := he z X D x1 h1
  have st := isStar_chk h1
  have hm : X.mg "range" = none := by rw [D.mg]; exact D.blt _ (by decide +kernel)
  refine imI (pi_range1 (Chk.gl_of D hg) hm (pa_cons (a2 W0 tk) pa_nil (star_of st)) (star_of st)) fun σ H R ⟨S, g, r, h⟩ => ?_
  simp only [evIt] at h
  refine ⟨S, g, r, h.bind.imp fun w S1 H1 g1 r1 go q v f x1 => ?_⟩
  obtain ⟨_, _, q⟩ := q
  have xr := x1.rep
  cases w <;> first | exact q.elim | skip
  rename_i n
  cases xr
  by_cases hb : small62 n = true
  · simp only [hb, if_true] at q
    unfold small62 at hb
    have hb := decide_eq_true_eq.mp hb
    refine ⟨n, rfl, hb.1, hb.2, ?_⟩
    have wr := walk_r (K := T.K) (a := 0) (b := n)
    rw [Int.sub_zero] at wr
    exact q.ok0 r1 _ _ _ wr True.intro fun _ z => nomatch z
  · simp only [hb, if_false] at q
    exact q.elim
theorem okIt_rng2 {a b : E} (ha : OkE T k c a) (hb : OkE T k c b) : OkIt T k c (.rng2 a b) := by
  intro z X D x tg mb hx W0 tk
  obtain ⟨y, q, x1, y1, p, rfl, rfl, hg, h1, h2⟩ : ∃ y q x1 y1 p, x = .Call (.Name y q) [x1, y1] [] p ∧ y = ("range" : Str) ∧ z.gl y = true ∧ chkE z a x1 = true ∧ chkE z b y1 = true := by
    unfold chkIt at hx
    obtain ⟨_, _, _, _, _, rfl, hy⟩ := onC2_inv hx
    simp only [Bool.and_eq_true, decide_eq_true_eq] at hy
    exact ⟨_, _, _, _, _, rfl, hy.1, hy.2.1, hy.2.2.1, hy.2.2.2⟩
  obtain ⟨_, a2, _, _⟩ := ha z X D x1 h1
  obtain ⟨_, b2, _, _⟩ := hb z X D y1 h2
  have st1 := isStar_chk h1
  have st2 := isStar_chk h2
  have i1 : ∀ j, j ∈ a.md false → j ∈ It.md (.rng2 a b) := fun j q => by simp only [It.md]; exact List.mem_append_left _ q
  have i2 : ∀ j, j ∈ b.md false → j ∈ It.md (.rng2 a b) := fun j q => by simp only [It.md]; exact List.mem_append_right _ q
  have hm : X.mg "range" = none := by rw [D.mg]; exact D.blt _ (by decide +kernel)
  refine imI (pi_range2 (Chk.gl_of D hg) hm (pa_cons (a2 W0 tk) (pa_cons (b2 W0 tk) pa_nil (star_of st2)) (star_of st1)) (by rw [star_of st1, star_of st2]; rfl) (by rw [star_of st2]; rfl)) fun σ H R ⟨S, g, r, h⟩ => ?_
  simp only [evIt] at h
  refine ⟨S, g, r, (h.bind.mono i1).imp fun w S1 H1 g1 r1 go q v f x1 => ?_⟩
  obtain ⟨_, _, q⟩ := q
  refine ⟨S1, g1, r1, (q.bind.mono i2).imp fun w2 S2 H2 g2 r2 go2 q2 v2 f2 x2 => ?_⟩
  obtain ⟨_, _, q2⟩ := q2
  have xr := x1.rep
  have xr2 := x2.rep
  cases w <;> cases w2 <;> first | exact q2.elim | skip
  rename_i i j
  cases xr
  cases xr2
  by_cases hb : (small62 i && small62 j) = true
  · simp only [hb, if_true] at q2
    simp only [Bool.and_eq_true] at hb
    unfold small62 at hb
    have h1 := decide_eq_true_eq.mp hb.1
    have h2 := decide_eq_true_eq.mp hb.2
    exact ⟨i, j, rfl, ⟨h1.1, h1.2, h2.1, h2.2⟩, q2.ok0 r2 _ _ _ walk_r True.intro fun _ z => nomatch z⟩
  · simp only [hb, if_false] at q2
    exact q2.elim
end
end Own

/-! Own, part M2: dicts written and read, texts joined -/
namespace Own
open PySem L2
section
variable {T : Tab} {k : Nat} {c : Fn} {z : Chk} {X : Cx}
theorem ok_dn : OkE T k c .dn := by
  intro z X D x hx
  obtain ⟨p, rfl⟩ := inv_dn hx
  refine ⟨fun hl => by simp [E.isLk] at hl, ?_, ?_, fun i hi => by cases hi⟩
  · intro W0 tk
    refine imE pe_dnewK fun σ H Q ⟨S, g, r, h⟩ => ?_
    simp only [ev, Bool.false_eq_true, if_false, E.md] at h
    intro p hp
    have al : All H (upd H p (.dK [])) := Keep.new hp
    refine h _ g (r.all al) (Goes.refl.all al) (.ref p) [p] (Vl.new r Goes.refl (.dict upd_same rfl .nil) (by simp) fun a ha => ?_)
    have ea : a = p := by simpa using ha
    rw [ea]; exact hp
  · exact noT fun S => by simp only [ev, if_true]
theorem ok_get {i : Nat} {kk e : E} (hk : OkE T k c kk) (he : OkE T k c e) : OkE T k c (.get i kk e) := by
  intro z X D x hx
  obtain ⟨y, q, p, a, b, r, rfl, hv, hl, lk1, lk2, h1, h2⟩ := inv_get hx
  obtain ⟨a1, _⟩ := hk z X D a h1
  obtain ⟨b1, _⟩ := he z X D b h2
  have s1 := isStar_chk h1
  have s2 := isStar_chk h2
  have m : M2 X (.Name y q) "get" p a b r := ⟨rfl, by rw [star_of s1, star_of s2]; rfl, hl, by rw [star_of s1, star_of s2]; rfl⟩
  have sb : SB T X [] (.Call (.Attribute (.Name y q) "get" p) [a, b] [] r) fun S => lift (getW (gt S i) (lk c kk S) (lk c e S)) S := fun W0 tk => by
    refine imE (pe_dget2 (Nat.lt_of_le_of_lt (by omega) D.units) (pe_slot D hv) (a1 lk1) (b1 lk2) m) fun σ H Q ⟨S, g, r, h⟩ => ?_
    obtain ⟨w, e0, q⟩ : ∃ w, getW (gt S i) (lk c kk S) (lk c e S) = some w ∧ ∀ H' g', SR T.K H' S σ g' → Goes (· ∈ []) H S g H' S g' → ∀ v f, Rep T.K H' w v f → Q v H' := by
      dsimp only at h
      cases e0 : getW (gt S i) (lk c kk S) (lk c e S) with
      | none => rw [e0] at h; exact h.elim
      | some w => rw [e0] at h; exact ⟨w, rfl, h⟩
    unfold getW at e0
    split at e0
    · rename_i dd kv xv e1 e2 e3
      simp only [Option.bind_eq_some_iff, Option.some.injEq] at e0
      obtain ⟨p, hp, key, hkey, rfl⟩ := e0
      obtain ⟨v, ev0, rp⟩ := r.rep i dd e1
      obtain ⟨a0, kvs, g0, rfl, rd, _⟩ := rp.dct hp
      refine ⟨_, ev0, a0, rfl, .inl ⟨kvs, rd⟩, S, g, r, kv, e2, fun vy H2 f2 r2 _ al2 => ⟨S, g, r.all al2, xv, e3, fun vz H3 f3 r3 _ al3 => ?_⟩⟩
      have rp3 := rp.all (al2.trans al3)
      obtain ⟨a', o, ea, dg, _, d1, d2⟩ := rp3.dget (r2.all al3) hp hkey
      cases ea
      refine ⟨o, dg, ?_⟩
      cases hd : dgt p.1 p.2 key with
      | none =>
        rw [hd] at q
        rw [d2 hd]
        exact q H3 g (r.all (al2.trans al3)) (Goes.refl.all (al2.trans al3)) vz f3 r3
      | some wv =>
        rw [hd] at q
        obtain ⟨y', g', rfl, ry, _⟩ := d1 wv hd
        exact q H3 g (r.all (al2.trans al3)) (Goes.refl.all (al2.trans al3)) y' g' ry
    · cases e0
  obtain ⟨g1, g2⟩ := okB (e := .get i kk e) D (fun _ _ => rfl) sb rfl rfl (fun S => by simp only [ev]) (fun S => by simp only [ev])
  exact ⟨fun hl => by simp [E.isLk] at hl, g1, g2, fun i hi => by cases hi⟩
theorem ok_join {s : Str} {e : E} (he : OkE T k c e) : OkE T k c (.join s e) := by
  intro z X D x hx
  obtain ⟨kk, q, p, a, r, rfl, hl, h1⟩ := inv_join hx
  have s1 := isStar_chk h1
  have sy : SY T X (if e.isLk = true then [] else e.md false) (.Call (.Attribute (.Constant (.str s) kk q) "join" p) [a] [] r)
      (fun S => (if e.isLk = true then lift (lk c e S) S else ev c false e S).bind fun w S1 => lift (joinW s w) S1) := fun W0 tk => by
    refine imE (pe_join pe_str (pk_of D he h1 W0 tk) (by rw [star_of s1]; rfl) rfl hl) fun σ H Q h => ?_
    obtain ⟨S, g, r, h⟩ := h
    refine ⟨⟨s, rfl⟩, S, g, r, h.bind.imp fun w S1 H1 g1 r1 go q2 v f rv => ?_⟩
    obtain ⟨_, _, q2⟩ := q2
    obtain ⟨w2, e0, yl⟩ := q2.lift0 r1
    unfold joinW at e0
    simp only [Option.bind_eq_some_iff] at e0
    obtain ⟨ys, ⟨xs, hs, e1⟩, e2⟩ := e0
    split at e2
    · rename_i hz
      cases e2
      obtain ⟨a, vs, g, rfl, hq, rr, _⟩ := rv.seq hs
      have := strsW_of rr e1
      subst this
      exact ⟨s, a, ys, rfl, rfl, by rw [D.K]; exact hq, hz, yl.same (.str _)⟩
    · cases e2
  obtain ⟨g1, g2⟩ := okY (e := .join s e) D (fun _ _ => rfl) sy rfl rfl (fun S => by simp only [ev, Res.bind_assoc]) (fun S => by simp only [ev, Res.bind_assoc])
  exact ⟨fun hl => by simp [E.isLk] at hl, g1, g2, fun i hi => by cases hi⟩

/-! ### list(reversed(x)) -/
theorem Reps.rev0 {K : PySem.W.Frag} {H : Hp} : ∀ {w : List W} {v : List V}, Reps K H w v [] → Reps K H w.reverse v.reverse []
  | [], v, r => by cases r; exact .nil
  | x :: xs, v, r => by
    generalize e0 : ([] : List Addr) = f0 at r
    cases r with
    | cons ra rb =>
      obtain ⟨rfl, rfl⟩ : _ = [] ∧ _ = [] := by simpa using e0.symm
      rw [List.reverse_cons, List.reverse_cons]
      exact Reps.append (f := []) (f' := []) (Reps.rev0 rb) (.cons (f := []) (g := []) ra .nil)
theorem ok_lrev {a : E} (ha : OkE T k c a) : OkE T k c (.lrev a) := by
  intro z X D x hx
  obtain ⟨q, r0, w, p, p2, rfl, hg, hg2, h1⟩ := inv_lrev hx
  have st := isStar_chk h1
  have sy : SY T X (if a.isLk = true then [] else a.md false) (.Call (.Name "list" q) [.Call (.Name "reversed" r0) [w] [] p2] [] p)
      (fun S => (if a.isLk = true then lift (lk c a S) S else ev c false a S).bind fun w S1 => lift (lrevW w) S1) := fun W0 tk => by
    refine imE (pe_listRev D.calm (Chk.gl_of D hg) (by rw [D.mg]; exact D.blt _ (by decide +kernel)) (Chk.gl_of D hg2) (by rw [D.mg]; exact D.blt _ (by decide +kernel)) (pk_of D ha h1 W0 tk) (star_of st) rfl) fun σ H Q h => ?_
    obtain ⟨S, g, r, h⟩ := h
    refine ⟨S, g, r, h.bind.imp fun w S1 H1 g1 r1 go q2 v f rv => ?_⟩
    obtain ⟨_, _, q2⟩ := q2
    obtain ⟨w2, e0, yl⟩ := q2.lift0 r1
    unfold lrevW at e0
    simp only [Option.bind_eq_some_iff] at e0
    obtain ⟨xs, hs, e1⟩ := e0
    split at e1
    · rename_i hz
      simp only [Bool.and_eq_true, decide_eq_true_eq] at hz
      cases e1
      obtain ⟨a, vs, g, rfl, hq, rr, _⟩ := rv.seq hs
      have e2 := rr.own_pure hz.1
      subst e2
      exact ⟨a, vs, rfl, by rw [D.K]; exact hq, fun q hq' => yl.lst (Reps.rev0 rr) hq'⟩
    · cases e1
  obtain ⟨g1, g2⟩ := okY (e := .lrev a) D (fun _ _ => rfl) sy rfl rfl (fun S => by simp only [ev, Res.bind_assoc]) (fun S => by simp only [ev, Res.bind_assoc])
  exact ⟨fun hl => by simp [E.isLk] at hl, g1, g2, fun i hi => by cases hi⟩

/-! ### written dicts of the top -/
theorem dct_of {y : Str} {ks : List Key} {ws : List W} (D : SD T k c z X) (hc : z.cs.contains y = true) (e : c.cst y = some (.fdict ks ws)) : ∃ d es n, T.mg y = some (.ref d) ∧ KDict T.K T.w d es n ∧ ∀ z : Str, match dgt ks ws (.inr z) with
    | some y => ∃ u v, PySem.W.nsIn T.K d z = some (some u) ∧ RelV v u ∧ ∀ H, Rep T.K H y v []
    | none => PySem.W.nsIn T.K d z = some none := by
  obtain ⟨w', ew, ⟨hC⟩⟩ := D.cs y hc
  rw [e] at ew; cases ew
  rcases hC with ⟨u, v, hm, rv, rp⟩ | ⟨_, _, d, es, n, e, h⟩
  · cases rp (fun _ => none) with
    | fdict h _ _ => obtain ⟨o, h⟩ := h; cases h
  · cases e; exact ⟨d, es, n, h⟩
theorem ok_gidx {y : Str} {kk : E} (hk : OkE T k c kk) : OkE T k c (.gidx y kk) := by
  intro z X D x hx
  obtain ⟨q, w, p, rfl, hg, hc, hd, hlk, h1⟩ := inv_gidx hx
  obtain ⟨a1, _⟩ := hk z X D w h1
  have sy : SY T X [] (.Subscript (.Name y q) w p) fun S => lift (gidxW (c.cst y) (lk c kk S)) S := by
    intro W0 tk
    cases ec : c.cst y with
    | none => exact ⟨fun pins s σ H Q I ⟨S, g, r, h⟩ => by simp only [gidxW] at h; exact h.elim⟩
    | some cw =>
      cases cw <;> try exact ⟨fun pins s σ H Q I ⟨S, g, r, h⟩ => by simp only [gidxW] at h; exact h.elim⟩
      rename_i ks ws
      obtain ⟨d, es, n, hm, kd, hz⟩ := dct_of D hc ec
      have hp : PE X (.Name y q) (tC (.ref d)) := pe_glob (Chk.gl_of D hg) (by rw [D.mg]; exact hm) rfl hd
      refine imE (pe_ix ix_kdict hp (a1 hlk) (plainIx_of h1)) fun σ H Q ⟨S, g, r, h⟩ => ?_
      cases ek : lk c kk S with
      | none => simp only [ek, gidxW] at h; exact h.elim
      | some kw =>
        cases kw <;> try (simp only [ek, gidxW] at h; exact h.elim)
        rename_i zs
        simp only [ek, gidxW] at h
        refine ⟨S, g, r, _, ek, fun v H1 f rv _ al => ?_⟩
        cases rv
        have hzz := hz zs
        cases ed : dgt ks ws (.inr zs) with
        | none => rw [ed] at h; exact h.elim
        | some yv =>
          rw [ed] at h hzz
          obtain ⟨u, v, e1, e2, e3⟩ := hzz
          refine ⟨d, zs, v, rfl, rfl, ⟨es, n, u, by rw [D.K]; exact kd.at_, by rw [D.w]; exact kd.lit, by rw [D.K]; exact e1, e2⟩, ?_⟩
          exact (h H1 g (r.all al) (Goes.refl.all al)).same (e3 H1)
  obtain ⟨g1, g2⟩ := okY (e := .gidx y kk) D (fun _ _ => rfl) sy rfl rfl (fun S => by simp only [ev]) (fun S => by simp only [ev])
  exact ⟨fun hl => by simp [E.isLk] at hl, g1, g2, fun i hi => by cases hi⟩
theorem ginW_of {ks : List Key} {ws : List W} {o : Option W} {b : Bool} (h : ginW (some (.fdict ks ws)) o = some b) : ∃ z, o = some (.str z) ∧ (dgt ks ws (.inr z)).isSome = b := by
  cases o with
  | none => simp [ginW] at h
  | some w =>
    cases w <;> first
      | exact ⟨_, rfl, by simpa [ginW] using h⟩
      | simp [ginW] at h
theorem ok_gin {n : Bool} {y : Str} {kk : E} (hk : OkE T k c kk) : OkE T k c (.gin n y kk) := by
  intro z X D x hx
  obtain ⟨q, w, p, rfl, hg, hc, hd, hlk, h1⟩ := inv_gin hx
  obtain ⟨a1, _⟩ := hk z X D w h1
  obtain ⟨R, ta, tb, ho, pa, pb, rd⟩ : ∃ (R : R2) (ta tb : TE), OpR X (compareOp (if n then .NotIn else .In)) R ∧ PE X w ta ∧ PE X (.Name y q) tb ∧ ∀ σ H Q, (∃ S g, SR T.K H S σ g ∧ ∃ b, ginW (c.cst y) (lk c kk S) = some b ∧ ∀ H', All H H' → Q (.bl (if n then !b else b)) H') → tOp R ta tb σ H Q := by
    cases ec : c.cst y with
    | none => exact ⟨fun _ _ _ _ => False, fun _ _ _ => False, fun _ _ _ => False, fun _ _ _ _ _ _ _ _ _ _ _ _ h => h.elim, ⟨fun pins s σ H Q I h => h.elim⟩, ⟨fun pins s σ H Q I h => h.elim⟩, fun σ H Q ⟨S, g, r, b, e, _⟩ => by simp only [ginW, reduceCtorEq] at e⟩
    | some cw =>
      by_cases hfd : ∃ ks ws, cw = .fdict ks ws
      rotate_left
      · refine ⟨fun _ _ _ _ => False, fun _ _ _ => False, fun _ _ _ => False, fun _ _ _ _ _ _ _ _ _ _ _ _ h => h.elim, ⟨fun pins s σ H Q I h => h.elim⟩, ⟨fun pins s σ H Q I h => h.elim⟩, fun σ H Q ⟨S, g, r, b, e, _⟩ => ?_⟩
        cases cw <;> first | exact hfd ⟨_, _, rfl⟩ | simp [ginW] at e
      obtain ⟨ks, ws, rfl⟩ := hfd
      obtain ⟨d, es, nn, hm, kd, hz⟩ := dct_of D hc ec
      have kd' : KDict X.K X.w d es nn := by rw [D.K, D.w]; exact kd
      have hp : PE X (.Name y q) (tC (.ref d)) := pe_glob (Chk.gl_of D hg) (by rw [D.mg]; exact hm) rfl hd
      have fin : ∀ {R : R2}, (∀ zs (b : Bool) H (Q : VK), (dgt ks ws (.inr zs)).isSome = b → Q (.bl (if n then !b else b)) H → R (.str zs) (.ref d) H Q) → ∀ σ H Q, (∃ S g, SR T.K H S σ g ∧ ∃ b, ginW (some (.fdict ks ws)) (lk c kk S) = some b ∧ ∀ H', All H H' → Q (.bl (if n then !b else b)) H') → tOp R (tLk T kk.us (lk c kk)) (tC (.ref d)) σ H Q := by
        intro R hR σ H Q ⟨S, g, r, b, e, h⟩
        obtain ⟨zs, ek, e⟩ := ginW_of e
        refine ⟨S, g, r, _, ek, fun v H1 f rv _ al => ?_⟩
        cases rv
        exact hR zs b H1 Q e (h H1 al)
      have nsz : ∀ zs, ∃ r, PySem.W.nsIn X.K d zs = some r ∧ r.isSome = (dgt ks ws (.inr zs)).isSome := fun zs => by
        have hzz := hz zs
        rw [D.K]
        cases ed : dgt ks ws (.inr zs) with
        | none => rw [ed] at hzz; exact ⟨none, hzz, rfl⟩
        | some yv => rw [ed] at hzz; obtain ⟨u, v, e1, _⟩ := hzz; exact ⟨some u, e1, rfl⟩
      cases n with
      | true =>
        refine ⟨_, _, _, op_notIn_kd kd', a1 hlk, hp, fin fun zs b H Q e q => ?_⟩
        obtain ⟨r, e1, e2⟩ := nsz zs
        exact ⟨zs, r, rfl, rfl, e1, by rw [e2, e]; exact q⟩
      | false =>
        refine ⟨_, _, _, op_in_kd kd', a1 hlk, hp, fin fun zs b H Q e q => ?_⟩
        obtain ⟨r, e1, e2⟩ := nsz zs
        exact ⟨zs, r, rfl, rfl, e1, by rw [e2, e]; exact q⟩
  have key : ∀ {W0 : WX} {σ : St} {H : Hp} {Q : VK} {S : SW} {g : Nat → List Addr} {R : W → SW → Hp → (Nat → List Addr) → Prop} {t : Bool}, SR T.K H S σ g → Post T W0 (· ∈ ([] : List Nat)) σ H S g (ev c t (.gin n y kk) S) R →
      (∀ b H', All H H' → R (.bl b) S H' g → Q (.bl b) H') → ∃ S g, SR T.K H S σ g ∧ ∃ b, ginW (c.cst y) (lk c kk S) = some b ∧ ∀ H', All H H' → Q (.bl (if n then !b else b)) H' := by
    intro W0 σ H Q S g R t r h hQ
    simp only [ev] at h
    obtain ⟨b, e, h⟩ := h.lift
    exact ⟨S, g, r, b, e, fun H' al => hQ _ H' al (h H' g (r.all al) (Goes.refl.all al))⟩
  have hmk : behindInMarks (if n then .NotIn else .In) (.Name y q) = false := by cases n <;> rfl
  refine ⟨fun hl => by simp [E.isLk] at hl, fun W0 tk => ?_, fun W0 tk => ?_, fun i hi => by cases hi⟩
  · refine imE (pe_cmpR ho pa pb hmk) fun σ H Q ⟨S, g, r, h⟩ => rd σ H Q (key r h fun b H' al q => q _ [] (Vl.pure (.bl _) rfl))
  · refine imT (pt_cmpR ho pa pb hmk) fun σ H Q ⟨S, g, r, h⟩ => rd σ H _ (key (Q := fun x H' => ∃ k, x = .bl k ∧ Q k H') r h fun b H' al q => ?_)
    obtain ⟨b', e, q⟩ := q
    cases e
    exact ⟨_, rfl, q⟩
/-! ### a written dict -/
theorem mergeK_nodup : ∀ (more acc : List (Key × V)), ((acc ++ more).map (·.1)).Nodup → mergeK acc more = acc ++ more
  | [], acc, _ => by simp [mergeK]
  | p :: r, acc, h => by
    have e : putK acc p.1 p.2 = acc ++ [p] := by
      unfold putK
      rw [if_neg]
      intro q
      simp only [List.any_eq_true, decide_eq_true_eq] at q
      obtain ⟨x, hx, ex⟩ := q
      rw [List.map_append, List.nodup_append] at h
      exact h.2.2 x.1 (List.mem_map_of_mem hx) p.1 (by simp) ex
    show mergeK (putK acc p.1 p.2) r = _
    rw [e, mergeK_nodup r (acc ++ [p]) (by rw [List.append_assoc]; exact h), List.append_assoc]
    rfl
def AllOk (T : Tab) (k : Nat) (c : Fn) : Es → Prop
  | .nil => True
  | .cons e es => OkE T k c e ∧ AllOk T k c es
theorem key_pe {q : Key} {x : Option Expr} {xs : List (Option Expr)} {r : List Key} (h : chkKs (q :: r) (x :: xs) = true) : ∃ y, x = some y ∧ PE X y (tC (kV q)) ∧ chkKs r xs = true := by
  cases q with
  | inl n =>
    unfold chkKs at h
    split at h <;> rename_i h1 h2
    · cases h1
    · cases h1; cases h2
      simp only [Bool.and_eq_true, decide_eq_true_eq] at h
      obtain ⟨rfl, h⟩ := h
      exact ⟨_, rfl, pe_int, h⟩
    · cases h1
    · cases h
  | inr n =>
    unfold chkKs at h
    split at h <;> rename_i h1 h2
    · cases h1
    · cases h1
    · cases h1; cases h2
      simp only [Bool.and_eq_true, decide_eq_true_eq] at h
      obtain ⟨rfl, h⟩ := h
      exact ⟨_, rfl, pe_str, h⟩
    · cases h
theorem pps_of {pos : Pos} (D : SD T k c z X) : ∀ (vs : Es) (ks : List Key) (xs : List (Option Expr)) (ys : List Expr), AllOk T k c vs → chkKs ks xs = true → vs.isLk = true → chkEs z vs ys = true → xs.length = ys.length →
    ∃ trs, PPs X pos xs ys trs ∧ ∀ σ H (Q : List (V × V) → Hp → Prop) S g ws, SR T.K H S σ g → lkL c vs S = some ws → pureL ws = true → (∀ (kvs : List (Key × V)) H', kvs.map (·.1) = ks → Reps T.K H' ws (kvs.map (·.2)) [] → All H H' → Q (kvs.map fun kv => (kV kv.1, kv.2)) H') → tPairs trs σ H Q
  | .nil, ks, xs, ys, _, hk, _, hv, hl => by
    have := inv_nil hv
    subst this
    cases xs with
    | cons x xs => cases hl
    | nil =>
      cases ks with
      | cons q r => cases q <;> simp [chkKs] at hk
      | nil =>
        refine ⟨[], pps_nil, fun σ H Q S g ws r e p h => ?_⟩
        simp only [lkL, Option.some.injEq] at e
        subst e
        exact h [] H rfl .nil Keep.refl
  | .cons v vs, ks, xs, ys, ao, hk, hlk, hv, hl => by
    obtain ⟨y1, yr, rfl, h1, h2, _⟩ := inv_cons hv
    simp only [Es.isLk, Bool.and_eq_true] at hlk
    cases xs with
    | nil => cases hl
    | cons x xs =>
      cases ks with
      | nil => simp [chkKs] at hk
      | cons q r =>
        obtain ⟨y, rfl, pk, hk'⟩ := key_pe (X := X) hk
        obtain ⟨trs, pp, ih⟩ := pps_of D vs r xs yr ao.2 hk' hlk.2 h2 (by simpa using hl)
        obtain ⟨pv, _⟩ := ao.1 z X D y1 h1
        refine ⟨_, pps_cons pk (pv hlk.1) pp, fun σ H Q S g ws rs e p h => ?_⟩
        simp only [lkL, Option.bind_eq_some_iff, Option.some.injEq] at e
        obtain ⟨w, e1, ws', e2, rfl⟩ := e
        simp only [pureL, Bool.and_eq_true] at p
        refine ⟨S, g, rs, w, e1, fun vv H2 f rv _ al => ih σ H2 _ S g ws' (rs.all al) e2 p.2 fun kvs H3 a1 a2 al3 => ?_⟩
        have rv3 := rv.all al3
        have ef := rv3.own_pure p.1
        rw [ef] at rv3
        exact h ((q, vv) :: kvs) H3 (by simp [a1]) (.cons (f := []) (g := []) rv3 a2) (al.trans al3)
theorem ok_dl {ks : List Key} {vs : Es} (hv : AllOk T k c vs) : OkE T k c (.dl ks vs) := by
  intro z X D x hx
  obtain ⟨xs, ys, p, rfl, hk, ⟨hl, h15, h0⟩, hlk, hvs⟩ := inv_dl hx
  refine ⟨fun hl => by simp [E.isLk] at hl, ?_, ?_, fun i hi => by cases hi⟩
  · intro W0 tk
    obtain ⟨trs, pp, rd⟩ := pps_of (pos := p) D vs ks xs ys hv hk hlk hvs hl
    have hall : ∀ (ks : List Key) (xs : List (Option Expr)), chkKs ks xs = true → xs.all (·.isSome) = true := by
      intro ks xs
      induction xs generalizing ks with
      | nil => intro _; rfl
      | cons x xs ih =>
        intro h
        cases ks with
        | nil => simp [chkKs] at h
        | cons q r =>
          obtain ⟨y, rfl, _, h'⟩ := key_pe (X := X) h
          simp [ih r h']
    refine imE (pe_disp pp (hall ks xs hk) hl (fun z => by rw [z] at h0; exact absurd h0 (by simp)) h15) fun σ H Q ⟨S, g, r, h⟩ => ?_
    simp only [ev, Bool.false_eq_true, if_false, E.md] at h
    intro p hp
    have al : All H (upd H p (.dK [])) := Keep.new hp
    cases e1 : lkL c vs S with
    | none => rw [e1] at h; exact h.elim
    | some ws =>
      rw [e1] at h
      have h : Post T W0 (· ∈ ([] : List Nat)) σ H S g ((lift (dlW ks ws) S).bind fun w S2 => .ok w S2) _ := h
      cases e2 : dlW ks ws with
      | none => rw [e2] at h; exact h.elim
      | some w =>
        rw [e2] at h
        unfold dlW at e2
        split at e2
        · rename_i hc
          cases e2
          simp only [Bool.and_eq_true, decide_eq_true_eq, Bool.not_eq_true'] at hc
          obtain ⟨hp1, hlen, h15', hnd, hne⟩ := hc
          refine rd σ _ _ S g ws (r.all al) e1 hp1 fun kvs H2 a1 a2 al2 => ?_
          have hp2 : H2 p = some (.dK []) := al2 p _ upd_same fun z => z
          refine ⟨hp2, kvs, rfl, by have : kvs.length = ks.length := by rw [← a1, List.length_map]
                                    omega, ?_⟩
          have em : mergeK [] kvs = kvs := by
            have := mergeK_nodup kvs [] (by rw [List.nil_append, a1]; exact hnd)
            simpa using this
          rw [em]
          have kp : Keep (fun a => a = p) H2 (upd H2 p (.dK kvs)) := Keep.at rfl
          have mu : AllMut H2 fun a => a = p := fun a e => ⟨.dK [], by rw [e]; exact hp2, rfl⟩
          have al3 : All H (upd H2 p (.dK kvs)) := fun a o ha _ => by
            have : a ≠ p := fun e => by rw [e, hp] at ha; cases ha
            rw [upd_ne this]
            exact al2 a o (al a o ha fun z => z) fun z => z
          refine h _ g (r.all al3) (Goes.refl.all al3) (.ref p) [p] (Vl.new r Goes.refl (.dict upd_same a1 (a2.keep kp mu fun _ z => nomatch z)) (by simp) fun a ha => ?_)
          have ea : a = p := by simpa using ha
          rw [ea]; exact hp
        · cases e2
  · exact noT fun S => by simp only [ev, if_true]
end
end Own

/-! Own, part N: comprehensions -/
namespace Own
open PySem L2
section
variable {T : Tab} {k : Nat} {c : Fn} {z : Chk} {X : Cx}
theorem ownN_map {own : List Nat} : ∀ {o : List (Str × Nat)}, ownN z own = some o → o.map (·.2) = own := by
  induction own with
  | nil => intro o h; simp only [ownN, Option.some.injEq] at h; subst h; rfl
  | cons i is ih =>
    intro o h
    simp only [ownN] at h
    split at h
    · rename_i x r h1 h2
      cases h
      rw [List.map_cons, ih h2]
    · cases h
theorem SD.blk {scope : Scope} {o : List (Str × Nat)} (D : SD T k c z X) (hu : ∀ y ∈ scope.names, scope.names.lookup y.1 = some y.2) (s : Shared) (H : Hp) (C : Addr) (cl : List (Str × Addr)) (fp : List Addr) : SD T k c (z.blk scope) (X.blk s H scope (compEnvC scope cl C X.env) fp) where
  P := D.P
  w := D.w
  K := D.K
  mg := D.mg
  base := D.base
  N := D.N
  nd := D.nd
  sc := by
    show relS scope X.env.scope = relS scope z.sc
    rw [D.sc]
  calm := D.calm
  room := D.room
  fn := fun x h => by
    show (scope.names.lookup x == some .cell) = true
    have h : ((scope.names.filter fun p => decide (p.2 = .cell)).map (·.1)).contains x = true := h
    simp only [List.contains_eq_mem, List.mem_map, List.mem_filter, decide_eq_true_eq] at h
    obtain ⟨p, ⟨h1, h2⟩, h3⟩ := h
    have := hu p h1
    rw [h3, h2] at this
    rw [this]; rfl
  fns := D.fns
  cs := D.cs
  blt := D.blt

/-- one turn, as told -/
def turnD (c : Fn) (own : List Nat) (tg : Tg) (cs : Es) (e : E) (w : W) (S2 : SW) : Res (Option W) := match setTg tg w S2 with
  | some S3 => (evTs c cs S3).bind fun b S4 => match b with
    | .bl true => (ev c false e S4).bind fun y S5 => .ok (some y) (wipeS S5 own)
    | .bl false => .ok none (wipeS S4 own)
    | _ => .stuck
  | none => .stuck
theorem lcL_cons {d : W → SW → Res (Option W)} {w : W} {ws acc : List W} {S : SW} : lcL d (w :: ws) acc S = match d w S with
    | .ok (some y) S1 => if acc.length < sizeLine then lcL d ws (acc ++ [y]) S1 else .stuck
    | .ok none S1 => lcL d ws acc S1
    | _ => .stuck := rfl

/-- what a comprehension asks of its parts, and that they give it -/
theorem lc_parts {own : List Nat} {tg : Tg} {it : It} {cs : Es} {e : E} (hi : OkIt T k c it) (hcs : OkEs T k c cs) (he : OkE T k c e) (D : SD T k c z X) {x : Expr} (hx : chkE z (.lc own tg it cs e) x = true) :
    ∃ elt t i ifs scope p o, x = .ListComp elt [⟨t, i, ifs, 0⟩] scope p ∧ BlkOk X.N X.env.scope scope o ∧ (∀ x, foldedSetIterable i X.env x = pure x) ∧ ∀ W0, Takes X W0 → ∃ wi g tt te, PI X t i wi ∧
      (∀ (s : Shared) (H : Hp) (C : Addr) (cl : List (Str × Addr)) (fp : List Addr), PG (X.blk s H scope (compEnvC scope cl C X.env) fp) t g) ∧ (∀ (s : Shared) (H : Hp) (C : Addr) (cl : List (Str × Addr)) (fp : List Addr), PTs (X.blk s H scope (compEnvC scope cl C X.env) fp) ifs tt) ∧
      (∀ (s : Shared) (H : Hp) (C : Addr) (cl : List (Str × Addr)) (fp : List Addr), PE (X.blk s H scope (compEnvC scope cl C X.env) fp) elt te) ∧
      ∀ σ H Q, tV T W0 (· ∈ E.md false (.lc own tg it cs e)) (fun S => (evIt c (cs.md true ++ e.md false) it S).bind fun items S1 => (lcL (turnD c own tg cs e) items [] (wipeS S1 own)).bind fun ys S6 => .ok (.lst ys) (unwipe S1 S6 own)) σ H Q → tLc wi g tt te (o.map (·.2)) σ H Q := by
  obtain ⟨elt, t, i, ifs, scope, p, o, rfl, ho, hb, hin, h1, h2, h3, h4⟩ := inv_lc hx
  have hown := ownN_map ho
  have blk := blkOk_by hb
  rw [← D.N, ← D.sc] at blk
  have tgin : ∀ j, j ∈ tg.slots → j ∈ own := fun j hj => by
    have := List.all_eq_true.mp hin j hj
    simpa using this
  refine ⟨elt, t, i, ifs, scope, p, o, rfl, blk, ?_, fun W0 tk => ?_⟩
  · intro x; cases i <;> first | rfl | (exfalso; cases it <;> simp only [chkIt, onC1, onC2, Bool.false_eq_true] at h2; rename_i e0; cases e0 <;> simp only [chkE, isOdd, Bool.not_true, Bool.false_and, Bool.false_eq_true] at h2)
  · have DB := fun (s : Shared) (H : Hp) (C : Addr) (cl : List (Str × Addr)) (fp : List Addr) => SD.blk (o := o) D blk.uniq s H C cl fp
    refine ⟨_, _, _, _, hi z X D i t (cs.md true ++ e.md false) h2 W0 tk, (fun s H C cl fp => ok_tg (DB s H C cl fp) h1), (fun s H C cl fp => hcs.ts _ _ (DB s H C cl fp) ifs h3 _ takes0), (fun s H C cl fp => (he _ _ (DB s H C cl fp) elt h4).2.1 _ takes0), fun σ H0 Q ⟨S0, g0, r0, h⟩ => ?_⟩
    rw [hown]
    have im : ∀ j, j ∈ it.md → j ∈ E.md false (.lc own tg it cs e) := fun j q => by simp only [E.md]; exact List.mem_append_left _ q
    have im2 : ∀ j, j ∈ cs.md true ++ e.md false → j ∈ E.md false (.lc own tg it cs e) := fun j q => by simp only [E.md]; exact List.mem_append_right _ q
    refine ⟨S0, g0, r0, (h.bindS.mono im).imp fun items S1 H1 g1 r1 go q J P B wk hP hB D' hD => ?_⟩
    obtain ⟨go, _, q⟩ := q
    -- the block's slots
    have ib : ∀ j, (j ∈ cs.md true ++ e.md false) → (j ∈ cs.md true ++ e.md false ∨ j ∈ own) := fun j h => .inl h
    generalize hmB : (fun j => j ∈ cs.md true ++ e.md false ∨ j ∈ own) = mB
    have mB1 : ∀ j, j ∈ cs.md true → mB j := fun j h => by rw [← hmB]; exact .inl (List.mem_append_left _ h)
    have mB2 : ∀ j, j ∈ e.md false → mB j := fun j h => by rw [← hmB]; exact .inl (List.mem_append_right _ h)
    have mB3 : ∀ j, j ∈ own → mB j := fun j h => by rw [← hmB]; exact .inr h
    have rb := r1.wipe own
    have wip : ∀ {σ2 : St}, σ2.length = σ.length → (∀ j, j ∉ own → σ2[j]? = σ[j]?) → wipe σ2 own = wipe σ own := fun h1 h2 => wipe_congr h1 h2
    -- what is wanted of the list
    let LP : Res (List W) → Prop := fun r => match r with
      | .ok ys S6 => ∀ H' g6 accV' f', SR T.K H' S6 (wipe σ own) g6 → Goes mB H1 (wipeS S1 own) (gw g1 own) H' S6 g6 → Car T.K P B D' ys accV' f' mB H' g6 → (∀ a ∈ f', H1 a = none ∨ Ow mB (gw g1 own) a) → Q (.ref D') H'
      | _ => False
    have start : LP (lcL (turnD c own tg cs e) items [] (wipeS S1 own)) := by
      cases hr : lcL (turnD c own tg cs e) items [] (wipeS S1 own) with
      | stuck => rw [hr] at q; exact q.elim
      | exc x S6 =>
        exfalso
        have noexc : ∀ (ws acc : List W) (S : SW) (x : Ex) (S6 : SW), lcL (turnD c own tg cs e) ws acc S ≠ .exc x S6 := by
          intro ws
          induction ws with
          | nil => intro acc S x S6 h; cases h
          | cons w ws ih =>
            intro acc S x S6 h
            rw [lcL_cons] at h
            split at h
            · split at h
              · exact ih _ _ _ _ h
              · cases h
            · exact ih _ _ _ _ h
            · cases h
        exact noexc _ _ _ _ _ hr
      | ok ys S6 =>
        rw [hr] at q
        intro H' g6 accV' f' r6 go6 car hsub
        have q : Post T W0 (· ∈ E.md false (.lc own tg it cs e)) σ H0 S0 g0 (Res.ok (W.lst ys) (unwipe S1 S6 own)) _ := q
        have hl : S1.length = S6.length := by rw [r1.len, r6.len, wipe_length]
        have owb : ∀ {a : Addr}, Ow mB (gw g1 own) a → ∃ j, j ∈ cs.md true ++ e.md false ∧ a ∈ g1 j := fun ⟨j, hj, ha⟩ => by
          obtain ⟨h1, h2⟩ := gw_sub ha
          rw [← hmB] at hj
          exact ⟨j, hj.resolve_right h2, h1⟩
        have cross : ∀ {a : Addr} {i j : Nat}, i ∈ own → j ∉ own → a ∈ g1 i → a ∈ g6 j → False := fun {a i j} hi hj h1 h2 => by
          by_cases mj : mB j
          · rcases go6.sub j a mj h2 with z | ⟨l, _, z⟩
            · exact r1.trk h1 z
            · obtain ⟨z1, z2⟩ := gw_sub z
              have := r1.dj l i a z1 h1
              subst this
              exact z2 hi
          · rw [(go6.same j mj).2] at h2
            obtain ⟨z1, z2⟩ := gw_sub h2
            have := r1.dj j i a z1 h1
            subst this
            exact z2 hi
        let gu : Nat → List Addr := fun j => if j ∈ own then g1 j else g6 j
        have gu1 : ∀ {j}, j ∈ own → gu j = g1 j := fun h => if_pos h
        have gu2 : ∀ {j}, j ∉ own → gu j = g6 j := fun h => if_neg h
        have ru : SR T.K H' (unwipe S1 S6 own) σ gu := by
          refine ⟨by rw [unwipe_length, r6.len, wipe_length], fun j w h => ?_, fun j h => ?_, fun j => ?_, fun i j a h1 h2 => ?_⟩
          · rw [gt_unwipe hl] at h
            by_cases n : j ∈ own
            · rw [if_pos n] at h
              obtain ⟨v, h1, h2⟩ := r1.rep j w h
              refine ⟨v, h1, ?_⟩
              rw [gu1 n]
              refine h2.keep go6.keep rb.mut fun a ha ⟨l, _, z⟩ => ?_
              obtain ⟨z1, z2⟩ := gw_sub z
              have := r1.dj l j a z1 ha
              subst this
              exact z2 n
            · rw [if_neg n] at h
              obtain ⟨v, h1, h2⟩ := r6.rep j w h
              rw [wipe_out n] at h1
              exact ⟨v, h1, by rw [gu2 n]; exact h2⟩
          · rw [gt_unwipe hl] at h
            by_cases n : j ∈ own
            · rw [if_pos n] at h; rw [gu1 n]; exact r1.emp j h
            · rw [if_neg n] at h; rw [gu2 n]; exact r6.emp j h
          · by_cases n : j ∈ own
            · rw [gu1 n]; exact r1.nd j
            · rw [gu2 n]; exact r6.nd j
          · by_cases n1 : i ∈ own
            · rw [gu1 n1] at h1
              by_cases n2 : j ∈ own
              · rw [gu1 n2] at h2; exact r1.dj i j a h1 h2
              · rw [gu2 n2] at h2; exact (cross n1 n2 h1 h2).elim
            · rw [gu2 n1] at h1
              by_cases n2 : j ∈ own
              · rw [gu1 n2] at h2; exact (cross n2 n1 h2 h1).elim
              · rw [gu2 n2] at h2; exact r6.dj i j a h1 h2
        have toM : ∀ {a : Addr}, Ow mB (gw g1 own) a → H0 a = none ∨ Ow (· ∈ E.md false (.lc own tg it cs e)) g0 a := fun h => by
          obtain ⟨j, hj, ha⟩ := owb h
          exact go.sub j _ (im2 j hj) ha
        have gou : Goes (· ∈ E.md false (.lc own tg it cs e)) H0 S0 g0 H' (unwipe S1 S6 own) gu := by
          refine ⟨fun a ob h n => go6.keep a ob (go.keep a ob h n) fun z => ?_, fun j n => ?_, fun j a hj ha => ?_⟩
          · rcases toM z with q | q
            · rw [h] at q; cases q
            · exact n q
          · rw [gt_unwipe hl]
            by_cases no : j ∈ own
            · rw [if_pos no, gu1 no]; exact go.same j n
            · rw [if_neg no, gu2 no]
              have nm : ¬ mB j := fun z => by rw [← hmB] at z; exact z.elim (fun z => n (im2 j z)) no
              obtain ⟨s1, s2⟩ := go6.same j nm
              rw [s1, s2, gt_wipe, if_neg no]
              unfold gw
              rw [if_neg no]
              exact go.same j n
          · by_cases no : j ∈ own
            · rw [gu1 no] at ha; exact go.sub j a hj ha
            · rw [gu2 no] at ha
              by_cases nm : mB j
              · rcases go6.sub j a nm ha with z | z
                · exact go.none z
                · exact toM z
              · rw [(go6.same j nm).2] at ha
                exact go.sub j a hj (gw_sub ha).1
        refine q H' gu ru gou (.ref D') (D' :: f') ⟨.lst car.hD car.rp, car.nd, fun a ha => ?_, fun a ha j hj => ?_⟩
        · rcases List.mem_cons.mp ha with ea | ha
          · rw [ea]; exact go.none hD
          · exact (hsub a ha).elim go.none toM
        · by_cases no : j ∈ own
          · rw [gu1 no] at hj
            rcases List.mem_cons.mp ha with ea | ha
            · rw [ea] at hj; exact r1.trk hj hD
            · rcases hsub a ha with z | ⟨l, _, z⟩
              · exact r1.trk hj z
              · obtain ⟨z1, z2⟩ := gw_sub z
                have := r1.dj l j a z1 hj
                subst this
                exact z2 no
          · rw [gu2 no] at hj
            exact car.dj a ha j hj
    -- the invariant
    let Inv : Nat → Hp → Prop := fun n H => ∃ S2 g2 acc accV f, SR T.K H S2 (wipe σ own) g2 ∧ Goes mB H1 (wipeS S1 own) (gw g1 own) H S2 g2 ∧ Car T.K P B D' acc accV f mB H g2 ∧ (∀ a ∈ f, H1 a = none ∨ Ow mB (gw g1 own) a) ∧ LP (lcL (turnD c own tg cs e) (items.drop n) acc S2)
    refine ⟨fun n m H => m = items.length - n ∧ n ≤ items.length ∧ Inv n H, ⟨items.length, by simp, Nat.zero_le _, ?_⟩, ?_⟩
    · have al : All H1 (upd H1 D' (.lst [])) := Keep.new hD
      refine ⟨_, _, [], [], [], rb.all al, Goes.refl.all al, ⟨?_, fun a ha => ?_, fun z => (hB D' z).1 hD, upd_same, .nil, by simp, fun a ha j hj => ?_⟩, (fun _ z => nomatch z), by rw [List.drop_zero]; exact start⟩
      · exact wk.keep _ _ _ hP al (fun _ z => z.elim) fun _ _ z => z
      · refine ⟨fun z => (hB a ha).1 ?_, fun j hj hg => ?_⟩
        · exact (al.none_of z).elim id fun z => z.elim
        · obtain ⟨z1, z2⟩ := gw_sub hg
          rw [← hmB] at hj
          exact (hB a ha).2 j z1 (hj.resolve_right z2)
      · have ea : a = D' := by simpa using ha
        rw [ea] at hj
        exact r1.trk (gw_sub hj).1 hD
    · rintro n m H ⟨rfl, hn, S2, g2, acc, accV, f, r2, go2, car, hsub, lp⟩
      by_cases hlt : n < items.length
      · have hw : items[n]? = some items[n] := List.getElem?_eq_getElem hlt
        obtain ⟨jg, jy⟩ := wk.item n H _ car.p hw
        refine .inr ⟨jg, Inv (n + 1), fun H' h' => ⟨items.length - (n + 1), by omega, rfl, hlt, h'⟩, fun x H' hy => ?_⟩
        obtain ⟨al, rx⟩ := jy x H' hy
        rw [List.drop_eq_getElem_cons hlt, lcL_cons] at lp
        generalize items[n] = w at lp rx
        have r2' := r2.all al
        have go2' := go2.all al
        have car' := car.step wk r2 (Goes.refl (S := S2).all al)
        cases hd : turnD c own tg cs e w S2 with
        | stuck => rw [hd] at lp; exact lp.elim
        | exc x S3 => rw [hd] at lp; exact lp.elim
        | ok oy S7 =>
          rw [hd] at lp
          unfold turnD at hd
          split at hd
          · rename_i S3 es
            refine ⟨S2, g2, w, r2', rx, S3, es, fun σ2 g3 r3 ok => ?_⟩
            have len2 : σ2.length = σ.length := ok.len.trans (wipe_length _ _)
            have off2 : ∀ j, j ∉ own → σ2[j]? = σ[j]? := fun j hj => by
              rw [ok.sl j fun z => hj (tgin j z)]
              exact wipe_out hj
            have w2 := wip len2 off2
            have gt3 : Goes mB H' S2 g2 H' S3 g3 := ⟨Keep.refl, fun j hj => ok.st j fun z => hj (mB3 j (tgin j z)), fun j a hj ha => .inr ⟨j, hj, ok.gs j a ha⟩⟩
            have car3 := car'.step wk r2' gt3
            have go3 := go2'.trans gt3
            refine ⟨w2, S3, g3, r3, ?_⟩
            have wf : ∀ {S : SW} {H : Hp} {g : Nat → List Addr}, SR T.K H S σ2 g → SR T.K H (wipeS S own) (wipe σ own) (gw g own) := fun h => by
              have := h.wipe own
              rwa [w2] at this
            cases ht : evTs c cs S3 with
            | stuck => rw [ht] at hd; cases hd
            | exc x S4 => rw [ht] at hd; cases hd
            | ok b S4 =>
              rw [ht] at hd
              intro H4 g4 r4 go4
              have go4' := go4.mono mB1
              have car4 := car3.step wk r3 go4'
              have goA := go3.trans go4'
              cases b with
              | bl b =>
                refine ⟨b, rfl, ?_⟩
                cases b with
                | true =>
                  rw [if_pos rfl]
                  have hd : ((ev c false e S4).bind fun y S5 => .ok (some y) (wipeS S5 own)) = .ok oy S7 := hd
                  refine ⟨S4, g4, r4, ?_⟩
                  cases hev : ev c false e S4 with
                  | stuck => rw [hev] at hd; cases hd
                  | exc x S5 => rw [hev] at hd; cases hd
                  | ok y S5 =>
                    rw [hev] at hd
                    have hd : Res.ok (some y) (wipeS S5 own) = .ok oy S7 := hd
                    cases hd
                    intro H5 g5 r5 go5 v f5 x5
                    have go5' := go5.mono mB2
                    have car5 := car4.step wk r4 go5'
                    have goB := goA.trans go5'
                    have lp : LP (if acc.length < sizeLine then lcL (turnD c own tg cs e) (items.drop (n + 1)) (acc ++ [y]) (wipeS S5 own) else .stuck) := lp
                    by_cases hz : acc.length < sizeLine
                    · rw [if_pos hz] at lp
                      have fresh5 : ∀ a ∈ f5, a ∉ D' :: f := fun a ha hm => by
                        rcases x5.sub a ha with z | ⟨l, _, z⟩
                        · exact car4.trk a hm z
                        · exact car4.dj a hm l z
                      have nD : ∀ a ∈ f5, ¬ a = D' := fun a ha e => fresh5 a ha (by rw [e]; exact List.mem_cons_self)
                      have nDf : ∀ a ∈ f, ¬ a = D' := fun a ha e => (List.nodup_cons.mp car5.nd).1 (e ▸ ha)
                      have mu := mut1 car5.hD
                      have rb5 := (wf r5).keep (keep1 (o := .lst (accV ++ [v]))) mu fun j a ha e => car5.dj D' List.mem_cons_self j (by rw [← e]; exact (gw_sub ha).1)
                      have goC : Goes mB H1 (wipeS S1 own) (gw g1 own) (upd H5 D' (.lst (accV ++ [v]))) (wipeS S5 own) (gw g5 own) := by
                        have g := goB.trans (Goes.wipe own mB3)
                        refine ⟨fun a ob h n => ?_, g.same, g.sub⟩
                        have := g.keep a ob h n
                        rw [upd_ne]
                        · exact this
                        · intro e; rw [e, hD] at h; cases h
                      refine ⟨accV, car5.hD, by rw [← car5.rp.length]; exact hz, wipeS S5 own, gw g5 own, acc ++ [y], accV ++ [v], f ++ (f5 ++ []), rb5, goC, ⟨?_, fun a ha => ?_, car5.nB, upd_same, Reps.append (car5.rp.keep keep1 mu nDf) (.cons (x5.rep.keep keep1 mu nD) .nil), ?_, fun a ha j hj => ?_⟩, fun a ha => ?_, lp⟩
                      · exact wk.keep _ _ _ car5.p keep1 mu fun a ha e => car5.nB (by rw [← (show a = D' from e)]; exact ha)
                      · refine ⟨?_, fun j hj hg => (car5.b a ha).2 j hj (gw_sub hg).1⟩
                        rw [upd_ne (show a ≠ D' from fun e => car5.nB (by rw [← e]; exact ha))]
                        exact (car5.b a ha).1
                      · rw [List.append_nil]
                        refine List.nodup_cons.mpr ⟨fun z => (List.mem_append.mp z).elim (List.nodup_cons.mp car5.nd).1 fun z => nD D' z rfl, List.nodup_append.mpr ⟨(List.nodup_cons.mp car5.nd).2, x5.nd, fun a ha b hb e => fresh5 b hb (by rw [← e]; exact List.mem_cons_of_mem _ ha)⟩⟩
                      · rw [List.append_nil] at ha
                        have hj := (gw_sub hj).1
                        rcases List.mem_cons.mp ha with ea | ha
                        · exact car5.dj a (by rw [ea]; exact List.mem_cons_self) j hj
                        · rcases List.mem_append.mp ha with ha | ha
                          · exact car5.dj a (List.mem_cons_of_mem _ ha) j hj
                          · exact x5.dj a ha j hj
                      · rw [List.append_nil] at ha
                        rcases List.mem_append.mp ha with ha | ha
                        · exact hsub a ha
                        · rcases x5.sub a ha with z | ⟨l, hl, z⟩
                          · exact goA.none z
                          · exact goA.sub l a (mB2 l hl) z
                    · rw [if_neg hz] at lp; exact lp.elim
                | false =>
                  rw [if_neg Bool.false_ne_true]
                  have hd : Res.ok none (wipeS S4 own) = .ok oy S7 := hd
                  cases hd
                  have gow : Goes mB H4 S4 g4 H4 (wipeS S4 own) (gw g4 own) := Goes.wipe own mB3
                  exact ⟨wipeS S4 own, gw g4 own, acc, accV, f, wf r4, goA.trans gow, car4.step wk r4 gow, hsub, lp⟩
              | _ => cases hd
          · cases hd
      · have en : n = items.length := by omega
        subst en
        rw [List.drop_length] at lp
        exact .inl ⟨wk.stop _ H car.p (Nat.le_refl _), lp H g2 accV f r2 go2 car hsub⟩
theorem ok_lc {own : List Nat} {tg : Tg} {it : It} {cs : Es} {e : E} (hi : OkIt T k c it) (hcs : OkEs T k c cs) (he : OkE T k c e) : OkE T k c (.lc own tg it cs e) := by
  intro z X D x hx
  obtain ⟨elt, t, i, ifs, scope, p, o, rfl, blk, hs, H⟩ := lc_parts hi hcs he D hx
  have sv : SE T X (E.md false (.lc own tg it cs e)) (.ListComp elt [⟨t, i, ifs, 0⟩] scope p) fun S => (evIt c (cs.md true ++ e.md false) it S).bind fun items S1 =>
      (lcL (turnD c own tg cs e) items [] (wipeS S1 own)).bind fun ys S6 => .ok (.lst ys) (unwipe S1 S6 own) := fun W0 tk => by
    obtain ⟨wi, g, tt, te, h1, h2, h3, h4, h5⟩ := H W0 tk
    exact imE (pe_lc D.calm (by rw [D.N]; exact D.nd) h1 blk h2 h3 h4 hs) h5
  obtain ⟨g1, g2⟩ := okV (e := .lc own tg it cs e) D (fun _ _ => rfl) sv rfl (by simp only [E.md])
    (fun S => by simp only [ev, Res.bind_assoc]; rfl) (fun S => by simp only [ev, Res.bind_assoc]; rfl)
  exact ⟨fun hl => by simp [E.isLk] at hl, g1, g2, fun i hi => by cases hi⟩

/-! ### dict comprehensions -/
theorem Reps.dset {K : PySem.W.Frag} {H : Hp} {w : W} {v : V} {k : Key} (rw' : Rep K H w v []) : ∀ {kvs : List (Key × V)} {ws : List W}, Reps K H ws (kvs.map (·.2)) [] → Reps K H (Own.dset (kvs.map (·.1)) ws k w) ((kvs.map fun kv => if kv.1 = k then (kv.1, v) else kv).map (·.2)) [] ∧ ((kvs.map fun kv => if kv.1 = k then (kv.1, v) else kv).map (·.1)) = kvs.map (·.1)
  | [], ws, r => by
    cases r
    exact ⟨.nil, rfl⟩
  | p :: kvs, [], r => by cases r
  | p :: kvs, x :: ws, r => by
    generalize e0 : ([] : List Addr) = f0 at r
    cases r with
    | cons ra rb =>
      obtain ⟨rfl, rfl⟩ : _ = [] ∧ _ = [] := by simpa using e0.symm
      obtain ⟨h1, h2⟩ := Reps.dset (k := k) rw' rb
      by_cases e : p.1 = k
      · simp only [List.map_cons, Own.dset, e, if_true]
        exact ⟨.cons (f := []) (g := []) rw' h1, by rw [h2]⟩
      · simp only [List.map_cons, Own.dset, e, if_false]
        exact ⟨.cons (f := []) (g := []) ra h1, by rw [h2]⟩
theorem putK_dc {K : PySem.W.Frag} {H : Hp} {kvs : List (Key × V)} {acc : List Key × List W} {key : Key} {z : W} {v : V} (hk : kvs.map (·.1) = acc.1) (rr : Reps K H acc.2 (kvs.map (·.2)) []) (rz : Rep K H z v []) :
    (putK kvs key v).map (·.1) = (dcPut acc key z).1 ∧ Reps K H (dcPut acc key z).2 ((putK kvs key v).map (·.2)) [] := by
  unfold dcPut
  by_cases hm : key ∈ acc.1
  · rw [if_pos (hasK_iff.mpr hm)]
    have hput : putK kvs key v = kvs.map (fun kv => if kv.1 = key then (kv.1, v) else kv) := by
      unfold putK
      rw [if_pos]
      rw [← hk] at hm
      obtain ⟨p, hp, e⟩ := List.mem_map.mp hm
      exact List.any_eq_true.mpr ⟨p, hp, by simpa using e⟩
    obtain ⟨d1, d2⟩ := Reps.dset (k := key) rz rr
    rw [hput, ← hk]
    exact ⟨d2, d1⟩
  · rw [if_neg fun h => hm (hasK_iff.mp h)]
    have hput : putK kvs key v = kvs ++ [(key, v)] := by
      unfold putK
      rw [if_neg]
      intro h
      obtain ⟨p, hp, e⟩ := List.any_eq_true.mp h
      exact hm (by rw [← hk]; exact List.mem_map.mpr ⟨p, hp, by simpa using e⟩)
    rw [hput, List.map_append, List.map_append, hk]
    exact ⟨rfl, Reps.append rr (.cons (f := []) (g := []) rz .nil)⟩
/-- what a dict comprehension carries -/
structure CarD (K : PySem.W.Frag) (P : Hp → Prop) (B : List Addr) (D : Addr) (acc : List Key × List W) (kvs : List (Key × V)) (m : Nat → Prop) (H : Hp) (g : Nat → List Addr) : Prop where
  p : P H
  b : ∀ a ∈ B, H a ≠ none ∧ ∀ j, m j → a ∉ g j
  nB : D ∉ B
  hD : H D = some (.dK kvs)
  hk : kvs.map (·.1) = acc.1
  rp : Reps K H acc.2 (kvs.map (·.2)) []
  dj : ∀ j, D ∉ g j
theorem CarD.step {K : PySem.W.Frag} {P : Hp → Prop} {B : List Addr} {D : Addr} {acc : List Key × List W} {ws : List W} {kvs : List (Key × V)} {m : Nat → Prop} {H H' : Hp} {S S1 : SW} {σ : St} {g g1 : Nat → List Addr} {J : L2.It} (c : CarD K P B D acc kvs m H g) (wk : Walk K J ws P B) (r : SR K H S σ g) (go : Goes m H S g H' S1 g1) : CarD K P B D acc kvs m H' g1 where
  p := wk.keep H H' (Ow m g) c.p go.keep r.mut fun a ha ⟨j, hj, z⟩ => (c.b a ha).2 j hj z
  b := fun a ha => by
    refine ⟨fun z => ?_, fun j hj z => ?_⟩
    · rcases go.keep.none_of z with q | ⟨j, hj, q⟩
      · exact (c.b a ha).1 q
      · exact (c.b a ha).2 j hj q
    · rcases go.sub j a hj z with q | ⟨i, hi, q⟩
      · exact (c.b a ha).1 q
      · exact (c.b a ha).2 i hi q
  nB := c.nB
  hD := go.keep D _ c.hD fun ⟨j, _, z⟩ => c.dj j z
  hk := c.hk
  rp := c.rp.keep go.keep r.mut fun _ z => nomatch z
  dj := fun j => dj_step (f := [D]) r go (fun a ha => by
    have e : a = D := by simpa using ha
    rw [e, c.hD]; exact fun z => nomatch z) (fun a ha j z => by
    have e : a = D := by simpa using ha
    exact c.dj j (e ▸ z)) D (by simp) j
/-- one turn, as told -/
def turnDc (c : Fn) (own : List Nat) (tg : Tg) (cs : Es) (ek e : E) (w : W) (S2 : SW) : Res (Option (W × W)) := match setTg tg w S2 with
  | some S3 => (evTs c cs S3).bind fun b S4 => match b with
    | .bl true => (ev c false ek S4).bind fun y S5 => (ev c false e S5).bind fun z S6 => .ok (some (y, z)) (wipeS S6 own)
    | .bl false => .ok none (wipeS S4 own)
    | _ => .stuck
  | none => .stuck
theorem dcL_cons {d : W → SW → Res (Option (W × W))} {w : W} {ws : List W} {acc : List Key × List W} {S : SW} : dcL d (w :: ws) acc S = match d w S with
    | .ok (some (y, z)) S1 => (match dkey y with
      | some k => if z.pure && decide (acc.1.length < sizeLine) then dcL d ws (dcPut acc k z) S1 else .stuck
      | none => .stuck)
    | .ok none S1 => dcL d ws acc S1
    | _ => .stuck := rfl
theorem dc_parts {own : List Nat} {tg : Tg} {it : It} {cs : Es} {ek e : E} (hi : OkIt T k c it) (hcs : OkEs T k c cs) (hk : OkE T k c ek) (he : OkE T k c e) (D : SD T k c z X) {x : Expr} (hx : chkE z (.dc own tg it cs ek e) x = true) :
    ∃ kx elt t i ifs scope p o, x = .DictComp kx elt [⟨t, i, ifs, 0⟩] scope p ∧ BlkOk X.N X.env.scope scope o ∧ (∀ x, foldedSetIterable i X.env x = pure x) ∧ ∀ W0, Takes X W0 → ∃ wi g tt tk2 te, PI X t i wi ∧
      (∀ (s : Shared) (H : Hp) (C : Addr) (cl : List (Str × Addr)) (fp : List Addr), PG (X.blk s H scope (compEnvC scope cl C X.env) fp) t g) ∧ (∀ (s : Shared) (H : Hp) (C : Addr) (cl : List (Str × Addr)) (fp : List Addr), PTs (X.blk s H scope (compEnvC scope cl C X.env) fp) ifs tt) ∧
      (∀ (s : Shared) (H : Hp) (C : Addr) (cl : List (Str × Addr)) (fp : List Addr), PE (X.blk s H scope (compEnvC scope cl C X.env) fp) kx tk2) ∧ (∀ (s : Shared) (H : Hp) (C : Addr) (cl : List (Str × Addr)) (fp : List Addr), PE (X.blk s H scope (compEnvC scope cl C X.env) fp) elt te) ∧
      ∀ σ H Q, tV T W0 (· ∈ E.md false (.dc own tg it cs ek e)) (fun S => (evIt c (cs.md true ++ (ek.md false ++ e.md false)) it S).bind fun items S1 => (dcL (turnDc c own tg cs ek e) items ([], []) (wipeS S1 own)).bind fun ys S6 => .ok (.dict ys.1 ys.2) (unwipe S1 S6 own)) σ H Q → tDc wi g tt tk2 te (o.map (·.2)) σ H Q := by
  obtain ⟨kx, elt, t, i, ifs, scope, p, o, rfl, ho, hb, hin, h1, h2, h3, h5, h4⟩ := inv_dc hx
  have hown := ownN_map ho
  have blk := blkOk_by hb
  rw [← D.N, ← D.sc] at blk
  have tgin : ∀ j, j ∈ tg.slots → j ∈ own := fun j hj => by
    have := List.all_eq_true.mp hin j hj
    simpa using this
  refine ⟨kx, elt, t, i, ifs, scope, p, o, rfl, blk, ?_, fun W0 tk => ?_⟩
  · intro x; cases i <;> first | rfl | (exfalso; cases it <;> simp only [chkIt, onC1, onC2, Bool.false_eq_true] at h2; rename_i e0; cases e0 <;> simp only [chkE, isOdd, Bool.not_true, Bool.false_and, Bool.false_eq_true] at h2)
  · have DB := fun (s : Shared) (H : Hp) (C : Addr) (cl : List (Str × Addr)) (fp : List Addr) => SD.blk (o := o) D blk.uniq s H C cl fp
    refine ⟨_, _, _, _, _, hi z X D i t (cs.md true ++ (ek.md false ++ e.md false)) h2 W0 tk, (fun s H C cl fp => ok_tg (DB s H C cl fp) h1), (fun s H C cl fp => hcs.ts _ _ (DB s H C cl fp) ifs h3 _ takes0), (fun s H C cl fp => (hk _ _ (DB s H C cl fp) kx h5).2.1 _ takes0), (fun s H C cl fp => (he _ _ (DB s H C cl fp) elt h4).2.1 _ takes0), fun σ H0 Q ⟨S0, g0, r0, h⟩ => ?_⟩
    rw [hown]
    have im : ∀ j, j ∈ it.md → j ∈ E.md false (.dc own tg it cs ek e) := fun j q => by simp only [E.md]; exact List.mem_append_left _ q
    have im2 : ∀ j, j ∈ cs.md true ++ (ek.md false ++ e.md false) → j ∈ E.md false (.dc own tg it cs ek e) := fun j q => by simp only [E.md]; exact List.mem_append_right _ q
    refine ⟨S0, g0, r0, (h.bindS.mono im).imp fun items S1 H1 g1 r1 go q J P B wk hP hB D' hD => ?_⟩
    obtain ⟨go, _, q⟩ := q
    -- the block's slots
    have ib : ∀ j, (j ∈ cs.md true ++ (ek.md false ++ e.md false)) → (j ∈ cs.md true ++ (ek.md false ++ e.md false) ∨ j ∈ own) := fun j h => .inl h
    generalize hmB : (fun j => j ∈ cs.md true ++ (ek.md false ++ e.md false) ∨ j ∈ own) = mB
    have mB1 : ∀ j, j ∈ cs.md true → mB j := fun j h => by rw [← hmB]; exact .inl (List.mem_append_left _ h)
    have mB0 : ∀ j, j ∈ ek.md false → mB j := fun j h => by rw [← hmB]; exact .inl (List.mem_append_right _ (List.mem_append_left _ h))
    have mB2 : ∀ j, j ∈ e.md false → mB j := fun j h => by rw [← hmB]; exact .inl (List.mem_append_right _ (List.mem_append_right _ h))
    have mB3 : ∀ j, j ∈ own → mB j := fun j h => by rw [← hmB]; exact .inr h
    have rb := r1.wipe own
    have wip : ∀ {σ2 : St}, σ2.length = σ.length → (∀ j, j ∉ own → σ2[j]? = σ[j]?) → wipe σ2 own = wipe σ own := fun h1 h2 => wipe_congr h1 h2
    -- what is wanted of the list
    let LP : Res (List Key × List W) → Prop := fun r => match r with
      | .ok ys S6 => ∀ H' g6 kvs, SR T.K H' S6 (wipe σ own) g6 → Goes mB H1 (wipeS S1 own) (gw g1 own) H' S6 g6 → CarD T.K P B D' ys kvs mB H' g6 → Q (.ref D') H'
      | _ => False
    have start : LP (dcL (turnDc c own tg cs ek e) items ([], []) (wipeS S1 own)) := by
      cases hr : dcL (turnDc c own tg cs ek e) items ([], []) (wipeS S1 own) with
      | stuck => rw [hr] at q; exact q.elim
      | exc x S6 =>
        exfalso
        have noexc : ∀ (ws : List W) (acc : List Key × List W) (S : SW) (x : Ex) (S6 : SW), dcL (turnDc c own tg cs ek e) ws acc S ≠ .exc x S6 := by
          intro ws
          induction ws with
          | nil => intro acc S x S6 h; cases h
          | cons w ws ih =>
            intro acc S x S6 h
            rw [dcL_cons] at h
            split at h
            · split at h
              · split at h
                · exact ih _ _ _ _ h
                · cases h
              · cases h
            · exact ih _ _ _ _ h
            · cases h
        exact noexc _ _ _ _ _ hr
      | ok ys S6 =>
        rw [hr] at q
        intro H' g6 kvs r6 go6 car
        have q : Post T W0 (· ∈ E.md false (.dc own tg it cs ek e)) σ H0 S0 g0 (Res.ok (W.dict ys.1 ys.2) (unwipe S1 S6 own)) _ := q
        have hl : S1.length = S6.length := by rw [r1.len, r6.len, wipe_length]
        have owb : ∀ {a : Addr}, Ow mB (gw g1 own) a → ∃ j, j ∈ cs.md true ++ (ek.md false ++ e.md false) ∧ a ∈ g1 j := fun ⟨j, hj, ha⟩ => by
          obtain ⟨h1, h2⟩ := gw_sub ha
          rw [← hmB] at hj
          exact ⟨j, hj.resolve_right h2, h1⟩
        have cross : ∀ {a : Addr} {i j : Nat}, i ∈ own → j ∉ own → a ∈ g1 i → a ∈ g6 j → False := fun {a i j} hi hj h1 h2 => by
          by_cases mj : mB j
          · rcases go6.sub j a mj h2 with z | ⟨l, _, z⟩
            · exact r1.trk h1 z
            · obtain ⟨z1, z2⟩ := gw_sub z
              have := r1.dj l i a z1 h1
              subst this
              exact z2 hi
          · rw [(go6.same j mj).2] at h2
            obtain ⟨z1, z2⟩ := gw_sub h2
            have := r1.dj j i a z1 h1
            subst this
            exact z2 hi
        let gu : Nat → List Addr := fun j => if j ∈ own then g1 j else g6 j
        have gu1 : ∀ {j}, j ∈ own → gu j = g1 j := fun h => if_pos h
        have gu2 : ∀ {j}, j ∉ own → gu j = g6 j := fun h => if_neg h
        have ru : SR T.K H' (unwipe S1 S6 own) σ gu := by
          refine ⟨by rw [unwipe_length, r6.len, wipe_length], fun j w h => ?_, fun j h => ?_, fun j => ?_, fun i j a h1 h2 => ?_⟩
          · rw [gt_unwipe hl] at h
            by_cases n : j ∈ own
            · rw [if_pos n] at h
              obtain ⟨v, h1, h2⟩ := r1.rep j w h
              refine ⟨v, h1, ?_⟩
              rw [gu1 n]
              refine h2.keep go6.keep rb.mut fun a ha ⟨l, _, z⟩ => ?_
              obtain ⟨z1, z2⟩ := gw_sub z
              have := r1.dj l j a z1 ha
              subst this
              exact z2 n
            · rw [if_neg n] at h
              obtain ⟨v, h1, h2⟩ := r6.rep j w h
              rw [wipe_out n] at h1
              exact ⟨v, h1, by rw [gu2 n]; exact h2⟩
          · rw [gt_unwipe hl] at h
            by_cases n : j ∈ own
            · rw [if_pos n] at h; rw [gu1 n]; exact r1.emp j h
            · rw [if_neg n] at h; rw [gu2 n]; exact r6.emp j h
          · by_cases n : j ∈ own
            · rw [gu1 n]; exact r1.nd j
            · rw [gu2 n]; exact r6.nd j
          · by_cases n1 : i ∈ own
            · rw [gu1 n1] at h1
              by_cases n2 : j ∈ own
              · rw [gu1 n2] at h2; exact r1.dj i j a h1 h2
              · rw [gu2 n2] at h2; exact (cross n1 n2 h1 h2).elim
            · rw [gu2 n1] at h1
              by_cases n2 : j ∈ own
              · rw [gu1 n2] at h2; exact (cross n2 n1 h2 h1).elim
              · rw [gu2 n2] at h2; exact r6.dj i j a h1 h2
        have toM : ∀ {a : Addr}, Ow mB (gw g1 own) a → H0 a = none ∨ Ow (· ∈ E.md false (.dc own tg it cs ek e)) g0 a := fun h => by
          obtain ⟨j, hj, ha⟩ := owb h
          exact go.sub j _ (im2 j hj) ha
        have gou : Goes (· ∈ E.md false (.dc own tg it cs ek e)) H0 S0 g0 H' (unwipe S1 S6 own) gu := by
          refine ⟨fun a ob h n => go6.keep a ob (go.keep a ob h n) fun z => ?_, fun j n => ?_, fun j a hj ha => ?_⟩
          · rcases toM z with q | q
            · rw [h] at q; cases q
            · exact n q
          · rw [gt_unwipe hl]
            by_cases no : j ∈ own
            · rw [if_pos no, gu1 no]; exact go.same j n
            · rw [if_neg no, gu2 no]
              have nm : ¬ mB j := fun z => by rw [← hmB] at z; exact z.elim (fun z => n (im2 j z)) no
              obtain ⟨s1, s2⟩ := go6.same j nm
              rw [s1, s2, gt_wipe, if_neg no]
              unfold gw
              rw [if_neg no]
              exact go.same j n
          · by_cases no : j ∈ own
            · rw [gu1 no] at ha; exact go.sub j a hj ha
            · rw [gu2 no] at ha
              by_cases nm : mB j
              · rcases go6.sub j a nm ha with z | z
                · exact go.none z
                · exact toM z
              · rw [(go6.same j nm).2] at ha
                exact go.sub j a hj (gw_sub ha).1
        refine q H' gu ru gou (.ref D') [D'] ⟨.dict car.hD car.hk car.rp, by simp, fun a ha => ?_, fun a ha j hj => ?_⟩
        · have ea : a = D' := by simpa using ha
          rw [ea]; exact go.none hD
        · have ea : a = D' := by simpa using ha
          subst ea
          by_cases no : j ∈ own
          · rw [gu1 no] at hj
            exact r1.trk hj hD
          · rw [gu2 no] at hj
            exact car.dj j hj
    -- the invariant
    let Inv : Nat → Hp → Prop := fun n H => ∃ S2 g2 acc kvs, SR T.K H S2 (wipe σ own) g2 ∧ Goes mB H1 (wipeS S1 own) (gw g1 own) H S2 g2 ∧ CarD T.K P B D' acc kvs mB H g2 ∧ LP (dcL (turnDc c own tg cs ek e) (items.drop n) acc S2)
    refine ⟨fun n m H => m = items.length - n ∧ n ≤ items.length ∧ Inv n H, ⟨items.length, by simp, Nat.zero_le _, ?_⟩, ?_⟩
    · have al : All H1 (upd H1 D' (.dK [])) := Keep.new hD
      refine ⟨_, _, ([], []), [], rb.all al, Goes.refl.all al, ⟨?_, fun a ha => ?_, fun z => (hB D' z).1 hD, upd_same, rfl, .nil, fun j hj => ?_⟩, by rw [List.drop_zero]; exact start⟩
      · exact wk.keep _ _ _ hP al (fun _ z => z.elim) fun _ _ z => z
      · refine ⟨fun z => (hB a ha).1 ?_, fun j hj hg => ?_⟩
        · exact (al.none_of z).elim id fun z => z.elim
        · obtain ⟨z1, z2⟩ := gw_sub hg
          rw [← hmB] at hj
          exact (hB a ha).2 j z1 (hj.resolve_right z2)
      · exact r1.trk (gw_sub hj).1 hD
    · rintro n m H ⟨rfl, hn, S2, g2, acc, kvs, r2, go2, car, lp⟩
      by_cases hlt : n < items.length
      · have hw : items[n]? = some items[n] := List.getElem?_eq_getElem hlt
        obtain ⟨jg, jy⟩ := wk.item n H _ car.p hw
        refine .inr ⟨jg, Inv (n + 1), fun H' h' => ⟨items.length - (n + 1), by omega, rfl, hlt, h'⟩, fun x H' hy => ?_⟩
        obtain ⟨al, rx⟩ := jy x H' hy
        rw [List.drop_eq_getElem_cons hlt, dcL_cons] at lp
        generalize items[n] = w at lp rx
        have r2' := r2.all al
        have go2' := go2.all al
        have car' := car.step wk r2 (Goes.refl (S := S2).all al)
        cases hd : turnDc c own tg cs ek e w S2 with
        | stuck => rw [hd] at lp; exact lp.elim
        | exc x S3 => rw [hd] at lp; exact lp.elim
        | ok oy S7 =>
          rw [hd] at lp
          unfold turnDc at hd
          split at hd
          · rename_i S3 es
            refine ⟨S2, g2, w, r2', rx, S3, es, fun σ2 g3 r3 ok => ?_⟩
            have len2 : σ2.length = σ.length := ok.len.trans (wipe_length _ _)
            have off2 : ∀ j, j ∉ own → σ2[j]? = σ[j]? := fun j hj => by
              rw [ok.sl j fun z => hj (tgin j z)]
              exact wipe_out hj
            have w2 := wip len2 off2
            have gt3 : Goes mB H' S2 g2 H' S3 g3 := ⟨Keep.refl, fun j hj => ok.st j fun z => hj (mB3 j (tgin j z)), fun j a hj ha => .inr ⟨j, hj, ok.gs j a ha⟩⟩
            have car3 := car'.step wk r2' gt3
            have go3 := go2'.trans gt3
            refine ⟨w2, S3, g3, r3, ?_⟩
            have wf : ∀ {S : SW} {H : Hp} {g : Nat → List Addr}, SR T.K H S σ2 g → SR T.K H (wipeS S own) (wipe σ own) (gw g own) := fun h => by
              have := h.wipe own
              rwa [w2] at this
            cases ht : evTs c cs S3 with
            | stuck => rw [ht] at hd; cases hd
            | exc x S4 => rw [ht] at hd; cases hd
            | ok b S4 =>
              rw [ht] at hd
              intro H4 g4 r4 go4
              have go4' := go4.mono mB1
              have car4 := car3.step wk r3 go4'
              have goA := go3.trans go4'
              cases b with
              | bl b =>
                refine ⟨b, rfl, ?_⟩
                cases b with
                | true =>
                  rw [if_pos rfl]
                  have hd : ((ev c false ek S4).bind fun y S5 => (ev c false e S5).bind fun z S6 => .ok (some (y, z)) (wipeS S6 own)) = .ok oy S7 := hd
                  refine ⟨S4, g4, r4, ?_⟩
                  cases hev : ev c false ek S4 with
                  | stuck => rw [hev] at hd; cases hd
                  | exc x S5 => rw [hev] at hd; cases hd
                  | ok y S5 =>
                    rw [hev] at hd
                    have hd : ((ev c false e S5).bind fun z S6 => .ok (some (y, z)) (wipeS S6 own)) = .ok oy S7 := hd
                    intro H5 g5 r5 go5 vy f5 x5
                    have go5' := go5.mono mB0
                    have car5 := car4.step wk r4 go5'
                    have goB := goA.trans go5'
                    refine ⟨S5, g5, r5, ?_⟩
                    cases hev2 : ev c false e S5 with
                    | stuck => rw [hev2] at hd; cases hd
                    | exc x S6 => rw [hev2] at hd; cases hd
                    | ok zz S6 =>
                      rw [hev2] at hd
                      have hd : Res.ok (some (y, zz)) (wipeS S6 own) = .ok oy S7 := hd
                      cases hd
                      intro H6 g6 r6 go6 vz f6 x6
                      have go6' := go6.mono mB2
                      have car6 := car5.step wk r5 go6'
                      have goC0 := goB.trans go6'
                      have lp : LP (match dkey y with
                        | some k => if zz.pure && decide (acc.1.length < sizeLine) then dcL (turnDc c own tg cs ek e) (items.drop (n + 1)) (dcPut acc k zz) (wipeS S6 own) else .stuck
                        | none => .stuck) := lp
                      cases hky : dkey y with
                      | none => rw [hky] at lp; exact lp.elim
                      | some key =>
                        rw [hky] at lp
                        simp only at lp
                        by_cases hz : (zz.pure && decide (acc.1.length < sizeLine)) = true
                        · rw [if_pos hz] at lp
                          simp only [Bool.and_eq_true, decide_eq_true_eq] at hz
                          have ef := x6.rep.own_pure hz.1
                          subst ef
                          have mu : AllMut H6 fun a => a = D' := fun a e => ⟨.dK kvs, by rw [e]; exact car6.hD, rfl⟩
                          have kp : ∀ {o : HO}, Keep (fun a => a = D') H6 (upd H6 D' o) := Keep.at rfl
                          have rb6 := (wf r6).keep (kp (o := .dK (putK kvs key vz))) mu fun j a ha e => car6.dj j (by rw [← e]; exact (gw_sub ha).1)
                          have goC : Goes mB H1 (wipeS S1 own) (gw g1 own) (upd H6 D' (.dK (putK kvs key vz))) (wipeS S6 own) (gw g6 own) := by
                            have g := goC0.trans (Goes.wipe own mB3)
                            refine ⟨fun a ob h n => ?_, g.same, g.sub⟩
                            have := g.keep a ob h n
                            rw [upd_ne]
                            · exact this
                            · intro e; rw [e, hD] at h; cases h
                          obtain ⟨pk1, pk2⟩ := putK_dc (key := key) car6.hk car6.rp x6.rep
                          have hkl : kvs.length = acc.1.length := by rw [← car6.hk, List.length_map]
                          refine ⟨kvs, key, x5.rep.key hky, car6.hD, by rw [hkl]; exact hz.2, wipeS S6 own, gw g6 own, dcPut acc key zz, putK kvs key vz, rb6, goC, ⟨?_, fun a ha => ?_, car6.nB, upd_same, pk1, pk2.keep kp mu (fun _ z => nomatch z), fun j hj => ?_⟩, lp⟩
                          · exact wk.keep _ _ _ car6.p kp mu fun a ha e => car6.nB (by rw [← (show a = D' from e)]; exact ha)
                          · refine ⟨?_, fun j hj hg => (car6.b a ha).2 j hj (gw_sub hg).1⟩
                            rw [upd_ne (show a ≠ D' from fun e => car6.nB (by rw [← e]; exact ha))]
                            exact (car6.b a ha).1
                          · exact car6.dj j (gw_sub hj).1
                        · rw [if_neg hz] at lp; exact lp.elim
                | false =>
                  rw [if_neg Bool.false_ne_true]
                  have hd : Res.ok none (wipeS S4 own) = .ok oy S7 := hd
                  cases hd
                  have gow : Goes mB H4 S4 g4 H4 (wipeS S4 own) (gw g4 own) := Goes.wipe own mB3
                  exact ⟨wipeS S4 own, gw g4 own, acc, kvs, wf r4, goA.trans gow, car4.step wk r4 gow, lp⟩
              | _ => cases hd
          · cases hd
      · have en : n = items.length := by omega
        subst en
        rw [List.drop_length] at lp
        exact .inl ⟨wk.stop _ H car.p (Nat.le_refl _), lp H g2 kvs r2 go2 car⟩
theorem ok_dc {own : List Nat} {tg : Tg} {it : It} {cs : Es} {ek e : E} (hi : OkIt T k c it) (hcs : OkEs T k c cs) (hk : OkE T k c ek) (he : OkE T k c e) : OkE T k c (.dc own tg it cs ek e) := by
  intro z X D x hx
  obtain ⟨kx, elt, t, i, ifs, scope, p, o, rfl, blk, hs, H⟩ := dc_parts hi hcs hk he D hx
  have sv : SE T X (E.md false (.dc own tg it cs ek e)) (.DictComp kx elt [⟨t, i, ifs, 0⟩] scope p) fun S => (evIt c (cs.md true ++ (ek.md false ++ e.md false)) it S).bind fun items S1 =>
      (dcL (turnDc c own tg cs ek e) items ([], []) (wipeS S1 own)).bind fun ys S6 => .ok (.dict ys.1 ys.2) (unwipe S1 S6 own) := fun W0 tk => by
    obtain ⟨wi, g, tt, tk2, te, h1, h2, h3, h6, h4, h5⟩ := H W0 tk
    exact imE (pe_dc D.calm (by rw [D.N]; exact D.nd) h1 blk h2 h3 h6 h4 hs) h5
  obtain ⟨g1, g2⟩ := okV (e := .dc own tg it cs ek e) D (fun _ _ => rfl) sv rfl (by simp only [E.md])
    (fun S => by simp only [ev, Res.bind_assoc]; rfl) (fun S => by simp only [ev, Res.bind_assoc]; rfl)
  exact ⟨fun hl => by simp [E.isLk] at hl, g1, g2, fun i hi => by cases hi⟩

/-! ### all forms -/
mutual
theorem ok_E : ∀ e : E, OkE T k c e
  | .var _ => ok_var | .int _ => ok_int | .str _ => ok_str | .bl _ => ok_bl | .non => ok_non | .glob _ => ok_glob
  | .bin _ a b => ok_bin (ok_E a) (ok_E b) | .neg a => ok_neg (ok_E a) | .cmp _ a b => ok_cmp (ok_E a) (ok_E b)
  | .and es => ok_and (ok_Es es) | .or es => ok_or (ok_Es es) | .not a => ok_not (ok_E a) | .ite d a b => ok_ite (ok_E d) (ok_E a) (ok_E b)
  | .tup es => ok_tup (ok_Es es) | .lst es => ok_lst (ok_Es es) | .idx a b => ok_idx (ok_E a) (ok_E b) | .sl a lo hi => ok_sl (ok_E a) (ok_E lo) (ok_E hi)
  | .call _ es => ok_call (ok_Es es) | .b1 _ a => ok_b1 (ok_E a) | .b2 _ a b => ok_b2 (ok_E a) (ok_E b) | .isi a _ => ok_isi (ok_E a)
  | .lc _ _ it cs e => ok_lc (ok_It it) (ok_Es cs) (ok_E e)
  | .lrev a => ok_lrev (ok_E a) | .dc _ _ it cs kk e => ok_dc (ok_It it) (ok_Es cs) (ok_E kk) (ok_E e)
  | .pop _ => ok_pop | .app _ e => ok_app (ok_E e) | .ext _ e => ok_ext (ok_E e) | .rev _ => ok_rev | .frz e => ok_frz (ok_E e)
  | .dn => ok_dn | .dl _ vs => ok_dl (ok_Al vs) | .get _ a b => ok_get (ok_E a) (ok_E b) | .join _ e => ok_join (ok_E e) | .gidx _ a => ok_gidx (ok_E a) | .gin _ _ a => ok_gin (ok_E a)
theorem ok_Al : ∀ es : Es, AllOk T k c es
  | .nil => True.intro | .cons e es => ⟨ok_E e, ok_Al es⟩
theorem ok_Es : ∀ es : Es, OkEs T k c es
  | .nil => okEs_nil | .cons e es => okEs_cons (ok_E e) (ok_Es es)
theorem ok_It : ∀ it : It, OkIt T k c it
  | .seq e => okIt_seq (ok_E e) | .rng e => okIt_rng (ok_E e) | .rng2 a b => okIt_rng2 (ok_E a) (ok_E b)
end
end
end Own

/-! Own, part O: statements as data of our own, what they do, and the text they stand for -/
namespace Own
open PySem L2
inductive Fl where | nx | bk | ct | rt (w : W)
mutual
inductive Sm where
  | set (i : Nat) (e : E) | setM (is : List Nat) (e : E) | aug (i : Nat) (o : BOp) (e : E) | put (i : Nat) (k e : E)
  | expr (e : E) | ret (e : E) | retN | ite (d : E) (a b : Sb) | whl (d : E) (b : Sb) | for_ (t : Tg) (it : It) (b : Sb)
  | brk | cont | pass | delT (i : Nat) (e : E)
inductive Sb where | nil | cons (s : Sm) (b : Sb)
  /-- from here on nobody changes what stands in the slot -/
  | fz (i : Nat) (b : Sb)
end
/-! the slots that may be changed; those that are stored to -/
mutual
def Sm.md : Sm → List Nat
  | .set i e => i :: e.md false | .setM is e => is ++ (if e.isLk then [] else e.md false) | .aug i _ e => i :: e.md false | .put i k e => i :: (e.md false ++ k.md false)
  | .expr e => e.md false | .ret e => e.md false | .retN => [] | .ite d a b => d.md true ++ (a.md ++ b.md) | .whl d b => d.md true ++ b.md
  | .for_ t it b => t.slots ++ (it.md ++ b.md) | .brk => [] | .cont => [] | .pass => [] | .delT i e => i :: e.md false
def Sb.md : Sb → List Nat
  | .nil => [] | .cons s b => s.md ++ b.md | .fz i b => i :: b.md
end
mutual
def Sm.asn : Sm → List Nat
  | .set i _ => [i] | .setM is _ => is | .aug i _ _ => [i] | .put _ _ _ => [] | .expr _ => [] | .ret _ => [] | .retN => []
  | .ite _ a b => a.asn ++ b.asn | .whl _ b => b.asn | .for_ t _ b => t.slots ++ b.asn | .brk => [] | .cont => [] | .pass => [] | .delT _ _ => []
def Sb.asn : Sb → List Nat
  | .nil => [] | .cons s b => s.asn ++ b.asn | .fz _ b => b.asn
end
/-- more turns than any loop of ours takes -/
def fuel : Nat := 1000000000000000000
def whL (d : SW → Res W) (b : SW → Res Fl) : Nat → SW → Res Fl
  | 0, _ => .stuck
  | n + 1, S => (d S).bind fun w S1 => match w with
    | .bl true => (b S1).bind fun f S2 => match f with
      | .nx => whL d b n S2 | .ct => whL d b n S2 | .bk => .ok .nx S2 | .rt w => .ok (.rt w) S2
    | .bl false => .ok .nx S1
    | _ => .stuck
def foL (b : W → SW → Res Fl) : List W → SW → Res Fl
  | [], S => .ok .nx S
  | w :: ws, S => (b w S).bind fun f S2 => match f with
      | .nx => foL b ws S2 | .ct => foL b ws S2 | .bk => .ok .nx S2 | .rt w => .ok (.rt w) S2
def augW : BOp → W → W → Option W
  | .add, .int i, .int j => some (.int (i + j))
  | .add, .str x, .str y => if x.length + y.length ≤ sizeLine then some (.str (x ++ y)) else none
  | .sub, .int i, .int j => some (.int (i - j))
  | .mul, .int i, .int j => if mulOk i j then some (.int (i * j)) else none
  | _, _, _ => none
def isLD : Option W → Bool
  | some (.lst _) => true | some (.dict _ _) => true | _ => false
def putR (o : Option W) (n w : W) : Option W := match o with
  | some (.lst xs) => (match n with
    | .int k => (ixN xs.length k).map fun j => .lst (xs.set j w)
    | _ => none)
  | some (.dict ks ws) => (dkey n).bind fun k => if pureL ws && (w.pure && decide (ks.length < sizeLine)) then (if hasK ks k then some (.dict ks (dset ks ws k w)) else some (.dict (ks ++ [k]) (ws ++ [w]))) else none
  | _ => none
theorem putR_of {o : Option W} {n w u : W} (h : putR o n w = some u) : (∃ xs k j, o = some (.lst xs) ∧ n = .int k ∧ ixN xs.length k = some j ∧ u = .lst (xs.set j w)) ∨
    ∃ ks ws k, o = some (.dict ks ws) ∧ dkey n = some k ∧ pureL ws = true ∧ w.pure = true ∧ ks.length < sizeLine ∧ ((k ∈ ks ∧ u = .dict ks (dset ks ws k w)) ∨ (k ∉ ks ∧ u = .dict (ks ++ [k]) (ws ++ [w]))) := by
  unfold putR at h
  split at h
  · split at h
    · simp only [Option.map_eq_some_iff] at h
      obtain ⟨j, h1, h2⟩ := h
      exact .inl ⟨_, _, j, rfl, rfl, h1, h2.symm⟩
    · cases h
  · simp only [Option.bind_eq_some_iff] at h
    obtain ⟨k, h1, h2⟩ := h
    split at h2
    · rename_i hc
      simp only [Bool.and_eq_true, decide_eq_true_eq] at hc
      split at h2
      · rename_i hm; cases h2; exact .inr ⟨_, _, k, rfl, h1, hc.1, hc.2.1, hc.2.2, .inl ⟨hasK_iff.mp hm, rfl⟩⟩
      · rename_i hm; cases h2; exact .inr ⟨_, _, k, rfl, h1, hc.1, hc.2.1, hc.2.2, .inr ⟨fun z => hm (hasK_iff.mpr z), rfl⟩⟩
    · cases h2
  · cases h
/-- a list without its tail -/
def delTW : Option W → W → Option W
  | some (.lst xs), .int n => if pureL xs && decide (0 ≤ n) then some (.lst (xs.take n.toNat)) else none
  | _, _ => none
mutual
def ex (c : Fn) : Sm → SW → Res Fl
  | .set i e, S => (ev c false e S).bind fun w S1 => .ok .nx (S1.set i (some w))
  | .setM is e, S => (if e.isLk then lift (lk c e S) S else ev c false e S).bind fun w S1 => if w.pure then (match setTg (.many is) w S1 with
    | some S2 => .ok .nx S2 | none => .stuck) else .stuck
  | .aug i o e, S => match gt S i with
    | some x => if x.pure then (ev c false e S).bind fun y S1 => (lift (augW o x y) S1).bind fun w S2 => .ok .nx (S2.set i (some w)) else .stuck
    | none => .stuck
  | .put i k e, S => (ev c false e S).bind fun w S1 => if isLD (gt S1 i) then (ev c false k S1).bind fun n S2 => (lift (putR (gt S2 i) n w) S2).bind fun u S3 => .ok .nx (S3.set i (some u)) else .stuck
  | .expr e, S => (ev c false e S).bind fun _ S1 => .ok .nx S1
  | .ret e, S => (ev c false e S).bind fun w S1 => .ok (.rt w) S1
  | .retN, S => .ok (.rt .non) S
  | .ite d a b, S => (ev c true d S).bind fun w S1 => match w with
    | .bl true => exb c a S1 | .bl false => exb c b S1 | _ => .stuck
  | .whl d b, S => whL (ev c true d) (exb c b) fuel S
  | .for_ t it b, S => (evIt c (t.slots ++ b.md) it S).bind fun ws S1 => foL (fun w S2 => match setTg t w S2 with
    | some S3 => exb c b S3 | none => .stuck) ws S1
  | .brk, S => .ok .bk S
  | .cont, S => .ok .ct S
  | .pass, S => .ok .nx S
  | .delT i e, S => if isL (gt S i) then (ev c false e S).bind fun w S1 => (lift (delTW (gt S1 i) w) S1).bind fun u S2 => .ok .nx (S2.set i (some u)) else .stuck
def exb (c : Fn) : Sb → SW → Res Fl
  | .nil, S => .ok .nx S
  | .cons s b, S => (ex c s S).bind fun f S1 => match f with
    | .nx => exb c b S1 | .bk => .ok .bk S1 | .ct => .ok .ct S1 | .rt w => .ok (.rt w) S1
  | .fz i b, S => match (gt S i).bind frzW with
    | some u => exb c b (S.set i (some u)) | none => .stuck
end

/-! ### the text -/
def isLC : Expr → Bool
  | .ListComp _ _ _ _ => true | .SetComp _ _ _ _ => true | .DictComp _ _ _ _ _ => true | _ => false
def isTL : Expr → Bool
  | .Tuple _ _ _ => true | .List _ _ => true | _ => false
def onSet (f : Str → Expr → Bool) : Stmt → Bool
  | .Assign [.Name y _] x _ => f y x | _ => false
theorem onSet_inv {f : Str → Expr → Bool} {s : Stmt} (h : onSet f s = true) : ∃ y q w p, s = .Assign [.Name y q] w p ∧ f y w = true := by
  unfold onSet at h
  split at h
  · exact ⟨_, _, _, _, rfl, h⟩
  · cases h
def onSetM (f : List Expr → Expr → Bool) : Stmt → Bool
  | .Assign [.Tuple xs _ _] x _ => f xs x | _ => false
theorem onSetM_inv {f : List Expr → Expr → Bool} {s : Stmt} (h : onSetM f s = true) : ∃ xs k q w p, s = .Assign [.Tuple xs k q] w p ∧ f xs w = true := by
  unfold onSetM at h
  split at h
  · exact ⟨_, _, _, _, _, rfl, h⟩
  · cases h
def onAug (f : Str → Operator → Expr → Bool) : Stmt → Bool
  | .AugAssign (.Name y _) o x _ => f y o x | _ => false
theorem onAug_inv {f : Str → Operator → Expr → Bool} {s : Stmt} (h : onAug f s = true) : ∃ y q o w p, s = .AugAssign (.Name y q) o w p ∧ f y o w = true := by
  unfold onAug at h
  split at h
  · exact ⟨_, _, _, _, _, rfl, h⟩
  · cases h
def onPut (f : Str → Expr → Expr → Bool) : Stmt → Bool
  | .Assign [.Subscript (.Name y _) x _] w _ => f y x w | _ => false
theorem onPut_inv {f : Str → Expr → Expr → Bool} {s : Stmt} (h : onPut f s = true) : ∃ y q n r w p, s = .Assign [.Subscript (.Name y q) n r] w p ∧ f y n w = true := by
  unfold onPut at h
  split at h
  · exact ⟨_, _, _, _, _, _, rfl, h⟩
  · cases h
def onExpr (f : Expr → Bool) : Stmt → Bool
  | .Expr x _ => f x | _ => false
theorem onExpr_inv {f : Expr → Bool} {s : Stmt} (h : onExpr f s = true) : ∃ w p, s = .Expr w p ∧ f w = true := by
  unfold onExpr at h
  split at h
  · exact ⟨_, _, rfl, h⟩
  · cases h
def onRet (f : Expr → Bool) : Stmt → Bool
  | .Return (some x) _ => f x | _ => false
theorem onRet_inv {f : Expr → Bool} {s : Stmt} (h : onRet f s = true) : ∃ w p, s = .Return (some w) p ∧ f w = true := by
  unfold onRet at h
  split at h
  · exact ⟨_, _, rfl, h⟩
  · cases h
def onIf (f : Expr → List Stmt → List Stmt → Bool) : Stmt → Bool
  | .If x p q _ => f x p q | _ => false
theorem onIf_inv {f : Expr → List Stmt → List Stmt → Bool} {s : Stmt} (h : onIf f s = true) : ∃ w p q r, s = .If w p q r ∧ f w p q = true := by
  unfold onIf at h
  split at h
  · exact ⟨_, _, _, _, rfl, h⟩
  · cases h
def onWhl (f : Expr → List Stmt → Bool) : Stmt → Bool
  | .While x p [] _ => f x p | _ => false
theorem onWhl_inv {f : Expr → List Stmt → Bool} {s : Stmt} (h : onWhl f s = true) : ∃ w p r, s = .While w p [] r ∧ f w p = true := by
  unfold onWhl at h
  split at h
  · exact ⟨_, _, _, rfl, h⟩
  · cases h
def onFor (f : Expr → Expr → List Stmt → Bool) : Stmt → Bool
  | .For t x p [] _ => f t x p | _ => false
theorem onFor_inv {f : Expr → Expr → List Stmt → Bool} {s : Stmt} (h : onFor f s = true) : ∃ t w p r, s = .For t w p [] r ∧ f t w p = true := by
  unfold onFor at h
  split at h
  · exact ⟨_, _, _, _, rfl, h⟩
  · cases h
def onDelT (f : Str → Expr → Bool) : Stmt → Bool
  | .Delete [.Subscript (.Name y _) (.Slice (some x) none none _) _] _ => f y x | _ => false
theorem onDelT_inv {f : Str → Expr → Bool} {s : Stmt} (h : onDelT f s = true) : ∃ y q w r p p2, s = .Delete [.Subscript (.Name y q) (.Slice (some w) none none r) p] p2 ∧ f y w = true := by
  unfold onDelT at h
  split at h
  · exact ⟨_, _, _, _, _, _, rfl, h⟩
  · cases h
def isRetN : Stmt → Bool
  | .Return none _ => true | _ => false
def isBrk : Stmt → Bool
  | .Break _ => true | _ => false
def isCont : Stmt → Bool
  | .Continue _ => true | _ => false
def isPass : Stmt → Bool
  | .Pass _ => true | _ => false
mutual
def chkS (z : Chk) : Sm → Stmt → Bool
  | .set i e, s => onSet (fun y x => z.loc i y && chkE z e x) s
  | .setM is e, s => onSetM (fun xs x => chkTgs z is xs && (chkE z e x && (!isTL x && !isLC x))) s
  | .aug i o e, s => onAug (fun y p x => z.loc i y && (decide (p = opAst o) && chkE z e x)) s
  | .put i k e, s => onPut (fun y x w => z.vis i y && (chkE z k x && chkE z e w)) s
  | .expr e, s => onExpr (fun x => chkE z e x && !isLC x) s
  | .ret e, s => onRet (fun x => chkE z e x) s
  | .retN, s => isRetN s
  | .ite d a b, s => onIf (fun x p q => chkE z d x && (chkB z a p && chkB z b q)) s
  | .whl d b, s => onWhl (fun x p => chkE z d x && chkB z b p) s
  | .for_ t it b, s => onFor (fun tg x p => chkTg z t tg && (chkIt z it x && chkB z b p)) s
  | .brk, s => isBrk s
  | .cont, s => isCont s
  | .pass, s => isPass s
  | .delT i e, s => onDelT (fun y x => z.vis i y && chkE z e x) s
def chkB (z : Chk) : Sb → List Stmt → Bool
  | .nil, l => l.isEmpty
  | .cons s b, l => match l with
    | x :: r => chkS z s x && chkB z b r
    | [] => false
  | .fz _ b, l => chkB z b l
end
section
variable {z : Chk} {x : Stmt}
theorem inv_set {i : Nat} {e : E} (h : chkS z (.set i e) x = true) : ∃ y q w p, x = .Assign [.Name y q] w p ∧ z.loc i y = true ∧ chkE z e w = true := by
  unfold chkS at h
  obtain ⟨y, q, w, p, rfl, h2⟩ := onSet_inv h
  simp only [Bool.and_eq_true] at h2
  exact ⟨_, _, _, _, rfl, h2.1, h2.2⟩
theorem inv_setM {is : List Nat} {e : E} (h : chkS z (.setM is e) x = true) : ∃ xs k q w p, x = .Assign [.Tuple xs k q] w p ∧ chkTgs z is xs = true ∧ chkE z e w = true ∧ isTL w = false ∧ isLC w = false := by
  unfold chkS at h
  obtain ⟨_, _, _, _, _, rfl, h2⟩ := onSetM_inv h
  simp only [Bool.and_eq_true, Bool.not_eq_true'] at h2
  exact ⟨_, _, _, _, _, rfl, h2.1, h2.2.1, h2.2.2.1, h2.2.2.2⟩
theorem inv_aug {i : Nat} {o : BOp} {e : E} (h : chkS z (.aug i o e) x = true) : ∃ y q w p, x = .AugAssign (.Name y q) (opAst o) w p ∧ z.loc i y = true ∧ chkE z e w = true := by
  unfold chkS at h
  obtain ⟨_, _, _, _, _, rfl, h2⟩ := onAug_inv h
  simp only [Bool.and_eq_true, decide_eq_true_eq] at h2
  obtain ⟨h1, rfl, h3⟩ := h2
  exact ⟨_, _, _, _, rfl, h1, h3⟩
theorem inv_put {i : Nat} {k e : E} (h : chkS z (.put i k e) x = true) : ∃ y q n r w p, x = .Assign [.Subscript (.Name y q) n r] w p ∧ z.vis i y = true ∧ chkE z k n = true ∧ chkE z e w = true := by
  unfold chkS at h
  obtain ⟨_, _, _, _, _, _, rfl, h2⟩ := onPut_inv h
  simp only [Bool.and_eq_true] at h2
  exact ⟨_, _, _, _, _, _, rfl, h2.1, h2.2.1, h2.2.2⟩
theorem inv_expr {e : E} (h : chkS z (.expr e) x = true) : ∃ w p, x = .Expr w p ∧ chkE z e w = true ∧ isLC w = false := by
  unfold chkS at h
  obtain ⟨_, _, rfl, h2⟩ := onExpr_inv h
  simp only [Bool.and_eq_true, Bool.not_eq_true'] at h2
  exact ⟨_, _, rfl, h2.1, h2.2⟩
theorem inv_ret {e : E} (h : chkS z (.ret e) x = true) : ∃ w p, x = .Return (some w) p ∧ chkE z e w = true := by
  unfold chkS at h
  exact onRet_inv h
theorem inv_retN (h : chkS z .retN x = true) : ∃ p, x = .Return none p := by
  unfold chkS at h
  unfold isRetN at h
  split at h
  · exact ⟨_, rfl⟩
  · cases h
theorem inv_if {d : E} {a b : Sb} (h : chkS z (.ite d a b) x = true) : ∃ w p q r, x = .If w p q r ∧ chkE z d w = true ∧ chkB z a p = true ∧ chkB z b q = true := by
  unfold chkS at h
  obtain ⟨_, _, _, _, rfl, h2⟩ := onIf_inv h
  simp only [Bool.and_eq_true] at h2
  exact ⟨_, _, _, _, rfl, h2.1, h2.2.1, h2.2.2⟩
theorem inv_whl {d : E} {b : Sb} (h : chkS z (.whl d b) x = true) : ∃ w p r, x = .While w p [] r ∧ chkE z d w = true ∧ chkB z b p = true := by
  unfold chkS at h
  obtain ⟨_, _, _, rfl, h2⟩ := onWhl_inv h
  simp only [Bool.and_eq_true] at h2
  exact ⟨_, _, _, rfl, h2.1, h2.2⟩
theorem inv_for {t : Tg} {it : It} {b : Sb} (h : chkS z (.for_ t it b) x = true) : ∃ tg w p r, x = .For tg w p [] r ∧ chkTg z t tg = true ∧ chkIt z it w = true ∧ chkB z b p = true := by
  unfold chkS at h
  obtain ⟨_, _, _, _, rfl, h2⟩ := onFor_inv h
  simp only [Bool.and_eq_true] at h2
  exact ⟨_, _, _, _, rfl, h2.1, h2.2.1, h2.2.2⟩
theorem inv_brk (h : chkS z .brk x = true) : ∃ p, x = .Break p := by
  unfold chkS at h
  unfold isBrk at h
  split at h
  · exact ⟨_, rfl⟩
  · cases h
theorem inv_cont (h : chkS z .cont x = true) : ∃ p, x = .Continue p := by
  unfold chkS at h
  unfold isCont at h
  split at h
  · exact ⟨_, rfl⟩
  · cases h
theorem inv_pass (h : chkS z .pass x = true) : ∃ p, x = .Pass p := by
  unfold chkS at h
  unfold isPass at h
  split at h
  · exact ⟨_, rfl⟩
  · cases h
theorem inv_delT {i : Nat} {e : E} (h : chkS z (.delT i e) x = true) : ∃ y q w r p p2, x = .Delete [.Subscript (.Name y q) (.Slice (some w) none none r) p] p2 ∧ z.vis i y = true ∧ chkE z e w = true := by
  unfold chkS at h
  obtain ⟨_, _, _, _, _, _, rfl, h2⟩ := onDelT_inv h
  simp only [Bool.and_eq_true] at h2
  exact ⟨_, _, _, _, _, _, rfl, h2.1, h2.2⟩
theorem inv_bnil {r : List Stmt} (h : chkB z .nil r = true) : r = [] := by
  simp only [chkB, List.isEmpty_iff] at h
  exact h
theorem inv_bcons {s : Sm} {b : Sb} {r : List Stmt} (h : chkB z (.cons s b) r = true) : ∃ x l, r = x :: l ∧ chkS z s x = true ∧ chkB z b l = true := by
  simp only [chkB] at h
  split at h
  · simp only [Bool.and_eq_true] at h
    exact ⟨_, _, rfl, h.1, h.2⟩
  · cases h
end
end Own

/-! Own, part P: statements keep their promise -/
namespace Own
open PySem L2
/-- what is wanted behind a statement; as: the slots that it may store to -/
def PostS (T : Tab) (W0 : WX) (m : Nat → Prop) (as : List Nat) (σ : St) (H : Hp) (S : SW) (g : Nat → List Addr) (r : Res Fl) (D : Ends) : Prop := match r with
  | .ok fl S' => ∀ σ' H' g', SR T.K H' S' σ' g' → Goes m H S g H' S' g' → (∀ j, j ∉ as → σ'[j]? = σ[j]?) → match fl with
    | .nx => D.nx σ' H' | .bk => D.bk σ' H' | .ct => D.ct σ' H' | .rt w => ∀ v f, Vl T.K m H g w v f H' g' → D.rt v H'
  | .exc x S' => ∀ cls d σ' H' g', T.xr x cls d H' → SR T.K H' S' σ' g' → Goes m H S g H' S' g' → (∀ j, j ∉ as → σ'[j]? = σ[j]?) → W0 cls d σ' H'
  | .stuck => False
def tX (T : Tab) (W0 : WX) (m : List Nat) (as : List Nat) (d : SW → Res Fl) : TS := fun D σ H => ∃ S g, SR T.K H S σ g ∧ PostS T W0 (· ∈ m) as σ H S g (d S) D
section
variable {T : Tab} {W0 : WX} {m m' : Nat → Prop} {as as' : List Nat} {σ σ1 : St} {H H1 : Hp} {S S1 : SW} {g g1 : Nat → List Addr} {D : Ends}
/-- an expression within a statement -/
theorem PostS.expr {α : Type} {r : Res α} {k : α → SW → Res Fl} (h : PostS T W0 m as σ H S g (r.bind k) D) : Post T W0 m σ H S g r fun a S1 H1 g1 => Goes m H S g H1 S1 g1 ∧ SR T.K H1 S1 σ g1 ∧ PostS T W0 m as σ H S g (k a S1) D := by
  cases r with
  | stuck => exact h
  | exc x S1 => exact fun cls d H' g' hx r go => h cls d σ H' g' hx r go fun _ _ => rfl
  | ok a S1 => exact fun H1 g1 r1 go => ⟨go, r1, h⟩
theorem PostS.lift {α : Type} {o : Option α} {k : α → SW → Res Fl} (h : PostS T W0 m as σ H S g ((Own.lift o S1).bind k) D) : ∃ a, o = some a ∧ PostS T W0 m as σ H S g (k a S1) D := by
  cases o with
  | none => exact h.elim
  | some a => exact ⟨a, rfl, h⟩
theorem Post.from {α : Type} {r : Res α} {R : α → SW → Hp → (Nat → List Addr) → Prop} (h : Post T W0 m σ H S g r R) (go : Goes m H S g H1 S1 g1) : Post T W0 m σ H1 S1 g1 r fun a S2 H2 g2 => Goes m H S g H2 S2 g2 ∧ R a S2 H2 g2 := by
  cases r with
  | stuck => exact h
  | exc x S2 => exact fun cls d H' g' hx r go' => h cls d H' g' hx r (go.trans go')
  | ok a S2 => exact fun H' g' r go' => ⟨go.trans go', h H' g' r (go.trans go')⟩
/-- from a later state -/
theorem PostS.from {r : Res Fl} (h : PostS T W0 m as σ H S g r D) (go : Goes m H S g H1 S1 g1) (ho : ∀ j, j ∉ as → σ1[j]? = σ[j]?) : PostS T W0 m as σ1 H1 S1 g1 r D := by
  cases r with
  | stuck => exact h
  | exc x S2 => exact fun cls d σ' H' g' hx r go' h' => h cls d σ' H' g' hx r (go.trans go') fun j hj => (h' j hj).trans (ho j hj)
  | ok fl S2 =>
    intro σ' H' g' r go' h'
    have q := h σ' H' g' r (go.trans go') fun j hj => (h' j hj).trans (ho j hj)
    cases fl with
    | nx => exact q
    | bk => exact q
    | ct => exact q
    | rt w => exact fun v f x => q v f (x.back go)
theorem PostS.mono {r : Res Fl} (h : PostS T W0 m' as' σ H S g r D) (i : ∀ j, m j → m' j) (ia : ∀ j, j ∈ as → j ∈ as') : PostS T W0 m as σ H S g r D := by
  cases r with
  | stuck => exact h
  | exc x S2 => exact fun cls d σ' H' g' hx r go' h' => h cls d σ' H' g' hx r (go'.mono i) fun j hj => h' j fun z => hj (ia j z)
  | ok fl S2 =>
    intro σ' H' g' r go' h'
    have q := h σ' H' g' r (go'.mono i) fun j hj => h' j fun z => hj (ia j z)
    cases fl with
    | nx => exact q
    | bk => exact q
    | ct => exact q
    | rt w => exact fun v f x => q v f (x.mono i)
/-- another end, told of the state -/
theorem PostS.ends {r : Res Fl} {D' : Ends} (h : PostS T W0 m as σ H S g r D) (hn : ∀ S' σ' H' g', r = .ok .nx S' → SR T.K H' S' σ' g' → Goes m H S g H' S' g' → (∀ j, j ∉ as → σ'[j]? = σ[j]?) → D.nx σ' H' → D'.nx σ' H')
    (hb : ∀ S' σ' H' g', r = .ok .bk S' → SR T.K H' S' σ' g' → Goes m H S g H' S' g' → (∀ j, j ∉ as → σ'[j]? = σ[j]?) → D.bk σ' H' → D'.bk σ' H')
    (hc : ∀ S' σ' H' g', r = .ok .ct S' → SR T.K H' S' σ' g' → Goes m H S g H' S' g' → (∀ j, j ∉ as → σ'[j]? = σ[j]?) → D.ct σ' H' → D'.ct σ' H') (hr : ∀ v H', D.rt v H' → D'.rt v H') : PostS T W0 m as σ H S g r D' := by
  cases r with
  | stuck => exact h
  | exc x S2 => exact h
  | ok fl S2 =>
    intro σ' H' g' r go h'
    have q := h σ' H' g' r go h'
    cases fl with
    | nx => exact hn S2 σ' H' g' rfl r go h' q
    | bk => exact hb S2 σ' H' g' rfl r go h' q
    | ct => exact hc S2 σ' H' g' rfl r go h' q
    | rt w => exact fun v f x => hr v H' (q v f x)
/-- a slot gets a value -/
theorem assign_ok {i : Nat} {w : W} {v : V} {f : List Addr} (r1 : SR T.K H1 S1 σ g1) (go : Goes m H S g H1 S1 g1) (x : Vl T.K m H g w v f H1 g1) (mi : m i) : ∃ g', SR T.K H1 (S1.set i (some w)) (σ.set i (some v)) g' ∧ Goes m H S g H1 (S1.set i (some w)) g' := by
  by_cases hi : i < σ.length
  · refine ⟨put g1 i f, r1.assign x.rep x.nd (fun a ha j _ => x.dj a ha j) hi, ⟨go.keep, fun j n => ?_, fun j a hj ha => ?_⟩⟩
    · have ne : j ≠ i := fun z => n (z ▸ mi)
      rw [gt_set, if_neg (fun z => ne z.1.symm), put_ne ne]
      exact go.same j n
    · by_cases ne : j = i
      · rw [ne, put_same] at ha; exact x.sub a ha
      · rw [put_ne ne] at ha; exact go.sub j a hj ha
  · have e1 : σ.set i (some v) = σ := List.set_eq_of_length_le (Nat.le_of_not_lt hi)
    have e2 : S1.set i (some w) = S1 := List.set_eq_of_length_le (by rw [r1.len]; exact Nat.le_of_not_lt hi)
    rw [e1, e2]
    exact ⟨g1, r1, go⟩
theorem set_off {i j : Nat} {v : Option V} (h : j ≠ i) : (σ.set i v)[j]? = σ[j]? := List.getElem?_set_ne fun e => h e.symm
end

section
variable {T : Tab} {k : Nat} {c : Fn} {z : Chk} {X : Cx}
/-- the context of a def's own statements -/
structure SDS (T : Tab) (k : Nat) (c : Fn) (z : Chk) (X : Cx) : Prop extends SD T k c z X where
  own : PassesOwn (model X.prog X.w) X.A X.env X.xe
  fun_ : X.env.scope.kind = .function
def OkS (T : Tab) (k : Nat) (c : Fn) (s : Sm) : Prop := ∀ (z : Chk) (X : Cx), SDS T k c z X → ∀ x, chkS z s x = true → ∀ W0, Takes X W0 → PS X x (tX T W0 s.md s.asn (ex c s))
def OkB (T : Tab) (k : Nat) (c : Fn) (b : Sb) : Prop := ∀ (z : Chk) (X : Cx), SDS T k c z X → ∀ x, chkB z b x = true → ∀ W0, Takes X W0 → PSs X x (tX T W0 b.md b.asn (exb c b))

theorem sw_no {x : Expr} {o : Option Expr} {l : Nat} {env : Env} (h : isLC x = false) : swapsWith x o l env = pure false := by
  cases x <;> first | rfl | cases h
theorem sw_lc {elt : Expr} {gs : List Comprehension} {scope : Scope} {pos py : Pos} {y : Str} {l : Nat} {env : Env} : swapsWith (.ListComp elt gs scope pos) (some (.Name y py)) l env =
    pure (env.blockKind == .function && env.kindOf y == some .local && py.line == pos.line && !(scope.names.any fun (n, k) => n == y && (k == .local || k == .cell))) := rfl
theorem sw_dc {kx elt : Expr} {gs : List Comprehension} {scope : Scope} {pos py : Pos} {y : Str} {l : Nat} {env : Env} : swapsWith (.DictComp kx elt gs scope pos) (some (.Name y py)) l env =
    pure (env.blockKind == .function && env.kindOf y == some .local && py.line == pos.line && !(scope.names.any fun (n, k) => n == y && (k == .local || k == .cell))) := rfl
theorem ps_setDc {X : Cx} {i : Nat} {y : Str} {py : Pos} {kx elt tg iter : Expr} {ifs : List Expr} {scope : Scope} {own : List (Str × Nat)} {pos spos : Pos} {wi : TI} {g : TG} {tt : TT} {tk te : TE} (hc : X.calm = true) (hN : X.N.Nodup) (hy : X.N[i]? = some y) (hyl : X.env.scope.names.lookup y = some .local)
    (hsw : swapsWith (.DictComp kx elt [⟨tg, iter, ifs, 0⟩] scope pos) (some (.Name y py)) spos.line X.env = pure true) (hi : PI X tg iter wi) (ok : BlkOk X.N X.env.scope scope own)
    (hg : ∀ (s : Shared) (H : Hp) (C : Addr) (cl : List (Str × Addr)) (fp : List Addr), PG (X.blk s H scope (compEnvC scope cl C X.env) fp) tg g) (ht : ∀ (s : Shared) (H : Hp) (C : Addr) (cl : List (Str × Addr)) (fp : List Addr), PTs (X.blk s H scope (compEnvC scope cl C X.env) fp) ifs tt)
    (hk : ∀ (s : Shared) (H : Hp) (C : Addr) (cl : List (Str × Addr)) (fp : List Addr), PE (X.blk s H scope (compEnvC scope cl C X.env) fp) kx tk)
    (he : ∀ (s : Shared) (H : Hp) (C : Addr) (cl : List (Str × Addr)) (fp : List Addr), PE (X.blk s H scope (compEnvC scope cl C X.env) fp) elt te) (hs : ∀ x, foldedSetIterable iter X.env x = pure x) :
    PS X (.Assign [.Name y py] (.DictComp kx elt [⟨tg, iter, ifs, 0⟩] scope pos) spos) (tAsg (tDc wi g tt tk te (own.map (·.2))) (gName i)) := by
  refine ⟨fun pins s σ H D I h => ?_⟩
  rw [exec_Assign_Name_used _ _ _ _ hsw]
  refine wpAny_bind (wpAny_standAt (wpAny_bind ?_))
  show wpAny _ X.A (do let _ ← comprehension (.DictComp kx elt [⟨tg, iter, ifs, 0⟩] scope pos) scope X.env (firstIterPos [⟨tg, iter, ifs, 0⟩] pos) newDict false (eval iter X.env) (some (assign (.Name y py) X.env))) _ _ s
  have h : tDc wi g tt tk te (own.map (·.2)) σ H (fun x H1 => gName i x σ H1 D.nx) := h
  refine wpAny_bind (thn (dc_core (Qf := fun _ s' => SP X pins D .next s') hc hN I hi ok hg ht hk he hs h fun L C s' m H' I' q hn f => ?_) fun _ s' hq => wpAny_pure (wpAny_pure hq))
  show wpAny _ _ (assign (.Name y py) X.env (.ref L)) _ _ _
  refine wpAny_assign_Name (store_ok2 (v := V.ref L) I' hN hy (.inl hyl) rfl (fun s2 I2 ⟨a, sb, ha⟩ => ?_) (.inr hyl))
  obtain ⟨f0, f1, f2, f3, f4, f5⟩ := f
  have haC : C ≠ a := by
    rcases ha with z | z
    · rw [z]; exact f1
    · exact fun e => f4 y a z e.symm
  refine ⟨m, hn.sameBut sb haC, fun h3 sb3 => ?_⟩
  exact ⟨_, H', I2.turned (t' := s2.toks) (fun b o hb e => (sb3.2 b hb).trans e) f0 f1 f3 f4 f5, q⟩
theorem ok_set {i : Nat} {e : E} : OkS T k c (.set i e) := by
  intro z X D x hx W0 tk
  obtain ⟨y, q, w, p, rfl, h1, h2⟩ := inv_set hx
  obtain ⟨l1, l2, l3⟩ := Chk.loc_of D.toSD h1
  have nd : X.N.Nodup := by rw [D.N]; exact D.nd
  have i1 : ∀ j, j ∈ e.md false → j ∈ Sm.md (.set i e) := fun j h => by simp only [Sm.md]; exact List.mem_cons_of_mem _ h
  have mi : i ∈ Sm.md (.set i e) := by simp only [Sm.md]; exact List.mem_cons_self
  have key : ∀ {D' : Ends} {σ : St} {H : Hp}, tX T W0 (Sm.md (.set i e)) (Sm.asn (.set i e)) (ex c (.set i e)) D' σ H → tV T W0 (· ∈ e.md false) (ev c false e) σ H fun v H1 => gName i v σ H1 D'.nx := fun {D' σ H} ⟨S, g, r, h⟩ => by
    simp only [ex] at h
    refine ⟨S, g, r, (h.expr.mono i1).imp fun w S1 H1 g1 r1 go q v f x1 => ?_⟩
    obtain ⟨go', _, q⟩ := q
    obtain ⟨g', r', go2⟩ := assign_ok r1 go' (x1.mono i1) mi
    exact q _ H1 g' r' go2 fun j hj => set_off fun e => hj (by simp only [Sm.asn, e]; exact List.mem_cons_self)
  have sv : SE T X (e.md false) w (ev c false e) := (ok_E e z X D.toSD w h2).2.1
  by_cases hlc : isLC w = false
  · exact imS (ps_set nd l1 l2 (sv W0 tk) (sw_no hlc) l3) fun D' σ H h => key h
  · -- a comprehension
    cases e <;> try (exfalso; apply hlc; cases w <;> first | rfl | simp only [chkE, isOdd, Bool.not_true, Bool.false_and, Bool.false_eq_true] at h2)
    case lc own tg it cs e0 =>
      obtain ⟨elt, t, i', ifs, scope, p', o, rfl, blk, hs, Hp⟩ := lc_parts (ok_It it) (ok_Es cs) (ok_E e0) D.toSD h2
      cases hb : (X.env.blockKind == .function && X.env.kindOf y == some .local && q.line == p'.line && !(scope.names.any fun (n, k) => n == y && (k == .local || k == .cell))) with
      | false => exact imS (ps_set nd l1 l2 (sv W0 tk) (by rw [sw_lc, hb]) l3) fun D' σ H h => key h
      | true =>
        obtain ⟨wi, g, tt, te, a1, a2, a3, a4, a5⟩ := Hp W0 tk
        have hl : X.env.scope.names.lookup y = some .local := by
          simp only [Bool.and_eq_true] at hb
          have h0 := hb.1.1.2
          exact (by simpa using h0 : X.env.kindOf y = some .local)
        refine imS (ps_setLc D.calm nd l1 hl (by rw [sw_lc, hb]) a1 blk a2 a3 a4 hs) fun D' σ H h => ?_
        have h := key h
        refine a5 σ H _ ?_
        have he : ∀ S, ev c false (.lc own tg it cs e0) S = ((evIt c (cs.md true ++ e0.md false) it S).bind fun items S1 => (lcL (turnD c own tg cs e0) items [] (wipeS S1 own)).bind fun ys S6 => .ok (.lst ys) (unwipe S1 S6 own)).bind fun w S1 => ret false w S1 := fun S => by
          simp only [ev, Res.bind_assoc]; rfl
        rw [funext he] at h
        exact tV_val h
    case dc own tg it cs ek e0 =>
      obtain ⟨kx, elt, t, i', ifs, scope, p', o, rfl, blk, hs, Hp⟩ := dc_parts (ok_It it) (ok_Es cs) (ok_E ek) (ok_E e0) D.toSD h2
      cases hb : (X.env.blockKind == .function && X.env.kindOf y == some .local && q.line == p'.line && !(scope.names.any fun (n, k) => n == y && (k == .local || k == .cell))) with
      | false => exact imS (ps_set nd l1 l2 (sv W0 tk) (by rw [sw_dc, hb]) l3) fun D' σ H h => key h
      | true =>
        obtain ⟨wi, g, tt, tk2, te, a1, a2, a3, a6, a4, a5⟩ := Hp W0 tk
        have hl : X.env.scope.names.lookup y = some .local := by
          simp only [Bool.and_eq_true] at hb
          have h0 := hb.1.1.2
          exact (by simpa using h0 : X.env.kindOf y = some .local)
        refine imS (ps_setDc D.calm nd l1 hl (by rw [sw_dc, hb]) a1 blk a2 a3 a6 a4 hs) fun D' σ H h => ?_
        have h := key h
        refine a5 σ H _ ?_
        have he : ∀ S, ev c false (.dc own tg it cs ek e0) S = ((evIt c (cs.md true ++ (ek.md false ++ e0.md false)) it S).bind fun items S1 => (dcL (turnDc c own tg cs ek e0) items ([], []) (wipeS S1 own)).bind fun ys S6 => .ok (.dict ys.1 ys.2) (unwipe S1 S6 own)).bind fun w S1 => ret false w S1 := fun S => by
          simp only [ev, Res.bind_assoc]; rfl
        rw [funext he] at h
        exact tV_val h
/-! ### the other statements -/
theorem ok_setM {is : List Nat} {e : E} : OkS T k c (.setM is e) := by
  intro z X D x hx W0 tk
  obtain ⟨xs, kk, q, w, p, rfl, h1, h2, h3, h4⟩ := inv_setM hx
  have i1 : ∀ j, j ∈ (if e.isLk = true then [] else e.md false) → j ∈ Sm.md (.setM is e) := fun j h => by simp only [Sm.md]; exact List.mem_append_right _ h
  have hg : PG X (.Tuple xs kk q) (tTg T (.many is)) := ok_tg D.toSD (tg := .many is) (t := .Tuple xs kk q) (by simp only [chkTg]; exact h1)
  refine imS (ps_asg (pk_of D.toSD (ok_E e) h2 W0 tk) hg (by cases w <;> first | rfl | cases h4) (by cases w <;> first | rfl | cases h3)) fun D' σ H ⟨S, g, r, h⟩ => ?_
  simp only [ex] at h
  refine ⟨S, g, r, (h.expr.mono i1).imp fun w S1 H1 g1 r1 go q v f x1 => ?_⟩
  obtain ⟨go', _, q⟩ := q
  by_cases hp : w.pure = true
  · rw [if_pos hp] at q
    have e0 := x1.own_pure hp
    subst e0
    split at q
    · rename_i S2 es
      refine ⟨S1, g1, w, r1, x1, S2, es, fun σ' g' r' ok => ?_⟩
      refine q σ' H1 g' r' ⟨go'.keep, fun j n => ?_, fun j a hj ha => ?_⟩ fun j hj => ok.sl j (by simpa only [Sm.asn, Tg.slots] using hj)
      · have nj : j ∉ is := fun z => n (by simp only [Sm.md]; exact List.mem_append_left _ z)
        obtain ⟨s1, s2⟩ := ok.st j nj
        rw [s1, s2]; exact go'.same j n
      · exact go'.sub j a hj (ok.gs j a ha)
    · exact q.elim
  · rw [if_neg hp] at q; exact q.elim
def rAug : BOp → R2
  | .add => fun x y H Q => rI0 (fun i j => .int (i + j)) x y H Q ∨ (fun x y H Q => ∃ i j, x = .str i ∧ y = .str j ∧ i.length + j.length ≤ sizeLine ∧ Q (.str (i ++ j)) H) x y H Q
  | .sub => rI0 fun i j => .int (i - j)
  | .mul => rI CMul fun i j => .int (i * j)
  | _ => fun _ _ _ _ => False
theorem rAug_ok : ∀ o, PIp X (opAst o) (rAug o)
  | .add => iop_add.or iop_add_str
  | .sub => iop_sub
  | .mul => iop_mul
  | .fdiv => fun _ _ _ _ _ _ _ _ _ _ _ _ h => False.elim h
  | .mod => fun _ _ _ _ _ _ _ _ _ _ _ _ h => False.elim h
  | .pow => fun _ _ _ _ _ _ _ _ _ _ _ _ h => False.elim h
theorem rAug_of {K : PySem.W.Frag} {H H1 : Hp} {Q : VK} {o : BOp} {x y w : W} {vx vy : V} {fx fy : List Addr} (rx : Rep K H x vx fx) (ry : Rep K H1 y vy fy) (e : augW o x y = some w) (q : ∀ v, Rep K H1 w v [] → Q v H1) : rAug o vx vy H1 Q := by
  unfold augW at e
  split at e
  · cases rx; cases ry; cases e
    exact .inl ⟨_, _, rfl, rfl, q _ (.int _)⟩
  · cases rx; cases ry
    split at e
    · rename_i hz; cases e
      exact .inr ⟨_, _, rfl, rfl, hz, q _ (.str _)⟩
    · cases e
  · cases rx; cases ry; cases e
    exact ⟨_, _, rfl, rfl, q _ (.int _)⟩
  · cases rx; cases ry
    split at e
    · rename_i hz; cases e
      exact ⟨_, _, rfl, rfl, mulOk_of hz, q _ (.int _)⟩
    · cases e
  · cases e
theorem ok_aug {i : Nat} {o : BOp} {e : E} : OkS T k c (.aug i o e) := by
  intro z X D x hx W0 tk
  obtain ⟨y, q, w, p, rfl, h1, h2⟩ := inv_aug hx
  obtain ⟨l1, l2, l3⟩ := Chk.loc_of D.toSD h1
  have nd : X.N.Nodup := by rw [D.N]; exact D.nd
  have i1 : ∀ j, j ∈ e.md false → j ∈ Sm.md (.aug i o e) := fun j h => by simp only [Sm.md]; exact List.mem_cons_of_mem _ h
  have mi : i ∈ Sm.md (.aug i o e) := by simp only [Sm.md]; exact List.mem_cons_self
  refine imS (ps_aug nd l1 l2 ((ok_E e z X D.toSD w h2).2.1 W0 tk) (rAug_ok o) l3) fun D' σ H ⟨S, g, r, h⟩ => ?_
  simp only [ex] at h
  cases eg : gt S i with
  | none => rw [eg] at h; exact h.elim
  | some x0 =>
    rw [eg] at h
    by_cases hp : x0.pure = true
    · simp only [hp, if_true] at h
      obtain ⟨v0, ev0, rp0⟩ := r.rep i x0 eg
      refine ⟨v0, ev0, S, g, r, (h.expr.mono i1).imp fun w S1 H1 g1 r1 go q v f x1 => ?_⟩
      obtain ⟨go', _, q⟩ := q
      obtain ⟨u, eu, q⟩ := q.lift
      refine rAug_of rp0 x1.rep eu fun v2 rp2 => ?_
      obtain ⟨g', r', go2⟩ := assign_ok (i := i) r1 go' (v := v2) (f := []) ⟨rp2, List.nodup_nil, (fun _ z => nomatch z), (fun _ z => nomatch z)⟩ mi
      exact q _ H1 g' r' go2 fun j hj => set_off fun e => hj (by simp only [Sm.asn, e]; exact List.mem_cons_self)
    · simp only [hp, if_false] at h
      exact h.elim
theorem isL_inv {o : Option W} (h : isL o = true) : ∃ xs, o = some (.lst xs) := by
  unfold isL at h
  split at h
  · exact ⟨_, rfl⟩
  · cases h
theorem delTW_of {o : Option W} {w u : W} (h : delTW o w = some u) : ∃ (xs : List W) (n : Nat), o = some (.lst xs) ∧ w = .int n ∧ pureL xs = true ∧ u = .lst (xs.take n) := by
  unfold delTW at h
  split at h
  · split at h
    · rename_i n hz
      simp only [Bool.and_eq_true, decide_eq_true_eq] at hz
      cases h
      exact ⟨_, n.toNat, rfl, by rw [Int.toNat_of_nonneg hz.2], hz.1, rfl⟩
    · cases h
  · cases h
theorem Reps.take0 {K : PySem.W.Frag} {H : Hp} : ∀ {w : List W} {v : List V} (n : Nat), Reps K H w v [] → Reps K H (w.take n) (v.take n) []
  | w, v, 0, r => by simpa using Reps.nil
  | [], v, n + 1, r => by cases r; exact .nil
  | x :: xs, v, n + 1, r => by
    generalize e0 : ([] : List Addr) = f0 at r
    cases r with
    | cons ra rb =>
      obtain ⟨rfl, rfl⟩ : _ = [] ∧ _ = [] := by simpa using e0.symm
      exact .cons (f := []) (g := []) ra (Reps.take0 n rb)
theorem ok_delT {i : Nat} {e : E} : OkS T k c (.delT i e) := by
  intro z X D x hx W0 tk
  obtain ⟨y, q, w, r, p, p2, rfl, h1, h2⟩ := inv_delT hx
  have i1 : ∀ j, j ∈ e.md false → j ∈ Sm.md (.delT i e) := fun j h => by simp only [Sm.md]; exact List.mem_cons_of_mem _ h
  have mi : i ∈ Sm.md (.delT i e) := by simp only [Sm.md]; exact List.mem_cons_self
  refine imS (ps_delT (pe_slot D.toSD h1) ((ok_E e z X D.toSD w h2).2.1 W0 tk)) fun D' σ H ⟨S, g, r, h⟩ => ?_
  simp only [ex] at h
  split at h
  · rename_i hL
    obtain ⟨xs0, e0⟩ := isL_inv hL
    obtain ⟨l, vs0, _, a1, _⟩ := r.lst e0
    refine ⟨.ref l, a1, S, g, r, (h.expr.mono i1).imp fun w S1 H1 g1 r1 go q v f x1 => ?_⟩
    obtain ⟨go', _, q⟩ := q
    obtain ⟨u, eu, q4⟩ := q.lift
    clear q
    obtain ⟨xs, n, ex, en, hp, rfl⟩ := delTW_of eu
    subst en
    have xr := x1.rep
    cases xr
    obtain ⟨l', vs, f0, b1, b2, b3, b4, b5, b6⟩ := r1.lst ex
    rw [a1] at b1
    have el : l = l' := by simpa using b1
    subst el
    have e1 := b3.own_pure hp
    subst e1
    have lin : l ∈ g1 i := by rw [b4]; exact List.mem_cons_self
    have mu : AllMut H1 fun a => a = l := fun a e => ⟨.lst vs, by rw [e]; exact b2, rfl⟩
    have kp : ∀ {o : HO}, Keep (fun a => a = l) H1 (upd H1 l o) := Keep.at rfl
    refine ⟨l, vs, n, rfl, rfl, b2, ?_⟩
    refine q4 σ _ (put g1 i [l]) (r1.change a1 (gt_lt ex) kp mu (fun j hj a ha ea => hj (r1.dj j i a ha (by rw [ea]; exact lin))) (.lst upd_same ((Reps.take0 n b3).keep kp mu fun _ z => nomatch z)) (by simp) fun a ha j hj hg => ?_)
      ?_ fun _ _ => rfl
    · have ea : a = l := by simpa using ha
      exact hj (r1.dj j i a hg (by rw [ea]; exact lin))
    · exact go'.change mi kp (fun a ea => by rw [ea]; exact lin) fun a ha => by
        have ea : a = l := by simpa using ha
        exact .inl (by rw [ea]; exact lin)
  · exact h.elim
/-- one item of a list changed -/
theorem Reps.set {K : PySem.W.Frag} {H : Hp} {w : W} {v : V} {fw : List Addr} (rw_ : Rep K H w v fw) : ∀ {xs : List W} {vs : List V} {f : List Addr} {j : Nat}, Reps K H xs vs f → j < xs.length → f.Nodup → fw.Nodup → (∀ a ∈ fw, a ∉ f) →
    ∃ f', Reps K H (xs.set j w) (vs.set j v) f' ∧ f'.Nodup ∧ ∀ a ∈ f', a ∈ f ∨ a ∈ fw
  | _, _, _, _, .nil, h, _, _, _ => by simp at h
  | _, _, _, 0, .cons (g := g) r t, _, nd, ndw, dj => by
    have nd := List.nodup_append.mp nd
    exact ⟨fw ++ g, .cons rw_ t, List.nodup_append.mpr ⟨ndw, nd.2.1, fun a ha b hb e => dj a ha (List.mem_append_right _ (e ▸ hb))⟩, fun a ha => (List.mem_append.mp ha).elim .inr fun z => .inl (List.mem_append_right _ z)⟩
  | _, _, _, j + 1, .cons (f := f0) r t, hj, nd, ndw, dj => by
    have nd := List.nodup_append.mp nd
    obtain ⟨f', h1, h2, h3⟩ := Reps.set rw_ (j := j) t (by simpa using hj) nd.2.1 ndw fun a ha z => dj a ha (List.mem_append_right _ z)
    refine ⟨f0 ++ f', .cons r h1, List.nodup_append.mpr ⟨nd.1, h2, fun a ha b hb e => ?_⟩, fun a ha => (List.mem_append.mp ha).elim (fun z => .inl (List.mem_append_left _ z)) fun z => (h3 a z).imp (List.mem_append_right _) id⟩
    subst e
    rcases h3 a hb with z | z
    · exact nd.2.2 a ha a z rfl
    · exact dj a z (List.mem_append_left _ ha)
theorem PSet.or {X : Cx} {a b : TSet} (h : PSet X a) (h' : PSet X b) : PSet X fun o i v H Q => a o i v H Q ∨ b o i v H Q := by
  intro pins s σ H o i v ov iv u Q I ro ri rv q
  rcases q with q | q
  · exact h pins s σ H o i v ov iv u Q I ro ri rv q
  · exact h' pins s σ H o i v ov iv u Q I ro ri rv q
theorem isLD_of {o : Option W} (h : isLD o = true) : (∃ xs, o = some (.lst xs)) ∨ ∃ ks ws, o = some (.dict ks ws) := by
  unfold isLD at h
  split at h
  · exact .inl ⟨_, rfl⟩
  · exact .inr ⟨_, _, rfl⟩
  · cases h
theorem SR.dct {K : PySem.W.Frag} {H : Hp} {S : SW} {σ : St} {g : Nat → List Addr} {i : Nat} {ks : List Key} {ws : List W} (r : SR K H S σ g) (e : gt S i = some (.dict ks ws)) : ∃ l kvs f0, σ[i]? = some (some (.ref l)) ∧ H l = some (.dK kvs) ∧ kvs.map (·.1) = ks ∧ Reps K H ws (kvs.map (·.2)) f0 ∧ g i = l :: f0 := by
  obtain ⟨v, h1, h2⟩ := r.rep i _ e
  cases hg : g i with
  | nil => rw [hg] at h2; cases h2
  | cons l f0 =>
    rw [hg] at h2
    cases h2 with
    | dict h hk rr => exact ⟨l, _, f0, h1, h, hk, rr, rfl⟩
theorem ok_put {i : Nat} {kk e : E} : OkS T k c (.put i kk e) := by
  intro z X D x hx W0 tk
  obtain ⟨y, q, n, r, w, p, rfl, h1, h2, h3⟩ := inv_put hx
  have i1 : ∀ j, j ∈ e.md false → j ∈ Sm.md (.put i kk e) := fun j h => by simp only [Sm.md]; exact List.mem_cons_of_mem _ (List.mem_append_left _ h)
  have i2 : ∀ j, j ∈ kk.md false → j ∈ Sm.md (.put i kk e) := fun j h => by simp only [Sm.md]; exact List.mem_cons_of_mem _ (List.mem_append_right _ h)
  have mi : i ∈ Sm.md (.put i kk e) := by simp only [Sm.md]; exact List.mem_cons_self
  have hsw : swapsWithSole [.Subscript (.Name y q) n r] w p.line X.env = pure false := by cases w <;> rfl
  refine imS (ps_asg ((ok_E e z X D.toSD w h3).2.1 W0 tk) (pg_sub (pe_slot D.toSD h1) ((ok_E kk z X D.toSD n h2).2.1 W0 tk) (PSet.or set_list (set_dict (Nat.lt_of_le_of_lt (by omega) D.toSD.units))) (by intro v; cases n <;> first | rfl | (exfalso; cases kk <;> simp only [chkE, isOdd, Bool.not_true, Bool.false_and, Bool.false_eq_true] at h2))) hsw (by cases w <;> rfl)) fun D' σ H ⟨S, g, r, h⟩ => ?_
  simp only [ex] at h
  refine ⟨S, g, r, (h.expr.mono i1).imp fun w S1 H1 g1 r1 go q v f x1 => ?_⟩
  obtain ⟨go', _, q⟩ := q
  split at q
  · rename_i hL
    obtain ⟨l, a1⟩ : ∃ l, σ[i]? = some (some (.ref l)) := by
      rcases isLD_of hL with ⟨xs0, e0⟩ | ⟨ks0, ws0, e0⟩
      · obtain ⟨l, vs0, _, a1, _⟩ := r1.lst e0; exact ⟨l, a1⟩
      · obtain ⟨l, vs0, _, a1, _⟩ := r1.dct e0; exact ⟨l, a1⟩
    have q2 := Post.mono (Post.from (PostS.expr q) go') i2
    refine ⟨.ref l, a1, S1, g1, r1, q2.imp fun n S2 H2 g2 r2 go2 q3 v2 f2 x2 => ?_⟩
    obtain ⟨goS, _, _, q3⟩ := q3
    have x1' := (x1.mono i1).step r1 go2
    obtain ⟨u, eu, q4⟩ := q3.lift
    clear q3
    rcases putR_of eu with ⟨xs, nn, j, ex, en, ej, rfl⟩ | ⟨ks, ws, key, ex, ek, hpw, hpv, hlen, hu⟩
    rotate_left
    · -- a dict
      obtain ⟨l', kvs, f0, b1, b2, b3, b4, b5⟩ := r2.dct ex
      rw [a1] at b1
      have el : l = l' := by simpa using b1
      subst el
      have e0 := b4.own_pure hpw
      subst e0
      have ef := x1'.rep.own_pure hpv
      subst ef
      have lin : l ∈ g2 i := by rw [b5]; exact List.mem_cons_self
      refine .inr ⟨l, _, rfl, .inl ⟨kvs, key, b2, x2.rep.key ek, by rw [← b3, List.length_map] at hlen; exact hlen, rfl⟩, ?_⟩
      have mu : AllMut H2 fun a => a = l := fun a e => ⟨.dK kvs, by rw [e]; exact b2, rfl⟩
      have kp : ∀ {o : HO}, Keep (fun a => a = l) H2 (upd H2 l o) := Keep.at rfl
      obtain ⟨ks', ws', rk, rf1, rfl⟩ : ∃ ks' ws', (putK kvs key v).map (·.1) = ks' ∧ Reps T.K H2 ws' ((putK kvs key v).map (·.2)) [] ∧ u = .dict ks' ws' := by
        clear q4 eu
        rcases hu with ⟨hm, rfl⟩ | ⟨hm, rfl⟩
        · have hput : putK kvs key v = kvs.map (fun kv => if kv.1 = key then (kv.1, v) else kv) := by
            unfold putK
            rw [if_pos]
            rw [← b3] at hm
            obtain ⟨p, hp, e⟩ := List.mem_map.mp hm
            exact List.any_eq_true.mpr ⟨p, hp, by simpa using e⟩
          obtain ⟨d1, d2⟩ := Reps.dset (k := key) x1'.rep b4
          subst b3
          rw [hput]
          exact ⟨_, _, d2, d1, rfl⟩
        · have hput : putK kvs key v = kvs ++ [(key, v)] := by
            unfold putK
            rw [if_neg]
            intro h
            obtain ⟨p, hp, e⟩ := List.any_eq_true.mp h
            exact hm (by rw [← b3]; exact List.mem_map.mpr ⟨p, hp, by simpa using e⟩)
          rw [hput, List.map_append, List.map_append, b3]
          exact ⟨_, _, rfl, Reps.append b4 (.cons (f := []) (g := []) x1'.rep .nil), rfl⟩
      refine q4 σ _ (put g2 i [l]) (r2.change a1 (gt_lt ex) kp mu (fun j hj a ha ea => hj (r2.dj j i a ha (by rw [ea]; exact lin))) (.dict upd_same rk (rf1.keep kp mu fun _ z => nomatch z)) (by simp) fun a ha j hj hg => ?_)
        ?_ fun _ _ => rfl
      · have ea : a = l := by simpa using ha
        exact hj (r2.dj j i a hg (by rw [ea]; exact lin))
      · exact goS.change mi kp (fun a ea => by rw [ea]; exact lin) fun a ha => by
          have ea : a = l := by simpa using ha
          exact .inl (by rw [ea]; exact lin)
    refine .inl ?_
    subst en
    have xr := x2.rep
    cases xr
    obtain ⟨l', vs, f0, b1, b2, b3, b4, b5, b6⟩ := r2.lst ex
    rw [a1] at b1
    have el : l = l' := by simpa using b1
    subst el
    have hj : j < xs.length := (ixN_seq ej).2.1
    have lin : l ∈ g2 i := by rw [b4]; exact List.mem_cons_self
    have f0in : ∀ a ∈ f0, a ∈ g2 i := fun a ha => by rw [b4]; exact List.mem_cons_of_mem _ ha
    have nf : ∀ a ∈ f, ¬ a = l := fun a ha e => x1'.dj a ha i (by rw [e]; exact lin)
    have n0 : ∀ a ∈ f0, ¬ a = l := fun a ha e => b5 (e ▸ ha)
    let H3 := upd H2 l (.lst (vs.set j v))
    obtain ⟨f', c1, c2, c3⟩ := Reps.set (x1'.rep.keep (keep1 (o := .lst (vs.set j v))) (mut1 b2) nf) (b3.keep keep1 (mut1 b2) n0) hj b6 x1'.nd fun a ha z => x1'.dj a ha i (f0in a z)
    refine ⟨l, vs, nn, j, rfl, rfl, b2, by rw [← b3.length]; exact ej, ?_⟩
    have sub' : ∀ a ∈ f', a ∈ g2 i ∨ a ∈ f := fun a ha => (c3 a ha).imp (f0in a) id
    have nl : l ∉ f' := fun z => (c3 l z).elim b5 fun z => nf l z rfl
    refine q4 σ H3 (put g2 i (l :: f')) (r2.change a1 (gt_lt ex) keep1 (mut1 b2) (fun j hj a ha ea => hj (r2.dj j i a ha (by rw [ea]; exact lin))) (.lst upd_same c1) (List.nodup_cons.mpr ⟨nl, c2⟩) fun a ha j hj hg => ?_)
      ?_ fun _ _ => rfl
    · rcases List.mem_cons.mp ha with ea | ha
      · exact hj (r2.dj j i a hg (by rw [ea]; exact lin))
      · rcases sub' a ha with z | z
        · exact hj (r2.dj j i a hg z)
        · exact x1'.dj a z j hg
    · exact goS.change mi keep1 (fun a ea => by rw [ea]; exact lin) fun a ha => by
        rcases List.mem_cons.mp ha with ea | ha
        · exact .inl (by rw [ea]; exact lin)
        · rcases sub' a ha with z | z
          · exact .inl z
          · exact .inr (x1'.sub a z)
  · exact q.elim
theorem ok_expr {e : E} : OkS T k c (.expr e) := by
  intro z X D x hx W0 tk
  obtain ⟨w, p, rfl, h1, h2⟩ := inv_expr hx
  refine imS (ps_expr ((ok_E e z X D.toSD w h1).2.1 W0 tk) (sw_no h2)) fun D' σ H ⟨S, g, r, h⟩ => ?_
  simp only [ex] at h
  refine ⟨S, g, r, h.expr.imp fun w S1 H1 g1 r1 go q v f x1 => ?_⟩
  obtain ⟨go', _, q⟩ := q
  exact q σ H1 g1 r1 go' fun _ _ => rfl
theorem ok_ret {e : E} : OkS T k c (.ret e) := by
  intro z X D x hx W0 tk
  obtain ⟨w, p, rfl, h1⟩ := inv_ret hx
  refine imS (ps_ret ((ok_E e z X D.toSD w h1).2.1 W0 tk)) fun D' σ H ⟨S, g, r, h⟩ => ?_
  simp only [ex] at h
  refine ⟨S, g, r, h.expr.imp fun w S1 H1 g1 r1 go q v f x1 => ?_⟩
  obtain ⟨go', _, q⟩ := q
  exact q σ H1 g1 r1 go' (fun _ _ => rfl) v f x1
theorem ok_retN : OkS T k c .retN := by
  intro z X D x hx W0 tk
  obtain ⟨p, rfl⟩ := inv_retN hx
  refine imS ps_retN fun D' σ H ⟨S, g, r, h⟩ => ?_
  simp only [ex] at h
  exact h σ H g r Goes.refl (fun _ _ => rfl) .non [] (Vl.pure .non rfl)
theorem ok_pass : OkS T k c .pass := by
  intro z X D x hx W0 tk
  obtain ⟨p, rfl⟩ := inv_pass hx
  refine imS ps_pass fun D' σ H ⟨S, g, r, h⟩ => ?_
  simp only [ex] at h
  exact h σ H g r Goes.refl fun _ _ => rfl
theorem ok_brk : OkS T k c .brk := by
  intro z X D x hx W0 tk
  obtain ⟨p, rfl⟩ := inv_brk hx
  refine imS ps_break fun D' σ H ⟨S, g, r, h⟩ => ?_
  simp only [ex] at h
  exact h σ H g r Goes.refl fun _ _ => rfl
theorem ok_cont : OkS T k c .cont := by
  intro z X D x hx W0 tk
  obtain ⟨p, rfl⟩ := inv_cont hx
  refine imS ps_continue fun D' σ H ⟨S, g, r, h⟩ => ?_
  simp only [ex] at h
  exact h σ H g r Goes.refl fun _ _ => rfl
theorem ok_ifS {d : E} {a b : Sb} (ha : OkB T k c a) (hb : OkB T k c b) : OkS T k c (.ite d a b) := by
  intro z X D x hx W0 tk
  obtain ⟨w, p, q, r, rfl, h1, h2, h3⟩ := inv_if hx
  have i1 : ∀ j, j ∈ d.md true → j ∈ Sm.md (.ite d a b) := fun j h => by simp only [Sm.md]; exact List.mem_append_left _ h
  have i2 : ∀ j, j ∈ a.md → j ∈ Sm.md (.ite d a b) := fun j h => by simp only [Sm.md]; exact List.mem_append_right _ (List.mem_append_left _ h)
  have i3 : ∀ j, j ∈ b.md → j ∈ Sm.md (.ite d a b) := fun j h => by simp only [Sm.md]; exact List.mem_append_right _ (List.mem_append_right _ h)
  have a2 : ∀ j, j ∈ a.asn → j ∈ Sm.asn (.ite d a b) := fun j h => by simp only [Sm.asn]; exact List.mem_append_left _ h
  have a3 : ∀ j, j ∈ b.asn → j ∈ Sm.asn (.ite d a b) := fun j h => by simp only [Sm.asn]; exact List.mem_append_right _ h
  refine imS (ps_if ((ok_E d z X D.toSD w h1).2.2.1 W0 tk) (ha z X D p h2 W0 tk) (hb z X D q h3 W0 tk)) fun D' σ H ⟨S, g, r, h⟩ => ?_
  simp only [ex] at h
  refine ⟨S, g, r, (h.expr.mono i1).imp fun w S1 H1 g1 r1 go q => ?_⟩
  obtain ⟨go', _, q⟩ := q
  cases w <;> first | exact q.elim | skip
  rename_i bb
  refine ⟨bb, rfl, ?_⟩
  cases bb with
  | true =>
    rw [if_pos rfl]
    exact ⟨S1, g1, r1, (q.from go' fun _ _ => rfl).mono i2 a2⟩
  | false =>
    rw [if_neg Bool.false_ne_true]
    exact ⟨S1, g1, r1, (q.from go' fun _ _ => rfl).mono i3 a3⟩
theorem okB_nil : OkB T k c .nil := by
  intro z X D x hx W0 tk
  obtain rfl := inv_bnil hx
  refine imSs pss_nil fun D' σ H ⟨S, g, r, h⟩ => ?_
  simp only [exb] at h
  exact h σ H g r Goes.refl fun _ _ => rfl
/-- one statement, then the others -/
theorem PostS.seq {T : Tab} {W0 : WX} {m m1 m2 as as1 as2 : List Nat} {σ : St} {H : Hp} {S : SW} {g : Nat → List Addr} {D : Ends} {r : Res Fl} {d : SW → Res Fl} (i1 : ∀ j, j ∈ m1 → j ∈ m) (i2 : ∀ j, j ∈ m2 → j ∈ m) (a1 : ∀ j, j ∈ as1 → j ∈ as) (a2 : ∀ j, j ∈ as2 → j ∈ as)
    (h : PostS T W0 (· ∈ m) as σ H S g (r.bind fun f S1 => match f with | .nx => d S1 | .bk => .ok .bk S1 | .ct => .ok .ct S1 | .rt w => .ok (.rt w) S1) D) : PostS T W0 (· ∈ m1) as1 σ H S g r { D with nx := tX T W0 m2 as2 d D } := by
  cases r with
  | stuck => exact h
  | exc x S2 => exact fun cls dd σ' H' g' hx r go h' => h cls dd σ' H' g' hx r (go.mono i1) fun j hj => h' j fun z => hj (a1 j z)
  | ok fl S2 =>
    intro σ' H' g' r go h'
    have go := go.mono (m' := (· ∈ m)) i1
    have h' : ∀ j, j ∉ as → σ'[j]? = σ[j]? := fun j hj => h' j fun z => hj (a1 j z)
    cases fl with
    | nx => exact ⟨S2, g', r, (PostS.from h go h').mono i2 a2⟩
    | bk => exact h σ' H' g' r go h'
    | ct => exact h σ' H' g' r go h'
    | rt w => exact fun v f x => h σ' H' g' r go h' v f (x.mono i1)
theorem okB_cons {s : Sm} {b : Sb} (hs : OkS T k c s) (hb : OkB T k c b) : OkB T k c (.cons s b) := by
  intro z X D x hx W0 tk
  obtain ⟨y, l, rfl, h1, h2⟩ := inv_bcons hx
  refine imSs (pss_cons (hs z X D y h1 W0 tk) (hb z X D l h2 W0 tk)) fun D' σ H ⟨S, g, r, h⟩ => ?_
  simp only [exb] at h
  exact ⟨S, g, r, PostS.seq (fun j h => by simp only [Sb.md]; exact List.mem_append_left _ h) (fun j h => by simp only [Sb.md]; exact List.mem_append_right _ h) (fun j h => by simp only [Sb.asn]; exact List.mem_append_left _ h) (fun j h => by simp only [Sb.asn]; exact List.mem_append_right _ h) h⟩
theorem okB_fz {i : Nat} {b : Sb} (hb : OkB T k c b) : OkB T k c (.fz i b) := by
  intro z X D x hx W0 tk
  have hx : chkB z b x = true := by simpa only [chkB] using hx
  refine imSs (pss_frz (hb z X D x hx W0 tk)) fun D' σ H ⟨S, g, r, h⟩ => ?_
  simp only [exb] at h
  cases e : (gt S i).bind frzW with
  | none => rw [e] at h; exact h.elim
  | some u =>
    rw [e] at h
    obtain ⟨w, e1, e2⟩ := Option.bind_eq_some_iff.mp e
    obtain ⟨v, ev0, rp⟩ := r.rep i w e1
    refine ⟨g i, r.nd i, rp.lsts e2, fun H2 fz => ?_⟩
    have mu : AllMut H (· ∈ g i) := fun a ha => rp.mut a ha
    have kp : Keep (· ∈ g i) H H2 := fun a o h n => by rw [fz.off a n]; exact h
    let g2 : Nat → List Addr := fun j => if j = i then [] else g j
    have g2i : g2 i = [] := if_pos rfl
    have g2n : ∀ {j}, j ≠ i → g2 j = g j := fun h => if_neg h
    have hi : i < S.length := by
      unfold gt at e1
      cases q : S[i]? with
      | none => rw [q] at e1; cases e1
      | some _ => exact (List.getElem?_eq_some_iff.mp q).1
    have gi : gt (S.set i (some u)) i = some u := by
      unfold gt
      rw [List.getElem?_set_self hi]; rfl
    have gn : ∀ {j}, j ≠ i → gt (S.set i (some u)) j = gt S j := fun h => by
      unfold gt
      rw [List.getElem?_set_ne (Ne.symm h)]
    have r2 : SR T.K H2 (S.set i (some u)) σ g2 := by
      refine ⟨by rw [List.length_set]; exact r.len, fun j w' h' => ?_, fun j h' => ?_, fun j => ?_, fun a b c h1 h2 => ?_⟩
      · by_cases hj : j = i
        · subst hj
          rw [gi] at h'; cases h'
          rw [g2i]
          exact ⟨v, ev0, rp.frz fz (fun a ha => rp.lsts e2 a ha) (fun a ha => ha) e2⟩
        · rw [gn hj] at h'
          rw [g2n hj]
          obtain ⟨v', a1, a2⟩ := r.rep j w' h'
          exact ⟨v', a1, a2.keep kp mu fun a ha z => hj (r.dj j i a ha z)⟩
      · by_cases hj : j = i
        · rw [hj]; exact g2i
        · rw [gn hj] at h'
          rw [g2n hj]; exact r.emp j h'
      · by_cases hj : j = i
        · rw [hj, g2i]; exact List.nodup_nil
        · rw [g2n hj]; exact r.nd j
      · by_cases ha : a = i
        · rw [ha, g2i] at h1; cases h1
        · by_cases hb : b = i
          · rw [hb, g2i] at h2; cases h2
          · rw [g2n ha] at h1
            rw [g2n hb] at h2
            exact r.dj a b c h1 h2
    have go : Goes (· ∈ Sb.md (.fz i b)) H S g H2 (S.set i (some u)) g2 := by
      refine ⟨fun a o h n => kp a o h fun z => n ⟨i, by simp only [Sb.md]; exact List.mem_cons_self, z⟩, fun j n => ?_, fun j a hj ha => ?_⟩
      · have ne : j ≠ i := fun z => n (by simp only [Sb.md]; rw [z]; exact List.mem_cons_self)
        exact ⟨gn ne, g2n ne⟩
      · by_cases hj2 : j = i
        · rw [hj2, g2i] at ha; cases ha
        · rw [g2n hj2] at ha
          exact .inr ⟨j, hj, ha⟩
    exact ⟨_, g2, r2, (h.from go fun _ _ => rfl).mono (fun j h => by simp only [Sb.md]; exact List.mem_cons_of_mem _ h) fun j h => h⟩
/-- a loop's turn, then the rest -/
theorem PostS.loop {T : Tab} {W0 : WX} {m m1 as as1 : List Nat} {σ : St} {H : Hp} {S : SW} {g : Nat → List Addr} {D : Ends} {r : Res Fl} {d : SW → Res Fl} {N : St → Hp → Prop} (i1 : ∀ j, j ∈ m1 → j ∈ m) (a1 : ∀ j, j ∈ as1 → j ∈ as)
    (h : PostS T W0 (· ∈ m) as σ H S g (r.bind fun f S2 => match f with | .nx => d S2 | .ct => d S2 | .bk => .ok .nx S2 | .rt w => .ok (.rt w) S2) D) (hN : ∀ S2 σ' H' g', SR T.K H' S2 σ' g' → Goes (· ∈ m1) H S g H' S2 g' → (∀ j, j ∉ as1 → σ'[j]? = σ[j]?) → PostS T W0 (· ∈ m) as σ H S g (d S2) D → N σ' H') :
    PostS T W0 (· ∈ m1) as1 σ H S g r { D with nx := N, ct := N, bk := D.nx } := by
  cases r with
  | stuck => exact h
  | exc x S2 => exact fun cls dd σ' H' g' hx r go h' => h cls dd σ' H' g' hx r (go.mono i1) fun j hj => h' j fun z => hj (a1 j z)
  | ok fl S2 =>
    intro σ' H' g' r go0 h'0
    have go := go0.mono (m' := (· ∈ m)) i1
    have h' : ∀ j, j ∉ as → σ'[j]? = σ[j]? := fun j hj => h'0 j fun z => hj (a1 j z)
    cases fl with
    | nx => exact hN S2 σ' H' g' r go0 h'0 h
    | bk => exact h σ' H' g' r go h'
    | ct => exact hN S2 σ' H' g' r go0 h'0 h
    | rt w => exact fun v f x => h σ' H' g' r go h' v f (x.mono i1)
theorem ok_whl {d : E} {b : Sb} (hb : OkB T k c b) : OkS T k c (.whl d b) := by
  intro z X D x hx W0 tk
  obtain ⟨w, p, r, rfl, h1, h2⟩ := inv_whl hx
  have i1 : ∀ j, j ∈ d.md true → j ∈ Sm.md (.whl d b) := fun j h => by simp only [Sm.md]; exact List.mem_append_left _ h
  have i2 : ∀ j, j ∈ b.md → j ∈ Sm.md (.whl d b) := fun j h => by simp only [Sm.md]; exact List.mem_append_right _ h
  have a2 : ∀ j, j ∈ b.asn → j ∈ Sm.asn (.whl d b) := fun j h => by simp only [Sm.asn]; exact h
  refine imS (ps_while D.own ((ok_E d z X D.toSD w h1).2.2.1 W0 tk) (hb z X D p h2 W0 tk)) fun D' σ H ⟨S, g, r, h⟩ => ?_
  simp only [ex] at h
  refine ⟨fun n σ' H' => ∃ S' g', SR T.K H' S' σ' g' ∧ PostS T W0 (· ∈ Sm.md (.whl d b)) (Sm.asn (.whl d b)) σ' H' S' g' (whL (ev c true d) (exb c b) n S') D', ⟨fuel, S, g, r, h⟩, fun n σ1 H1 ⟨S1, g1, r1, h⟩ => ?_⟩
  cases n with
  | zero => exact h.elim
  | succ n =>
    simp only [whL] at h
    refine ⟨S1, g1, r1, (h.expr.mono i1).imp fun w S2 H2 g2 r2 go q => ?_⟩
    obtain ⟨go', _, q⟩ := q
    cases w <;> first | exact q.elim | skip
    rename_i bb
    refine ⟨bb, rfl, ?_⟩
    have q := q.from (σ1 := σ1) go' fun _ _ => rfl
    cases bb with
    | true =>
      dsimp only
      rw [if_pos rfl]
      refine ⟨fun σ' H' => ∃ S' g', SR T.K H' S' σ' g' ∧ PostS T W0 (· ∈ Sm.md (.whl d b)) (Sm.asn (.whl d b)) σ' H' S' g' (whL (ev c true d) (exb c b) n S') D', fun σ' H' h => ⟨n, Nat.lt_succ_self _, h⟩, S2, g2, r2, PostS.loop i2 a2 q fun S3 σ' H' g' r' go2 h' q2 => ?_⟩
      exact ⟨S3, g', r', q2.from (go2.mono i2) fun j hj => h' j fun z => hj (a2 j z)⟩
    | false =>
      dsimp only
      rw [if_neg Bool.false_ne_true]
      exact q σ1 H2 g2 r2 Goes.refl fun _ _ => rfl
theorem ok_for {t : Tg} {it : It} {b : Sb} (hb : OkB T k c b) : OkS T k c (.for_ t it b) := by
  intro z X D x hx W0 tk
  obtain ⟨tg, w, p, r, rfl, h1, h2, h3⟩ := inv_for hx
  have i0 : ∀ j, j ∈ t.slots → j ∈ Sm.md (.for_ t it b) := fun j h => by simp only [Sm.md]; exact List.mem_append_left _ h
  have i1 : ∀ j, j ∈ it.md → j ∈ Sm.md (.for_ t it b) := fun j h => by simp only [Sm.md]; exact List.mem_append_right _ (List.mem_append_left _ h)
  have i2 : ∀ j, j ∈ b.md → j ∈ Sm.md (.for_ t it b) := fun j h => by simp only [Sm.md]; exact List.mem_append_right _ (List.mem_append_right _ h)
  have i3 : ∀ j, j ∈ t.slots ++ b.md → j ∈ Sm.md (.for_ t it b) := fun j h => (List.mem_append.mp h).elim (i0 j) (i2 j)
  have a0 : ∀ j, j ∈ t.slots → j ∈ Sm.asn (.for_ t it b) := fun j h => by simp only [Sm.asn]; exact List.mem_append_left _ h
  have a2 : ∀ j, j ∈ b.asn → j ∈ Sm.asn (.for_ t it b) := fun j h => by simp only [Sm.asn]; exact List.mem_append_right _ h
  have j2 : ∀ j, j ∈ b.md → j ∈ t.slots ++ b.md := fun j h => List.mem_append_right _ h
  have hs : ∀ y, foldedSetIterable w X.env y = pure y := by
    intro y; cases w <;> first | rfl | (exfalso; cases it <;> simp only [chkIt, onC1, onC2, Bool.false_eq_true] at h2; rename_i e0; cases e0 <;> simp only [chkE, isOdd, Bool.not_true, Bool.false_and, Bool.false_eq_true] at h2)
  refine imS (ps_for D.own D.calm (ok_It it z X D.toSD w tg (t.slots ++ b.md) h2 W0 tk) (ok_tg D.toSD h1) (hb z X D p h3 W0 tk) hs) fun D' σ H ⟨S, g, r, h⟩ => ?_
  simp only [ex] at h
  refine ⟨S, g, r, (h.expr.mono i1).imp fun items S1 H1 g1 r1 go q J P B wk hP hB => ?_⟩
  obtain ⟨go', _, q⟩ := q
  generalize hbd : (fun w S2 => match setTg t w S2 with | some S3 => exb c b S3 | none => Res.stuck) = bd at q
  let Inv : Nat → St → Hp → Prop := fun n σ' H' => P H' ∧ (∀ a ∈ B, H' a ≠ none) ∧ ∃ S' g', SR T.K H' S' σ' g' ∧ (∀ a ∈ B, ∀ j, a ∈ g' j → j ∉ t.slots ++ b.md) ∧ PostS T W0 (· ∈ Sm.md (.for_ t it b)) (Sm.asn (.for_ t it b)) σ' H' S' g' (foL bd (items.drop n) S') D'
  refine ⟨fun n m σ' H' => m = items.length - n ∧ n ≤ items.length ∧ Inv n σ' H', ⟨items.length, by simp, Nat.zero_le _, hP, fun a ha => (hB a ha).1, S1, g1, r1, fun a ha => (hB a ha).2, by rw [List.drop_zero]; exact q.from go' fun _ _ => rfl⟩, ?_⟩
  rintro n m σ2 H2 ⟨rfl, hn, hP2, hB2, S2, g2, r2, hB3, q2⟩
  by_cases hlt : n < items.length
  · have hw : items[n]? = some items[n] := List.getElem?_eq_getElem hlt
    obtain ⟨jg, jy⟩ := wk.item n H2 _ hP2 hw
    refine .inr ⟨jg, Inv (n + 1), fun σ' H' h' => ⟨items.length - (n + 1), by omega, rfl, hlt, h'⟩, fun x H3 hy => ?_⟩
    obtain ⟨al, rx⟩ := jy x H3 hy
    rw [List.drop_eq_getElem_cons hlt] at q2
    generalize items[n] = w at q2 rx
    simp only [foL] at q2
    subst hbd
    dsimp only at q2
    cases es : setTg t w S2 with
    | none => rw [es] at q2; exact q2.elim
    | some S3 =>
      rw [es] at q2
      dsimp only at q2
      refine ⟨S2, g2, w, r2.all al, rx, S3, es, fun σ3 g3 r3 ok => ?_⟩
      have go3 : Goes (· ∈ t.slots ++ b.md) H2 S2 g2 H3 S3 g3 := ⟨al.all, fun j hj => ok.st j fun z => hj (List.mem_append_left _ z), fun j a hj ha => .inr ⟨j, hj, ok.gs j a ha⟩⟩
      have q3 := q2.from (σ1 := σ3) (go3.mono i3) fun j hj => ok.sl j fun z => hj (a0 j z)
      refine ⟨S3, g3, r3, PostS.loop i2 a2 q3 fun S4 σ4 H4 g4 r4 go4 h4 q4 => ?_⟩
      have go4' : Goes (· ∈ t.slots ++ b.md) H3 S3 g3 H4 S4 g4 := go4.mono j2
      have go24 := go3.trans go4'
      have nB : ∀ a ∈ B, ¬ Ow (· ∈ t.slots ++ b.md) g2 a := fun a ha ⟨j, hj, z⟩ => hB3 a ha j z hj
      refine ⟨wk.keep H2 H4 _ hP2 go24.keep r2.mut nB, fun a ha z => ?_, S4, g4, r4, fun a ha j hg hj => ?_, q4.from (go4.mono i2) fun j hj => h4 j fun z => hj (a2 j z)⟩
      · exact (go24.keep.none_of z).elim (hB2 a ha) (nB a ha)
      · exact (go24.sub j a hj hg).elim (hB2 a ha) (nB a ha)
  · have en : n = items.length := by omega
    subst en
    rw [List.drop_length] at q2
    exact .inl ⟨wk.stop _ H2 hP2 (Nat.le_refl _), q2 σ2 H2 g2 r2 Goes.refl fun _ _ => rfl⟩
mutual
theorem ok_S : ∀ s : Sm, OkS T k c s
  | .set _ _ => ok_set | .setM _ _ => ok_setM | .aug _ _ _ => ok_aug | .put _ _ _ => ok_put | .expr _ => ok_expr | .ret _ => ok_ret | .retN => ok_retN
  | .ite _ a b => ok_ifS (ok_B a) (ok_B b) | .whl _ b => ok_whl (ok_B b) | .for_ _ _ b => ok_for (ok_B b) | .brk => ok_brk | .cont => ok_cont | .pass => ok_pass | .delT _ _ => ok_delT
theorem ok_B : ∀ b : Sb, OkB T k c b
  | .nil => okB_nil | .cons s b => okB_cons (ok_S s) (ok_B b) | .fz _ b => okB_fz (ok_B b)
end
end
end Own

/-! Own, part Q: defs and programs -/
namespace Own
open PySem L2
/-- a def: its parameters' number, its slots' number, its body -/
structure FI where
  n : Nat
  m : Nat
  body : Sb
abbrev Pg := Str → Option FI
/-- an argument that is not pure stands in a parameter that is never stored to -/
def argsOk (asn : List Nat) : Nat → List W → Bool
  | _, [] => true
  | i, w :: ws => (w.pure || !asn.contains i) && argsOk asn (i + 1) ws
/-- the arguments behind the call -/
def outs : Nat → List W → SW → Option (List W)
  | _, [], _ => some []
  | i, w :: ws, S => if w.pure then (outs (i + 1) ws S).map (w :: ·) else (gt S i).bind fun u => (outs (i + 1) ws S).map (u :: ·)
def fin (ws : List W) (r : Res Fl) : CRes := match r with
  | .ok (.rt w) S => (match outs 0 ws S with
    | some ws' => .ok w ws' | none => .stuck)
  | .ok .nx S => (match outs 0 ws S with
    | some ws' => .ok .non ws' | none => .stuck)
  | .exc x S => (match outs 0 ws S with
    | some ws' => .exc x ws' | none => .stuck)
  | _ => .stuck
def start0 (fi : FI) (ws : List W) : SW := ws.map some ++ List.replicate (fi.m - fi.n) none
def run (c : Fn) (fi : FI) (ws : List W) : CRes := if decide (ws.length = fi.n) && argsOk fi.body.asn 0 ws then fin ws (exb c fi.body (start0 fi ws)) else .stuck
def sem (D : Pg) (cst : Str → Option W) : Nat → Str → List W → CRes
  | 0, _, _ => .stuck
  | k + 1, f, ws => match D f with
    | some fi => run ⟨sem D cst k, cst⟩ fi ws | none => .stuck

section
variable {T : Tab} {k : Nat} {c : Fn} {fns cs : List Str}
theorem argsOk_of {asn : List Nat} : ∀ {ws : List W} {i j : Nat} {w : W}, argsOk asn i ws = true → ws[j]? = some w → w.pure = true ∨ i + j ∉ asn
  | [], i, j, w, _, h => by simp at h
  | x :: r, i, 0, w, h, e => by
    simp at e; subst e
    simp only [argsOk, Bool.and_eq_true, Bool.or_eq_true] at h
    exact h.1.imp id fun z => by simpa using z
  | x :: r, i, j + 1, w, h, e => by
    simp only [argsOk, Bool.and_eq_true] at h
    have := argsOk_of (j := j) h.2 (by simpa using e)
    rwa [Nat.add_assoc, Nat.add_comm 1 j] at this
theorem outs_of : ∀ {ws ws' : List W} {i : Nat} {S : SW}, outs i ws S = some ws' → ws'.length = ws.length ∧ ∀ j w, ws'[j]? = some w → (∃ u, ws[j]? = some u ∧ u.pure = true ∧ w = u) ∨ ((∃ u, ws[j]? = some u ∧ u.pure = false) ∧ gt S (i + j) = some w)
  | [], ws', i, S, h => by
    simp only [outs, Option.some.injEq] at h; subst h
    exact ⟨rfl, fun j w e => by simp at e⟩
  | x :: r, ws', i, S, h => by
    unfold outs at h
    have fwd : ∀ {y : W} {r' : List W}, outs (i + 1) r S = some r' → ws' = y :: r' → ((x.pure = true ∧ y = x) ∨ (x.pure = false ∧ gt S i = some y)) → ws'.length = (x :: r).length ∧ ∀ j w, ws'[j]? = some w → (∃ u, (x :: r)[j]? = some u ∧ u.pure = true ∧ w = u) ∨ ((∃ u, (x :: r)[j]? = some u ∧ u.pure = false) ∧ gt S (i + j) = some w) := fun {y r'} h1 h2 h3 => by
      subst h2
      obtain ⟨a1, a2⟩ := outs_of h1
      refine ⟨by simp [a1], fun j w e => ?_⟩
      cases j with
      | zero =>
        simp at e; subst e
        rcases h3 with ⟨q, rfl⟩ | ⟨q, q2⟩
        · exact .inl ⟨_, rfl, q, rfl⟩
        · exact .inr ⟨⟨_, rfl, q⟩, q2⟩
      | succ j =>
        have := a2 j w (by simpa using e)
        rw [Nat.add_assoc, Nat.add_comm 1 j] at this
        simpa using this
    by_cases hp : x.pure = true
    · rw [if_pos hp] at h
      simp only [Option.map_eq_some_iff] at h
      obtain ⟨r', h1, h2⟩ := h
      exact fwd h1 h2.symm (.inl ⟨hp, rfl⟩)
    · rw [if_neg hp] at h
      simp only [Option.bind_eq_some_iff, Option.map_eq_some_iff] at h
      obtain ⟨u, h0, r', h1, h2⟩ := h
      exact fwd h1 h2.symm (.inr ⟨by simpa using hp, h0⟩)
theorem gt_pad {S : SW} {d i : Nat} : gt (S ++ List.replicate d none) i = gt S i := by
  unfold gt
  by_cases h : i < S.length
  · rw [List.getElem?_append_left h]
  · rw [List.getElem?_append_right (Nat.le_of_not_lt h), List.getElem?_eq_none (Nat.le_of_not_lt h), List.getElem?_replicate]
    split <;> rfl
theorem SR.pad {K : PySem.W.Frag} {H : Hp} {S : SW} {σ : St} {g : Nat → List Addr} (r : SR K H S σ g) (d : Nat) : SR K H (S ++ List.replicate d none) (σ ++ List.replicate d none) g where
  len := by rw [List.length_append, List.length_append, List.length_replicate, List.length_replicate, r.len]
  rep := fun i w h => by
    rw [gt_pad] at h
    obtain ⟨v, h1, h2⟩ := r.rep i w h
    exact ⟨v, by rw [List.getElem?_append_left (List.getElem?_eq_some_iff.mp h1).1]; exact h1, h2⟩
  emp := fun i h => r.emp i (by rwa [gt_pad] at h)
  nd := r.nd
  dj := r.dj
/-- the arguments behind the call stand in the heap -/
theorem outs_sr {ws ws' : List W} {vs : List V} {σ' : St} {H H' : Hp} {S0 S' : SW} {g g' : Nat → List Addr} {m : Nat → Prop} {asn : List Nat} {d : Nat} (r0 : SR T.K H (ws.map some) (vs.map some) g) (ok : argsOk asn 0 ws = true) (e : outs 0 ws S' = some ws')
    (r' : SR T.K H' S' σ' g') (go : Goes m H S0 g H' S' g') (hs : ∀ j, j ∉ asn → σ'[j]? = (vs.map some ++ List.replicate d none)[j]?) :
    ∃ g'', ws'.length = ws.length ∧ SR T.K H' (ws'.map some) (vs.map some) g'' ∧ Goes any H (ws.map some) g H' (ws'.map some) g'' ∧ ∀ j a, a ∈ g'' j → a ∈ g' j := by
  obtain ⟨hl, ho⟩ := outs_of e
  let g'' : Nat → List Addr := fun j => match ws[j]? with
    | some w => if w.pure then [] else g' j
    | none => []
  have sub : ∀ j a, a ∈ g'' j → a ∈ g' j := fun j a h => by
    simp only [g''] at h
    split at h
    · split at h
      · cases h
      · exact h
    · cases h
  have lv : ws.length = vs.length := by have := r0.len; simpa using this
  have pureG : ∀ {j u}, ws[j]? = some u → u.pure = true → g'' j = [] := fun h1 h2 => by simp only [g'', h1, h2, if_true]
  have impG : ∀ {j u}, ws[j]? = some u → u.pure = false → g'' j = g' j := fun h1 h2 => by simp only [g'', h1, h2, Bool.false_eq_true, if_false]
  have goA : Goes any H S0 g H' S' g' := go.mono fun _ _ => True.intro
  refine ⟨g'', hl, ⟨by rw [List.length_map, List.length_map, hl, lv], fun j w h => ?_, fun j h => ?_, fun j => ?_, fun i j a h1 h2 => r'.dj i j a (sub i a h1) (sub j a h2)⟩, ⟨goA.keep, fun j n => (n True.intro).elim, fun j a _ ha => goA.sub j a True.intro (sub j a ha)⟩, sub⟩
  · rw [map_get] at h
    rcases ho j w h with ⟨u, h1, h2, rfl⟩ | ⟨⟨u, h1, h2⟩, h3⟩
    · obtain ⟨v, h3, h4⟩ := r0.rep j w (map_get.mpr h1)
      have e0 := h4.own_pure h2
      rw [e0] at h4
      rw [pureG h1 h2]
      exact ⟨v, h3, h4.keep goA.keep r0.mut fun _ z => nomatch z⟩
    · rw [Nat.zero_add] at h3
      obtain ⟨v, h4, h5⟩ := r'.rep j w h3
      rw [impG h1 h2]
      refine ⟨v, ?_, h5⟩
      have na := (argsOk_of ok h1).resolve_left (by rw [h2]; exact Bool.false_ne_true)
      rw [Nat.zero_add] at na
      have q := hs j na
      have hj : j < (vs.map some).length := by rw [List.length_map, ← lv]; exact (List.getElem?_eq_some_iff.mp h1).1
      rw [h4, List.getElem?_append_left hj] at q
      exact q.symm
  · have hn : ws[j]? = none := by
      cases q : ws[j]? with
      | none => rfl
      | some u =>
        have hj : j < ws'.length := by rw [hl]; exact (List.getElem?_eq_some_iff.mp q).1
        rw [map_get.mpr (List.getElem?_eq_getElem hj)] at h; cases h
    simp only [g'', hn]
  · simp only [g'']
    split
    · split
      · exact List.nodup_nil
      · exact r'.nd j
    · exact List.nodup_nil
def cellsOf (sc : Scope) : List Str := (sc.names.filter fun p => decide (p.2 = .cell)).map (·.1)
/-- a def of the text stands behind the top as told -/
structure DefAt (T : Tab) (fns cs : List Str) (x : Str) (fi : FI) : Prop where
  ex : ∃ (st : Stmt) (f : Addr) (fd : FuncData) (N ps : List Str), Fun T.K x x st f fd ∧ FnScope N ps (defScope st) ∧ ps.length = fi.n ∧ N.length = fi.m ∧ (∀ us : List Value, us.length = ps.length → bindArgs fd ⟨us, []⟩ = pure (ps.zip us)) ∧ T.mg x = some (.ref f) ∧ chkB ⟨N, defScope st, fns, cs, cellsOf (defScope st)⟩ fi.body (defBody st) = true
theorem fn_ok {x : Str} {fi : FI} {st : Stmt} {f : Addr} {fd : FuncData} {N ps : List Str} (F : Fun T.K x x st f fd) (sc : FnScope N ps (defScope st)) (hn : ps.length = fi.n) (hm : N.length = fi.m) (chk : chkB ⟨N, defScope st, fns, cs, cellsOf (defScope st)⟩ fi.body (defBody st) = true)
    (hf : ∀ y, fns.contains y = true → FnAt T k y (c.call y)) (hc : ∀ y, cs.contains y = true → ∃ w, c.cst y = some w ∧ CsAt T y w) (hb : ∀ y, bltNames.contains y = true → T.mg y = none) :
    FnOk T.P T.w T.K T.mg T.base (L2.CX T.P T.w) (k + 1) f fd ps (spD T (run c fi) ps.length) := by
  refine F.okX sc (fun vs H Q E h => h.1) fun cdv A outer s H vs Q E hr hsp => ?_
  obtain ⟨hl, ws, g, hlw, r0, hw⟩ := hsp
  have D : SDS T k c ⟨N, defScope st, fns, cs, cellsOf (defScope st)⟩ (cxOf (L2.CX T.P T.w) T.P T.w T.K T.mg T.base N x (defScope st) f cdv A outer s H E) := by
    refine { P := rfl, w := rfl, K := rfl, mg := rfl, base := rfl, N := rfl, nd := sc.nd, sc := rfl, calm := rfl, room := hr, fn := fun _ _ => rfl, fns := hf, cs := hc, blt := hb, own := passes_of rfl, fun_ := sc.kind }
  have tk : Takes (cxOf (L2.CX T.P T.w) T.P T.w T.K T.mg T.base N x (defScope st) f cdv A outer s H E) (fun cls d _ H => E cls d H) := takes_of rfl rfl rfl rfl
  refine ⟨_, ok_B fi.body _ _ D _ chk _ tk, ?_⟩
  have hrun : decide (ws.length = fi.n) = true := decide_eq_true (hlw.trans hn)
  unfold run at hw
  rw [hrun, Bool.true_and] at hw
  by_cases ha : argsOk fi.body.asn 0 ws = true
  · rw [if_pos ha] at hw
    have est : L2.start N vs = vs.map some ++ List.replicate (fi.m - fi.n) none := by
      unfold L2.start
      rw [hm, hl, hn]
    refine ⟨start0 fi ws, g, by rw [est]; exact r0.pad _, ?_⟩
    unfold start0 at hw ⊢
    generalize hS : ws.map some ++ List.replicate (fi.m - fi.n) none = S0 at hw ⊢
    generalize exb c fi.body S0 = rr at hw ⊢
    rw [est]
    cases rr with
    | stuck => exact hw.elim
    | exc x S' =>
      unfold fin at hw
      split at hw <;> rename_i e1 <;> simp only [CRes.exc.injEq, reduceCtorEq] at e1
      · split at e1 <;> simp only [CRes.ok.injEq, reduceCtorEq] at e1
      · split at e1
        · rename_i ws' eo
          simp only [CRes.exc.injEq] at e1
          obtain ⟨rfl, rfl⟩ := e1
          intro cls d σ' H' g' hx r' go hs
          obtain ⟨g'', o1, o2, o3, _⟩ := outs_sr (d := fi.m - fi.n) r0 ha eo r' go hs
          exact hw cls d H' g'' (by rw [o1]; exact hlw) hx o2 o3
        · simp only [reduceCtorEq] at e1
      · exact hw.elim
    | ok fl S' =>
      have fin_ok : ∀ {w : W}, (match (match outs 0 ws S' with | some ws' => CRes.ok w ws' | none => .stuck : CRes) with
          | .ok w ws' => ∀ v H' g' f, ws'.length = ps.length → SR T.K H' (ws'.map some) (vs.map some) g' → Goes any H (ws.map some) g H' (ws'.map some) g' → Vl T.K any H g w v f H' g' → Q v H'
          | .exc x ws' => ∀ cls d H' g', ws'.length = ps.length → T.xr x cls d H' → SR T.K H' (ws'.map some) (vs.map some) g' → Goes any H (ws.map some) g H' (ws'.map some) g' → E cls d H'
          | .stuck => False) → ∀ σ' H' g', SR T.K H' S' σ' g' → Goes (· ∈ fi.body.md) H S0 g H' S' g' → (∀ j, j ∉ fi.body.asn → σ'[j]? = (vs.map some ++ List.replicate (fi.m - fi.n) none)[j]?) → ∀ v f, Vl T.K any H g w v f H' g' → Q v H' := fun {w} hw σ' H' g' r' go hs v f x => by
        cases eo : outs 0 ws S' with
        | none => rw [eo] at hw; exact hw.elim
        | some ws' =>
          rw [eo] at hw
          obtain ⟨g'', o1, o2, o3, o4⟩ := outs_sr (d := fi.m - fi.n) r0 ha eo r' go hs
          exact hw v H' g'' f (by rw [o1]; exact hlw) o2 o3 ⟨x.rep, x.nd, x.sub, fun a ha j hj => x.dj a ha j (o4 j a hj)⟩
      intro σ' H' g' r' go hs
      cases fl with
      | bk => exact hw.elim
      | ct => exact hw.elim
      | nx => exact fin_ok hw σ' H' g' r' go hs .non [] (Vl.pure .non rfl)
      | rt w => exact fun v f x => fin_ok hw σ' H' g' r' go hs v f (x.mono fun _ _ => True.intro)
  · rw [if_neg ha] at hw
    exact hw.elim
theorem fn_at {x : Str} {fi : FI} (A : DefAt T fns cs x fi) (hf : ∀ y, fns.contains y = true → FnAt T k y (c.call y)) (hc : ∀ y, cs.contains y = true → ∃ w, c.cst y = some w ∧ CsAt T y w) (hb : ∀ y, bltNames.contains y = true → T.mg y = none) : FnAt T (k + 1) x (run c fi) := by
  obtain ⟨st, f, fd, N, ps, F, sc, hn, hm, bi, mgf, chk⟩ := A.ex
  refine ⟨f, fd, ps, mgf, F.kp, .all bi, fun ws h => ?_, fn_ok F sc hn hm chk hf hc hb⟩
  unfold run at h
  split at h
  · rename_i q
    simp only [Bool.and_eq_true, decide_eq_true_eq] at q
    rw [q.1, hn]
  · exact absurd rfl h
/-- THE PROGRAM: every def keeps the promise of its meaning, k calls deep -/
theorem sem_at {D : Pg} {cst : Str → Option W} (hA : ∀ x, fns.contains x = true → ∃ fi, D x = some fi ∧ DefAt T fns cs x fi) (hc : ∀ y, cs.contains y = true → ∃ w, cst y = some w ∧ CsAt T y w) (hb : ∀ y, bltNames.contains y = true → T.mg y = none) :
    ∀ k x, fns.contains x = true → FnAt T k x (sem D cst k x)
  | 0, x, hx => by
    obtain ⟨fi, _, A⟩ := hA x hx
    obtain ⟨st, f, fd, N, ps, F, sc, hn, hm, bi, mgf, chk⟩ := A.ex
    have no : ∀ vs H Q E, ¬ spD T (sem D cst 0 x) ps.length vs H Q E := fun vs H Q E ⟨_, ws, g, _, _, h⟩ => h
    exact ⟨f, fd, ps, mgf, F.kp, .all bi, fun ws h => absurd rfl h, ⟨fun vs H Q E h => absurd h (no vs H Q E), fun A outer s H args us vs Q E _ _ _ _ h => absurd h (no vs H Q E)⟩⟩
  | k + 1, x, hx => by
    obtain ⟨fi, e, A⟩ := hA x hx
    have h := fn_at (c := ⟨sem D cst k, cst⟩) A (fun y hy => sem_at hA hc hb k y hy) hc hb
    have es : sem D cst (k + 1) x = run ⟨sem D cst k, cst⟩ fi := by
      funext ws
      simp only [sem, e]
    rw [es]; exact h
end
end Own

/-! Own, part R: the end: from a program's meaning to a law's row -/
namespace Own
open PySem L2
/-! ### the facts of the top -/
/-- a def of the text stands in the written part -/
structure There (K : PySem.W.Frag) (x : Str) (st : Stmt) : Prop where
  ex : ∃ (f : Addr) (oc : Value) (od an : Option Addr) (kV dc pm cd ct : Value) (sl : Array (Option Value)), PySem.W.nsIn K mainGlobals x = some (some (.ref f)) ∧
    K.lookup f = some ⟨oc, od, .func (PySem.W.fnOf x x (defArgs st) (defBody st) (defScope st) .none kV dc pm an cd ct), sl⟩ ∧ PySem.W.codeIn K cd x = true ∧ PySem.W.keepIn K (.ref f) = true
theorem there {K : PySem.W.Frag} {x : Str} {st : Stmt} {f : Addr} {oc : Value} {od an : Option Addr} {kV dc pm cd ct : Value} {sl : Array (Option Value)} (a : PySem.W.nsIn K mainGlobals x = some (some (.ref f)))
    (l : K.lookup f = some ⟨oc, od, .func (PySem.W.fnOf x x (defArgs st) (defBody st) (defScope st) .none kV dc pm an cd ct), sl⟩) (c : PySem.W.codeIn K cd x = true) (k : PySem.W.keepIn K (.ref f) = true) : There K x st := ⟨⟨f, oc, od, an, kV, dc, pm, cd, ct, sl, a, l, c, k⟩⟩
/-- what the text says of a def, checked without the heap -/
structure TextOk (fns cs : List Str) (x : Str) (st : Stmt) (fi : FI) : Prop where
  ex : ∃ (N ps : List Str), FnScope N ps (defScope st) ∧ ps.length = fi.n ∧ N.length = fi.m ∧
    (∀ (kV doc pm : Value) (an : Option Addr) (cdv ct : Value) (us : List Value), us.length = ps.length → bindArgs (PySem.W.fnOf x x (defArgs st) (defBody st) (defScope st) .none kV doc pm an cdv ct) ⟨us, []⟩ = pure (ps.zip us)) ∧
    chkB ⟨N, defScope st, fns, cs, cellsOf (defScope st)⟩ fi.body (defBody st) = true
theorem def_at {T : Tab} {h : Heap} {fns cs : List Str} {x : Str} {st : Stmt} {fi : FI} (X : T.K.In h) (G : h.Ns mainGlobals T.mg) (a : There T.K x st) (b : TextOk fns cs x st fi) : DefAt T fns cs x fi := by
  obtain ⟨f, oc, od, an, kV, dc, pm, cd, ct, sl, h1, h2, h3, h4⟩ := a.ex
  obtain ⟨N, ps, sc, hn, hm, hb, chk⟩ := b.ex
  have F := fun_mk (st := st) h2 h3 h4
  exact ⟨st, f, _, N, ps, F, sc, hn, hm, hb kV dc pm an cd ct, PySem.W.mg_of X G h1, chk⟩
theorem blt_of {K : PySem.W.Frag} {h : Heap} {mg : Str → Option Value} (X : K.In h) (G : h.Ns mainGlobals mg) (a : (bltNames.all fun y => (match PySem.W.nsIn K mainGlobals y with | some none => true | _ => false)) = true) (y : Str) (hy : bltNames.contains y = true) : mg y = none := by
  have q := List.all_eq_true.mp a y (by simpa using hy)
  split at q
  · rename_i e; exact PySem.W.mg_none_of X G e
  · cases q
/-! constants -/
mutual
def litK (K : PySem.W.Frag) : W → Value → Bool
  | .non, .none => true
  | .bl b, .bool c => b == c
  | .int i, .int j _ => i == j
  | .str x, .str y _ => x == y
  | .tup xs, .ref a => (match K.lookup a with
    | some ⟨.type "tuple", _, .seq its _, _⟩ => decide (its.size ≤ sizeLine) && litKL K xs its.toList
    | _ => false)
  | .flst xs, .ref a => (match K.lookup a with
    | some ⟨.type "list", none, .seq its _, _⟩ => decide (its.size ≤ sizeLine) && litKL K xs its.toList
    | _ => false)
  | _, _ => false
def litKL (K : PySem.W.Frag) : List W → List Value → Bool
  | [], [] => true
  | x :: xs, v :: vs => litK K x v && litKL K xs vs
  | _, _ => false
end
mutual
theorem litK_of {K : PySem.W.Frag} : ∀ {w : W} {u : Value}, litK K w u = true → ∃ v, RelV v u ∧ ∀ H, Rep K H w v []
  | .non, u, h => by
    unfold litK at h; split at h <;> simp_all
    · exact ⟨.non, rfl, fun _ => .non⟩
  | .bl b, u, h => by
    cases u <;> simp only [litK, Bool.false_eq_true, beq_iff_eq] at h
    subst h; exact ⟨.bl _, rfl, fun _ => .bl _⟩
  | .int i, u, h => by
    cases u <;> simp only [litK, Bool.false_eq_true, beq_iff_eq] at h
    subst h; exact ⟨.int _, ⟨_, rfl⟩, fun _ => .int _⟩
  | .str x, u, h => by
    cases u <;> simp only [litK, Bool.false_eq_true, beq_iff_eq] at h
    subst h; exact ⟨.str _, ⟨_, rfl⟩, fun _ => .str _⟩
  | .tup xs, u, h => by
    cases u <;> simp only [litK, Bool.false_eq_true] at h
    rename_i a
    split at h
    · rename_i d its n sl e
      simp only [Bool.and_eq_true, decide_eq_true_eq] at h
      obtain ⟨vs, h1, h2⟩ := litKL_of h.2
      exact ⟨.ref a, rfl, fun H => .tup (.inr ⟨_, its, n, e, rfl, rfl, h.1, h1⟩) (h2 H)⟩
    · cases h
  | .flst xs, u, h => by
    cases u <;> simp only [litK, Bool.false_eq_true] at h
    rename_i a
    split at h
    · rename_i its n sl e
      simp only [Bool.and_eq_true, decide_eq_true_eq] at h
      obtain ⟨vs, h1, h2⟩ := litKL_of h.2
      exact ⟨.ref a, rfl, fun H => .flst (.inr ⟨_, its, n, e, rfl, rfl, rfl, h.1, h1⟩) (h2 H)⟩
    · cases h
  | .lst _, u, h => by simp only [litK, Bool.false_eq_true] at h
  | .dict _ _, u, h => by simp only [litK, Bool.false_eq_true] at h
  | .fdict _ _, u, h => by simp only [litK, Bool.false_eq_true] at h
  | .ins _ _, u, h => by simp only [litK, Bool.false_eq_true] at h
theorem litKL_of {K : PySem.W.Frag} : ∀ {ws : List W} {us : List Value}, litKL K ws us = true → ∃ vs, Vals vs us ∧ ∀ H, Reps K H ws vs []
  | [], [], _ => ⟨[], .nil, fun _ => .nil⟩
  | [], _ :: _, h => by simp only [litKL, Bool.false_eq_true] at h
  | _ :: _, [], h => by simp only [litKL, Bool.false_eq_true] at h
  | w :: ws, u :: us, h => by
    simp only [litKL, Bool.and_eq_true] at h
    obtain ⟨v, a1, a2⟩ := litK_of h.1
    obtain ⟨vs, b1, b2⟩ := litKL_of h.2
    exact ⟨v :: vs, .cons a1 b1, fun H => .cons (f := []) (g := []) (a2 H) (b2 H)⟩
end
theorem cs_at {T : Tab} {h : Heap} {x : Str} {w : W} {u : Value} (X : T.K.In h) (G : h.Ns mainGlobals T.mg) (a : PySem.W.nsIn T.K mainGlobals x = some (some u)) (l : litK T.K w u = true) : CsAt T x w :=
  let ⟨v, h1, h2⟩ := litK_of l
  ⟨.inl ⟨u, v, PySem.W.mg_of X G a, h1, h2⟩⟩
/-! a written dict -/
def dchk (K : PySem.W.Frag) : List DictEntry → List Key → List W → Bool
  | [], [], [] => true
  | e :: r, .inr s :: ks, w :: ws => (match e.key with | .str x _ => x == s | _ => false) && (litK K w e.val && dchk K r ks ws)
  | _, _, _ => false
theorem dchk_of {K : PySem.W.Frag} {z : Str} : ∀ {es : List DictEntry} {ks : List Key} {ws : List W}, dchk K es ks ws = true → match dgt ks ws (.inr z) with
    | some y => ∃ e, es.find? (·.key.isStr z) = some e ∧ litK K y e.val = true
    | none => es.find? (·.key.isStr z) = none ∧ es.any (·.refKey) = false
  | [], [], [], _ => ⟨rfl, rfl⟩
  | [], [], _ :: _, h => by simp [dchk] at h
  | [], _ :: _, _, h => by simp [dchk] at h
  | _ :: _, [], _, h => by simp [dchk] at h
  | _ :: _, .inl _ :: _, _, h => by simp [dchk] at h
  | _ :: _, .inr _ :: _, [], h => by simp [dchk] at h
  | e :: r, .inr s :: ks, w :: ws, h => by
    simp only [dchk, Bool.and_eq_true] at h
    obtain ⟨h1, h2, h3⟩ := h
    have ih := dchk_of (z := z) h3
    split at h1
    · rename_i x t ek
      have ex : x = s := by simpa using h1
      subst ex
      have ei : e.key.isStr z = decide (x = z) := by
        rw [ek]
        by_cases q : x = z
        · subst q; simp [Value.isStr]
        · simp [Value.isStr, q]
      by_cases q : x = z
      · subst q
        simp only [dgt, if_true]
        exact ⟨e, by rw [List.find?_cons, ei]; simp, h2⟩
      · have q' : ¬ (Sum.inr x : Key) = .inr z := fun e => q (by injection e)
        simp only [dgt, q', if_false]
        have e1 : (e :: r).find? (·.key.isStr z) = r.find? (·.key.isStr z) := by rw [List.find?_cons, ei]; simp [q]
        rw [e1]
        have e2 : e.refKey = false := by simp [DictEntry.refKey, ek]
        rw [List.any_cons, e2, Bool.false_or]
        exact ih
    · cases h1
theorem cs_dict {T : Tab} {h : Heap} {x : Str} {ks : List Key} {ws : List W} {d : Addr} {es : Array DictEntry} {n : Nat} (X : T.K.In h) (G : h.Ns mainGlobals T.mg) (a : PySem.W.nsIn T.K mainGlobals x = some (some (.ref d)))
    (l : T.K.lookup d = some ⟨.type "dict", none, .dict es n, #[]⟩) (lit : PySem.W.KeysLit T.w.params es.toList) (low : (d == sysModules) = false) (c : dchk T.K es.toList ks ws = true) : CsAt T x (.fdict ks ws) := by
  refine ⟨.inr ⟨ks, ws, d, es, n, rfl, PySem.W.mg_of X G a, ⟨l, lit, low⟩, fun z => ?_⟩⟩
  have q := dchk_of (z := z) c
  unfold PySem.W.nsIn
  rw [l]
  cases e : dgt ks ws (.inr z) with
  | none =>
    rw [e] at q
    simp only [q.1, q.2, Bool.false_eq_true, if_false]
  | some y =>
    rw [e] at q
    obtain ⟨en, q1, q2⟩ := q
    obtain ⟨v, r1, r2⟩ := litK_of q2
    simp only [q1]
    exact ⟨en.val, v, rfl, r1, r2⟩
theorem cs_loose {T : Tab} {h : Heap} {x : Str} {i : Int} {p : Program} {lv : List (Str × PySem.W.WData)} (X : PySem.W.XL p lv T.mg h) (hx : (x, PySem.W.WData.int i) ∈ lv) : CsAt T x (.int i) := by
  obtain ⟨v, a, b⟩ := X.2.val _ hx
  obtain ⟨t, rfl, -⟩ := PySem.W.readsW_int_inv b
  exact ⟨.inl ⟨_, .int i, a, ⟨_, rfl⟩, fun H => .int _⟩⟩
/-! ### the law -/
structure Facts (T : Tab) (fns cs : List Str) (D : Pg) (cst : Str → Option W) : Prop where
  defs : ∀ x, fns.contains x = true → ∃ fi, D x = some fi ∧ DefAt T fns cs x fi
  csts : ∀ y, cs.contains y = true → ∃ w, cst y = some w ∧ CsAt T y w
  blts : ∀ y, bltNames.contains y = true → T.mg y = none
theorem reps_ints {K : PySem.W.Frag} {H : Hp} : ∀ ns : List Int, Reps K H (ns.map W.int) (ns.map V.int) []
  | [] => .nil
  | n :: r => .cons (f := []) (g := []) (.int n) (reps_ints r)
theorem fz_of {K : PySem.W.Frag} {H : Hp} {a : Addr} {xs : List V} (o : Only H) (h : SqL K H a xs) : FzL K H a xs := by
  rcases h with (h | h) | h
  · rcases o a with z | ⟨_, _, z⟩
    · rw [h] at z; cases z
    · rw [h] at z; cases z
  · exact .inl h
  · exact .inr h
theorem walk_own {l : PySem.W.OpenLaw} {n k : Nat} {q : Program} {loose : List Str} {XP : (Str → Option Value) → Heap → Prop} {YP : World → Heap → Prop} {d : DefRec} {K : Params → PySem.W.Frag} {D : Pg} {cst : Str → Option W} {fns cs : List Str}
    {xr : World → Ex → Value → Option Addr → Hp → Prop}
    (hn : l.most = some n) (hn2 : n ≤ sizeLine) (hdf : d.params.defaults = []) (hr : Room (k + 1) callerA) (hY : ∀ (w : World) (h : Heap), YP w h → (K w.params).In h) (hlaw : fns.contains d.name = true)
    (F : ∀ (w : World) (mg : Str → Option Value) (h base : Heap), (K w.params).In h → h.Ns mainGlobals mg → XP mg h → Facts ⟨l.prog, w, K w.params, mg, base, xr w⟩ fns cs D cst)
    (law : ∀ ns : List Int, ns.length ≤ n → ∃ ws', sem D cst (k + 1) d.name [.flst (ns.map W.int)] = .ok (.bl true) ws') :
    PySem.W.WalkO q loose XP YP l.row.toRowW d [] (fun f vs => PySem.call f vs) := by
  refine Att.attach_call hn hdf fun w s₀ s₁ mg mb fa o pm cd doc a vs ns G Y ho hd hcd hmg hobj hints hlen hg => ?_
  have KX := hY w _ Y
  have FF := fun base : Heap => F w mg _ base KX G.T.g G.X
  obtain ⟨fi, e, A⟩ := (FF s₁.heap).defs _ hlaw
  obtain ⟨st, f, fd, N, ps, Fn0, sc, hn0, hm, bi, mgf, chk⟩ := A.ex
  have mgf : mg d.name = some (.ref f) := mgf
  rw [hmg] at mgf
  cases mgf
  have es : ∀ ws, sem D cst (k + 1) d.name ws = run ⟨sem D cst k, cst⟩ fi ws := fun ws => by simp only [sem, e]
  have one : ps.length = 1 := by
    obtain ⟨ws', z⟩ := law [] (Nat.zero_le _)
    rw [es] at z
    unfold run at z
    split at z
    · rename_i q
      simp only [Bool.and_eq_true, decide_eq_true_eq] at q
      rw [hn0, ← q.1]; rfl
    · cases z
  obtain ⟨x, rfl⟩ : ∃ x, ps = [x] := by
    match ps, one with
    | [x], _ => exact ⟨x, rfl⟩
  have hF : ∀ base : Heap, FnOk l.prog w (K w.params) mg base (L2.CX l.prog w) (k + 1) fa fd [x] (spD ⟨l.prog, w, K w.params, mg, base, xr w⟩ (run ⟨sem D cst k, cst⟩ fi) 1) := fun base =>
    fn_ok (T := ⟨l.prog, w, K w.params, mg, base, xr w⟩) (c := ⟨sem D cst k, cst⟩) Fn0 sc hn0 hm chk (fun y hy => sem_at (FF base).defs (FF base).csts (FF base).blts k y hy) (FF base).csts (FF base).blts
  refine law_call (sp := spD ⟨l.prog, w, K w.params, mg, s₁.heap, xr w⟩ (run ⟨sem D cst k, cst⟩ fi) 1) KX G.T.g G.T.b G.T.builtins G.T.nolimit hg hobj hints (Nat.le_trans hlen hn2) hr (fun base _ _ => hF base) (fun s u => ?_) (fun H hO hS => ?_) fun H e s' => ?_
  · exact .of_eq (bi [u] rfl)
  · refine ⟨rfl, [.flst (ns.map W.int)], fun _ => [], rfl, ⟨rfl, fun i w h => ?_, fun i _ => rfl, fun _ => List.nodup_nil, fun _ _ _ z => nomatch z⟩, ?_⟩
    · cases i with
      | zero =>
        cases h
        exact ⟨_, rfl, .flst (fz_of hO hS) (reps_ints ns)⟩
      | succ i => simp [gt] at h
    · obtain ⟨ws', z⟩ := law ns hlen
      rw [es] at z
      rw [z]
      intro v H' g' f' _ _ _ x
      cases x.rep
      rfl
  · rintro ⟨_, _, _, _, _, _, _, _, _, _, _, _, z⟩
    exact z
/-! ### tables -/
abbrev Tb := List (Str × Stmt × FI)
def Tb.fns (t : Tb) : List Str := t.map (·.1)
def Tb.D (t : Tb) : Pg := fun x => (t.lookup x).map (·.2)
inductive Tb.Tx (fns cs : List Str) : Tb → Prop
  | nil : Tb.Tx fns cs []
  | cons {x : Str} {st : Stmt} {fi : FI} {r : Tb} (h : TextOk fns cs x st fi) (t : Tb.Tx fns cs r) : Tb.Tx fns cs ((x, st, fi) :: r)
inductive Tb.Th (K : PySem.W.Frag) : Tb → Prop
  | nil : Tb.Th K []
  | cons {x : Str} {st : Stmt} {fi : FI} {r : Tb} (h : There K x st) (t : Tb.Th K r) : Tb.Th K ((x, st, fi) :: r)
abbrev Ct := List (Str × W)
def Ct.cst (t : Ct) : Str → Option W := fun x => t.lookup x
inductive Ct.At (T : Tab) : Ct → Prop
  | nil : Ct.At T []
  | cons {x : Str} {w : W} {r : Ct} (h : CsAt T x w) (t : Ct.At T r) : Ct.At T ((x, w) :: r)
theorem Tb.defs {T : Tab} {h : Heap} {fns cs : List Str} {t : Tb} (X : T.K.In h) (G : h.Ns mainGlobals T.mg) (a : t.Tx fns cs) (b : Tb.Th T.K t) : ∀ x, t.fns.contains x = true → ∃ fi, t.D x = some fi ∧ DefAt T fns cs x fi := by
  induction a with
  | nil => intro x hx; simp [Tb.fns] at hx
  | @cons y st fi r h1 t1 ih =>
    cases b with
    | cons h2 t2 =>
      intro x hx
      by_cases e : x = y
      · subst e
        refine ⟨fi, ?_, def_at X G h2 h1⟩
        simp [Tb.D, List.lookup]
      · have hx' : Tb.fns r |>.contains x := by
          simp only [Tb.fns, List.map_cons, List.contains_cons, Bool.or_eq_true, beq_iff_eq] at hx ⊢
          exact hx.resolve_left e
        obtain ⟨fi', a1, a2⟩ := ih t2 x hx'
        refine ⟨fi', ?_, a2⟩
        have : (x == y) = false := by simpa using e
        simpa only [Tb.D, List.lookup, this] using a1
theorem Ct.csts {T : Tab} {t : Ct} (a : Ct.At T t) : ∀ x, (t.map (·.1)).contains x = true → ∃ w, Ct.cst t x = some w ∧ CsAt T x w := by
  induction a with
  | nil => intro x hx; simp at hx
  | @cons y w r h1 t1 ih =>
    intro x hx
    by_cases e : x = y
    · subst e
      exact ⟨w, by simp [Ct.cst, List.lookup], h1⟩
    · have hx' : (r.map (·.1)).contains x = true := by
        simp only [List.map_cons, List.contains_cons, Bool.or_eq_true, beq_iff_eq] at hx ⊢
        exact hx.resolve_left e
      obtain ⟨w', a1, a2⟩ := ih x hx'
      refine ⟨w', ?_, a2⟩
      have : (x == y) = false := by simpa using e
      simpa only [Ct.cst, List.lookup, this] using a1
end Own

/-! Own, part S: the meaning, step by step (for simp only) -/
namespace Own
open PySem L2
section
variable {c : Fn} {S S1 : SW} {i j : Int} {xs ys : List W} {α β : Type} {x y : Str}
@[simp] theorem bind_ok {a : α} {f : α → SW → Res β} : (Res.ok a S).bind f = f a S := (rfl)
@[simp] theorem bind_exc {a : Ex} {f : α → SW → Res β} : (Res.exc a S).bind f = .exc a S := (rfl)
@[simp] theorem bind_stuck {f : α → SW → Res β} : (Res.stuck : Res α).bind f = .stuck := (rfl)
@[simp] theorem lift_some {a : α} : lift (some a) S = .ok a S := (rfl)
@[simp] theorem lift_none : lift (none : Option α) S = .stuck := (rfl)
@[simp] theorem b_add : binW .add (.int i) (.int j) = some (.int (i + j)) := (rfl)
@[simp] theorem b_sub : binW .sub (.int i) (.int j) = some (.int (i - j)) := (rfl)
theorem b_mul (h : mulOk i j = true) : binW .mul (.int i) (.int j) = some (.int (i * j)) := if_pos h
theorem b_fdiv (h : 0 < j) (h' : j < 1073741824) : binW .fdiv (.int i) (.int j) = some (.int (i / j)) := if_pos (decide_eq_true ⟨h, h'⟩)
theorem b_mod (h : 0 < j) : binW .mod (.int i) (.int j) = some (.int (i % j)) := if_pos (decide_eq_true h)
theorem b_pow (h : powOk i j = true) : binW .pow (.int i) (.int j) = some (.int (i ^ j.toNat)) := if_pos h
@[simp] theorem c_lt : cmpW .lt (.int i) (.int j) = some (decide (i < j)) := (rfl)
@[simp] theorem c_le : cmpW .le (.int i) (.int j) = some (decide (i ≤ j)) := (rfl)
@[simp] theorem c_gt : cmpW .gt (.int i) (.int j) = some (decide (j < i)) := (rfl)
@[simp] theorem c_ge : cmpW .ge (.int i) (.int j) = some (decide (j ≤ i)) := (rfl)
@[simp] theorem c_eqI : cmpW .eq (.int i) (.int j) = some (decide (i = j)) := (rfl)
@[simp] theorem c_eqS : cmpW .eq (.str x) (.str y) = some (decide (x = y)) := (rfl)
@[simp] theorem c_neI : cmpW .ne (.int i) (.int j) = some (!decide (i = j)) := (rfl)
@[simp] theorem c_neS : cmpW .ne (.str x) (.str y) = some (!decide (x = y)) := (rfl)
@[simp] theorem ix_lst : idxW (.lst xs) (.int i) = atI xs i := (rfl)
@[simp] theorem ix_flst : idxW (.flst xs) (.int i) = atI xs i := (rfl)
@[simp] theorem ix_tup : idxW (.tup xs) (.int i) = atI xs i := (rfl)
@[simp] theorem at_nat {n : Nat} : atI xs (n : Int) = xs[n]? := by
  unfold atI ixN
  by_cases h : n < xs.length
  · simp [h]
  · simp [h]
@[simp] theorem at_lit {n : Nat} : atI xs (no_index (OfNat.ofNat n)) = xs[n]? := at_nat
theorem ixN_nat {n l : Nat} (h : n < l) : ixN l (n : Int) = some n := by unfold ixN; simp [h]
@[simp] theorem ixN_lit {n l : Nat} (h : n < l) : ixN l (no_index (OfNat.ofNat n)) = some n := ixN_nat h
@[simp] theorem put_lst {w : W} {k : Int} : putR (some (.lst xs)) (.int k) w = (ixN xs.length k).map fun j => .lst (xs.set j w) := (rfl)
@[simp] theorem ld_lst : isLD (some (.lst xs)) = true := (rfl)
theorem pureO_int : pureO (some (.int i)) = some (.int i) := rfl
@[simp] theorem len_lst : b1W .len (.lst xs) = some (.int xs.length) := (rfl)
@[simp] theorem len_tup : b1W .len (.tup xs) = some (.int xs.length) := (rfl)
@[simp] theorem len_flst : b1W .len (.flst xs) = some (.int xs.length) := (rfl)
@[simp] theorem int_int : b1W .int (.int i) = some (.int i) := (rfl)
end
end Own

/-! Own, part T: the engine of the plain laws: what a run gives, loops by invariants, steps for simp (no lambda in a step's way, so simp walks in order) -/
namespace Own
open PySem L2
def Res.sat {α : Type} (r : Res α) (Q : α → SW → Prop) : Prop := ∃ a S, r = .ok a S ∧ Q a S
def CRes.sat (r : CRes) (Q : W → List W → Prop) : Prop := ∃ w ws, r = .ok w ws ∧ Q w ws
section
variable {α β : Type} {c : Fn} {S S1 : SW}
@[simp] theorem sat_ok {a : α} {Q : α → SW → Prop} : (Res.ok a S).sat Q ↔ Q a S := ⟨fun ⟨_, _, h, q⟩ => by cases h; exact q, fun q => ⟨_, _, rfl, q⟩⟩
theorem sat_bind {r : Res α} {f : α → SW → Res β} {P : α → SW → Prop} {Q : β → SW → Prop} (h : r.sat P) (k : ∀ a S, P a S → (f a S).sat Q) : (r.bind f).sat Q := by
  obtain ⟨a, S, rfl, p⟩ := h
  exact k a S p
theorem sat_imp {r : Res α} {P Q : α → SW → Prop} (h : r.sat P) (k : ∀ a S, P a S → Q a S) : r.sat Q := by
  obtain ⟨a, S, e, p⟩ := h
  exact ⟨a, S, e, k a S p⟩
/-! branches, sequence -/
def ifR (w : W) (a b : SW → Res α) (S : SW) : Res α := match w with
  | .bl true => a S | .bl false => b S | _ => .stuck
@[simp] theorem ifR_t {a b : SW → Res α} : ifR (.bl true) a b S = a S := (rfl)
@[simp] theorem ifR_f {a b : SW → Res α} : ifR (.bl false) a b S = b S := (rfl)
def thn (r : Res Fl) (k : SW → Res Fl) : Res Fl := match r with
  | .ok .nx S => k S | .ok .bk S => .ok .bk S | .ok .ct S => .ok .ct S | .ok (.rt w) S => .ok (.rt w) S | .exc x S => .exc x S | .stuck => .stuck
section
variable {k : SW → Res Fl} {w : W} {x : Ex}
@[simp] theorem thn_nx : thn (.ok .nx S) k = k S := (rfl)
@[simp] theorem thn_bk : thn (.ok .bk S) k = .ok .bk S := (rfl)
@[simp] theorem thn_ct : thn (.ok .ct S) k = .ok .ct S := (rfl)
@[simp] theorem thn_rt : thn (.ok (.rt w) S) k = .ok (.rt w) S := (rfl)
@[simp] theorem thn_exc : thn (.exc x S) k = .exc x S := (rfl)
theorem sat_thn {r : Res Fl} {P Q : Fl → SW → Prop} (h : r.sat P) (h1 : ∀ S, P .nx S → (k S).sat Q) (h2 : ∀ f S, P f S → f ≠ .nx → Q f S) : (thn r k).sat Q := by
  obtain ⟨f, S, rfl, p⟩ := h
  cases f with
  | nx => exact h1 S p
  | bk => exact ⟨_, _, rfl, h2 _ _ p (by simp)⟩
  | ct => exact ⟨_, _, rfl, h2 _ _ p (by simp)⟩
  | rt w => exact ⟨_, _, rfl, h2 _ _ p (by simp)⟩
/-- a part that only goes on -/
theorem sat_nx {r : Res Fl} {P : SW → Prop} {Q : Fl → SW → Prop} (h : r.sat fun f S => f = .nx ∧ P S) (h1 : ∀ S, P S → (k S).sat Q) : (thn r k).sat Q :=
  sat_thn h (fun S p => h1 S p.2) fun f S p n => absurd p.1 n
end
/-- a part that only goes on, told by what must follow -/
theorem sat_nxP {r : Res Fl} {k : SW → Res Fl} {Q : Fl → SW → Prop} (P0 : SW → Prop) (h : ∀ P : Fl → SW → Prop, (∀ S, P0 S → P .nx S) → r.sat P) (h1 : ∀ S, P0 S → (k S).sat Q) : (thn r k).sat Q :=
  sat_nx (P := P0) (h _ fun _ p => ⟨rfl, p⟩) h1
/-! slots -/
@[simp] theorem gt_zero {x : Option W} : gt (x :: S) 0 = x := by unfold gt; cases x <;> rfl
@[simp] theorem gt_succ {x : Option W} {n : Nat} : gt (x :: S) (n + 1) = gt S n := (rfl)
def bndS {α β : Type} (o : Option α) (k : α → Res β) : Res β := match o with
  | some u => k u | none => .stuck
/-! frames: what is done with what an expression gave -/
@[simp] theorem lift_some' {a : α} : lift (some a) S = .ok a S := (rfl)
def one (c : Fn) (a : E) (S : SW) : Res W := if a.isLk then lift (lk c a S) S else ev c false a S
@[simp] theorem one_l {a : E} (h : a.isLk = true) : one c a S = lift (lk c a S) S := if_pos h
@[simp] theorem one_e {a : E} (h : a.isLk = false) : one c a S = ev c false a S := if_neg (by rw [h]; exact Bool.false_ne_true)
def negW : W → Option W
  | .int i => some (.int (-i)) | _ => none
@[simp] theorem negW_int {i : Int} : negW (.int i) = some (.int (-i)) := (rfl)
def prR (x y : Option W) (S : SW) : Res (W × W) := match x, y with
  | some x, some y => .ok (x, y) S | _, _ => .stuck
@[simp] theorem prR_ok {x y : W} : prR (some x) (some y) S = .ok (x, y) S := (rfl)
def foR (c : Fn) (t : Tg) (b : Sb) (ws : List W) (S : SW) : Res Fl := foL (fun w S2 => match setTg t w S2 with
    | some S3 => exb c b S3 | none => .stuck) ws S
def whR (c : Fn) (d : E) (b : Sb) (S : SW) : Res Fl := whL (ev c true d) (exb c b) fuel S
def notR (w : W) (S : SW) : Res W := match w with | .bl b => .ok (.bl (!b)) S | _ => .stuck
@[simp] theorem notR_bl {y : Bool} : notR (.bl y) S = .ok (.bl (!y)) S := (rfl)
def isLs : Option W → Option (List W)
  | some (.lst xs) => some xs | _ => none
@[simp] theorem isLs_some {xs : List W} : isLs (some (.lst xs)) = some xs := (rfl)
@[simp] theorem isL_some {xs : List W} : isL (some (.lst xs)) = true := (rfl)
def okF (S : SW) : Res W := .ok (.bl false) S
def okT (S : SW) : Res W := .ok (.bl true) S
@[simp] theorem okF_eq : okF S = .ok (.bl false) S := (rfl)
@[simp] theorem okT_eq : okT S = .ok (.bl true) S := (rfl)
def setK (i : Nat) (r : Res W) : Res Fl := r.bind fun w S1 => .ok .nx (S1.set i (some w))
@[simp] theorem setK_ok {i : Nat} {w : W} : setK i (.ok w S) = .ok .nx (S.set i (some w)) := (rfl)
@[simp] theorem setK_exc {i : Nat} {e0 : Ex} : setK i (.exc e0 S) = .exc e0 S := (rfl)
def setMR (is : List Nat) (w : W) (S : SW) : Res Fl := if w.pure then bndS (setTg (.many is) w S) (Res.ok .nx) else .stuck
def setMK (is : List Nat) (r : Res W) : Res Fl := r.bind fun w S1 => setMR is w S1
@[simp] theorem setMK_ok {is : List Nat} {w : W} : setMK is (.ok w S) = setMR is w S := (rfl)
@[simp] theorem setMK_exc {is : List Nat} {e0 : Ex} : setMK is (.exc e0 S) = .exc e0 S := (rfl)
def augK2 (i : Nat) (r : Res W) : Res Fl := r.bind fun w S1 => .ok .nx (S1.set i (some w))
@[simp] theorem augK2_ok {i : Nat} {w : W} : augK2 i (.ok w S) = .ok .nx (S.set i (some w)) := (rfl)
@[simp] theorem augK2_exc {i : Nat} {e0 : Ex} : augK2 i (.exc e0 S) = .exc e0 S := (rfl)
def augK (i : Nat) (o : BOp) (x : W) (r : Res W) : Res Fl := r.bind fun y S1 => augK2 i (lift (augW o x y) S1)
@[simp] theorem augK_ok {i : Nat} {o : BOp} {x : W} {y : W} : augK i o x (.ok y S) = augK2 i (lift (augW o x y) S) := (rfl)
@[simp] theorem augK_exc {i : Nat} {o : BOp} {x : W} {e0 : Ex} : augK i o x (.exc e0 S) = .exc e0 S := (rfl)
def augO (c : Fn) (i : Nat) (o : BOp) (e : E) (x : Option W) (S : SW) : Res Fl := match x with
  | some x => if x.pure then augK i o x (ev c false e S) else .stuck | none => .stuck
@[simp] theorem augO_some {i : Nat} {o : BOp} {e : E} {x : W} (h : x.pure = true) : augO c i o e (some x) S = augK i o x (ev c false e S) := if_pos h
def putK3 (i : Nat) (r : Res W) : Res Fl := r.bind fun u S1 => .ok .nx (S1.set i (some u))
@[simp] theorem putK3_ok {i : Nat} {u : W} : putK3 i (.ok u S) = .ok .nx (S.set i (some u)) := (rfl)
@[simp] theorem putK3_exc {i : Nat} {e0 : Ex} : putK3 i (.exc e0 S) = .exc e0 S := (rfl)
def putK2 (i : Nat) (w : W) (r : Res W) : Res Fl := r.bind fun n S1 => putK3 i (lift (putR (gt S1 i) n w) S1)
@[simp] theorem putK2_ok {i : Nat} {w : W} {n : W} : putK2 i w (.ok n S) = putK3 i (lift (putR (gt S i) n w) S) := (rfl)
@[simp] theorem putK2_exc {i : Nat} {w : W} {e0 : Ex} : putK2 i w (.exc e0 S) = .exc e0 S := (rfl)
def putK (c : Fn) (i : Nat) (k : E) (r : Res W) : Res Fl := r.bind fun w S1 => (if isLD (gt S1 i) then putK2 i w (ev c false k S1) else .stuck)
@[simp] theorem putK_ok {c : Fn} {i : Nat} {k : E} {w : W} : putK c i k (.ok w S) = (if isLD (gt S i) then putK2 i w (ev c false k S) else .stuck) := (rfl)
@[simp] theorem putK_exc {c : Fn} {i : Nat} {k : E} {e0 : Ex} : putK c i k (.exc e0 S) = .exc e0 S := (rfl)
def exprK (i : Nat) (r : Res W) : Res Fl := r.bind fun w S1 => .ok .nx S1
@[simp] theorem exprK_ok {i : Nat} {w : W} : exprK i (.ok w S) = .ok .nx S := (rfl)
@[simp] theorem exprK_exc {i : Nat} {e0 : Ex} : exprK i (.exc e0 S) = .exc e0 S := (rfl)
def retK (i : Nat) (r : Res W) : Res Fl := r.bind fun w S1 => .ok (.rt w) S1
@[simp] theorem retK_ok {i : Nat} {w : W} : retK i (.ok w S) = .ok (.rt w) S := (rfl)
@[simp] theorem retK_exc {i : Nat} {e0 : Ex} : retK i (.exc e0 S) = .exc e0 S := (rfl)
def iteK (a : SW → Res Fl) (b : SW → Res Fl) (r : Res W) : Res Fl := r.bind fun w S1 => ifR w a b S1
@[simp] theorem iteK_ok {a : SW → Res Fl} {b : SW → Res Fl} {w : W} : iteK a b (.ok w S) = ifR w a b S := (rfl)
@[simp] theorem iteK_exc {a : SW → Res Fl} {b : SW → Res Fl} {e0 : Ex} : iteK a b (.exc e0 S) = .exc e0 S := (rfl)
def forK (c : Fn) (t : Tg) (b : Sb) (r : Res (List W)) : Res Fl := r.bind fun ws S1 => foR c t b ws S1
@[simp] theorem forK_ok {c : Fn} {t : Tg} {b : Sb} {ws : List W} : forK c t b (.ok ws S) = foR c t b ws S := (rfl)
@[simp] theorem forK_exc {c : Fn} {t : Tg} {b : Sb} {e0 : Ex} : forK c t b (.exc e0 S) = .exc e0 S := (rfl)
def rK (t : Bool) (r : Res W) : Res W := r.bind fun w S1 => ret t w S1
@[simp] theorem rK_ok {t : Bool} {w : W} : rK t (.ok w S) = ret t w S := (rfl)
@[simp] theorem rK_exc {t : Bool} {e0 : Ex} : rK t (.exc e0 S) = .exc e0 S := (rfl)
def rbK (t : Bool) (r : Res W) : Res W := r.bind fun w S1 => retB t w S1
@[simp] theorem rbK_ok {t : Bool} {w : W} : rbK t (.ok w S) = retB t w S := (rfl)
@[simp] theorem rbK_exc {t : Bool} {e0 : Ex} : rbK t (.exc e0 S) = .exc e0 S := (rfl)
def binK (o : BOp) (t : Bool) (r : Res (W × W)) : Res W := r.bind fun p S1 => rK t (lift (binW o p.1 p.2) S1)
@[simp] theorem binK_ok {o : BOp} {t : Bool} {p : W × W} : binK o t (.ok p S) = rK t (lift (binW o p.1 p.2) S) := (rfl)
@[simp] theorem binK_exc {o : BOp} {t : Bool} {e0 : Ex} : binK o t (.exc e0 S) = .exc e0 S := (rfl)
def negK (t : Bool) (r : Res W) : Res W := r.bind fun w S1 => rK t (lift (negW w) S1)
@[simp] theorem negK_ok {t : Bool} {w : W} : negK t (.ok w S) = rK t (lift (negW w) S) := (rfl)
@[simp] theorem negK_exc {t : Bool} {e0 : Ex} : negK t (.exc e0 S) = .exc e0 S := (rfl)
def blK (t : Bool) (r : Res Bool) : Res W := r.bind fun b S1 => .ok (.bl (if t then !b else b)) S1
@[simp] theorem blK_ok {t : Bool} {b : Bool} : blK t (.ok b S) = .ok (.bl (if t then !b else b)) S := (rfl)
@[simp] theorem blK_exc {t : Bool} {e0 : Ex} : blK t (.exc e0 S) = .exc e0 S := (rfl)
def cmpK (o : COp) (r : Res (W × W)) : Res W := r.bind fun p S1 => blK false (lift (cmpW o p.1 p.2) S1)
@[simp] theorem cmpK_ok {o : COp} {p : W × W} : cmpK o (.ok p S) = blK false (lift (cmpW o p.1 p.2) S) := (rfl)
@[simp] theorem cmpK_exc {o : COp} {e0 : Ex} : cmpK o (.exc e0 S) = .exc e0 S := (rfl)
def notK (i : Nat) (r : Res W) : Res W := r.bind fun w S1 => notR w S1
@[simp] theorem notK_ok {i : Nat} {w : W} : notK i (.ok w S) = notR w S := (rfl)
@[simp] theorem notK_exc {i : Nat} {e0 : Ex} : notK i (.exc e0 S) = .exc e0 S := (rfl)
def not2K (i : Nat) (r : Res W) : Res W := r.bind fun w S1 => blK true (lift (truW w) S1)
@[simp] theorem not2K_ok {i : Nat} {w : W} : not2K i (.ok w S) = blK true (lift (truW w) S) := (rfl)
@[simp] theorem not2K_exc {i : Nat} {e0 : Ex} : not2K i (.exc e0 S) = .exc e0 S := (rfl)
def iteE (a : SW → Res W) (b : SW → Res W) (r : Res W) : Res W := r.bind fun w S1 => ifR w a b S1
@[simp] theorem iteE_ok {a : SW → Res W} {b : SW → Res W} {w : W} : iteE a b (.ok w S) = ifR w a b S := (rfl)
@[simp] theorem iteE_exc {a : SW → Res W} {b : SW → Res W} {e0 : Ex} : iteE a b (.exc e0 S) = .exc e0 S := (rfl)
def tupK (t : Bool) (r : Res (List W)) : Res W := r.bind fun ws S1 => rK t (tupR ws S1)
@[simp] theorem tupK_ok {t : Bool} {ws : List W} : tupK t (.ok ws S) = rK t (tupR ws S) := (rfl)
@[simp] theorem tupK_exc {t : Bool} {e0 : Ex} : tupK t (.exc e0 S) = .exc e0 S := (rfl)
def lstK (t : Bool) (r : Res (List W)) : Res W := r.bind fun ws S1 => rK t (lstR ws S1)
@[simp] theorem lstK_ok {t : Bool} {ws : List W} : lstK t (.ok ws S) = rK t (lstR ws S) := (rfl)
@[simp] theorem lstK_exc {t : Bool} {e0 : Ex} : lstK t (.exc e0 S) = .exc e0 S := (rfl)
def idxK (t : Bool) (r : Res (W × W)) : Res W := r.bind fun p S1 => rbK t (lift (idxW p.1 p.2) S1)
@[simp] theorem idxK_ok {t : Bool} {p : W × W} : idxK t (.ok p S) = rbK t (lift (idxW p.1 p.2) S) := (rfl)
@[simp] theorem idxK_exc {t : Bool} {e0 : Ex} : idxK t (.exc e0 S) = .exc e0 S := (rfl)
def slO (w : W) : Option (Option Int) → Option (Option Int) → Option W
  | some l, some h => slW w l h | _, _ => none
@[simp] theorem slO_some {w : W} {l h : Option Int} : slO w (some l) (some h) = slW w l h := (rfl)
def slK (c : Fn) (t : Bool) (lo : E) (hi : E) (r : Res W) : Res W := r.bind fun w S1 => rK t (lift (slO w (part lo (lk c lo S1)) (part hi (lk c hi S1))) S1)
@[simp] theorem slK_ok {c : Fn} {t : Bool} {lo : E} {hi : E} {w : W} : slK c t lo hi (.ok w S) = rK t (lift (slO w (part lo (lk c lo S)) (part hi (lk c hi S))) S) := (rfl)
@[simp] theorem slK_exc {c : Fn} {t : Bool} {lo : E} {hi : E} {e0 : Ex} : slK c t lo hi (.exc e0 S) = .exc e0 S := (rfl)
def crR (r : CRes) (as : List Ar) (S : SW) : Res W := match r with
  | .ok w ws' => .ok w (backTo as ws' S) | .exc x ws' => .exc x (backTo as ws' S) | .stuck => .stuck
@[simp] theorem crR_ok {w : W} {ws : List W} {as : List Ar} : crR (.ok w ws) as S = .ok w (backTo as ws S) := (rfl)
@[simp] theorem crR_exc {w : Ex} {ws : List W} {as : List Ar} : crR (.exc w ws) as S = .exc w (backTo as ws S) := (rfl)
def crO (c : Fn) (x : Str) (as : List Ar) (o : Option (List W)) (S : SW) : Res W := match o with
  | some ws => crR (c.call x ws) as S | none => .stuck
@[simp] theorem crO_some {x : Str} {as : List Ar} {ws : List W} : crO c x as (some ws) S = crR (c.call x ws) as S := (rfl)
@[simp] theorem callR_eq {x : Str} {as : List Ar} (h : nodupB (atsOf as) = true) : callR c x as S = crO c x as (resolve as S) S := by
  unfold callR crO crR
  rw [if_pos h]
  all_goals (cases resolve as S <;> rfl)
def callK (c : Fn) (x : Str) (t : Bool) (r : Res (List Ar)) : Res W := r.bind fun as S1 => rK t (callR c x as S1)
@[simp] theorem callK_ok {c : Fn} {x : Str} {t : Bool} {as : List Ar} : callK c x t (.ok as S) = rK t (callR c x as S) := (rfl)
@[simp] theorem callK_exc {c : Fn} {x : Str} {t : Bool} {e0 : Ex} : callK c x t (.exc e0 S) = .exc e0 S := (rfl)
def b1K (f : B1) (t : Bool) (r : Res W) : Res W := r.bind fun w S1 => rK t (lift (b1W f w) S1)
@[simp] theorem b1K_ok {f : B1} {t : Bool} {w : W} : b1K f t (.ok w S) = rK t (lift (b1W f w) S) := (rfl)
@[simp] theorem b1K_exc {f : B1} {t : Bool} {e0 : Ex} : b1K f t (.exc e0 S) = .exc e0 S := (rfl)
def b2K (f : B1) (t : Bool) (r : Res (W × W)) : Res W := r.bind fun p S1 => rK t (lift (b2W f p.1 p.2) S1)
@[simp] theorem b2K_ok {f : B1} {t : Bool} {p : W × W} : b2K f t (.ok p S) = rK t (lift (b2W f p.1 p.2) S) := (rfl)
@[simp] theorem b2K_exc {f : B1} {t : Bool} {e0 : Ex} : b2K f t (.exc e0 S) = .exc e0 S := (rfl)
def isiK (y : Ty) (r : Res W) : Res W := r.bind fun w S1 => .ok (.bl (isiW y w)) S1
@[simp] theorem isiK_ok {y : Ty} {w : W} : isiK y (.ok w S) = .ok (.bl (isiW y w)) S := (rfl)
@[simp] theorem isiK_exc {y : Ty} {e0 : Ex} : isiK y (.exc e0 S) = .exc e0 S := (rfl)
def popO (i : Nat) (S : SW) (o : Option (List W)) : Res W := bndS o fun xs => bndS xs[xs.length - 1]? fun y => .ok y (S.set i (some (.lst xs.dropLast)))
@[simp] theorem popO_some {i : Nat} {xs : List W} {y : W} : popO i S (some (xs ++ [y])) = .ok y (S.set i (some (.lst xs))) := by
  simp [popO, bndS]
def appO (i : Nat) (w : W) (S : SW) (o : Option (List W)) : Res W := match o with
  | some xs => if xs.length < sizeLine then .ok .non (S.set i (some (.lst (xs ++ [w])))) else .stuck | none => .stuck
theorem appO_some {i : Nat} {xs : List W} {y : W} (h : xs.length < sizeLine) : appO i y S (some xs) = .ok .non (S.set i (some (.lst (xs ++ [y])))) := if_pos h
def appK (i : Nat) (r : Res W) : Res W := r.bind fun w S1 => appO i w S1 (isLs (gt S1 i))
@[simp] theorem appK_ok {i : Nat} {w : W} : appK i (.ok w S) = appO i w S (isLs (gt S i)) := (rfl)
@[simp] theorem appK_exc {i : Nat} {e0 : Ex} : appK i (.exc e0 S) = .exc e0 S := (rfl)
def extO (i : Nat) (S : SW) (o : Option (List W)) (e : Option (List W)) : Res W := match o, e with
  | some xs, some ys => if xs.length + ys.length ≤ sizeLine then .ok .non (S.set i (some (.lst (xs ++ ys)))) else .stuck | _, _ => .stuck
theorem extO_some {i : Nat} {xs ys : List W} (h : xs.length + ys.length ≤ sizeLine) : extO i S (some xs) (some ys) = .ok .non (S.set i (some (.lst (xs ++ ys)))) := if_pos h
def extK (i : Nat) (r : Res W) : Res W := r.bind fun w S1 => extO i S1 (isLs (gt S1 i)) (extW w)
@[simp] theorem extK_ok {i : Nat} {w : W} : extK i (.ok w S) = extO i S (isLs (gt S i)) (extW w) := (rfl)
@[simp] theorem extK_exc {i : Nat} {e0 : Ex} : extK i (.exc e0 S) = .exc e0 S := (rfl)
def frzK (i : Nat) (r : Res W) : Res W := r.bind fun w S1 => lift (frzW w) S1
@[simp] theorem frzK_ok {i : Nat} {w : W} : frzK i (.ok w S) = lift (frzW w) S := (rfl)
@[simp] theorem frzK_exc {i : Nat} {e0 : Ex} : frzK i (.exc e0 S) = .exc e0 S := (rfl)
def dlK (ks : List Key) (r : Res (List W)) : Res W := r.bind fun ws S1 => lift (dlW ks ws) S1
@[simp] theorem dlK_ok {ks : List Key} {ws : List W} : dlK ks (.ok ws S) = lift (dlW ks ws) S := (rfl)
@[simp] theorem dlK_exc {ks : List Key} {e0 : Ex} : dlK ks (.exc e0 S) = .exc e0 S := (rfl)
def joinK (x : Str) (t : Bool) (r : Res W) : Res W := r.bind fun w S1 => rK t (lift (joinW x w) S1)
@[simp] theorem joinK_ok {x : Str} {t : Bool} {w : W} : joinK x t (.ok w S) = rK t (lift (joinW x w) S) := (rfl)
@[simp] theorem joinK_exc {x : Str} {t : Bool} {e0 : Ex} : joinK x t (.exc e0 S) = .exc e0 S := (rfl)
def andK (k : SW → Res W) (r : Res W) : Res W := r.bind fun w S1 => ifR w k okF S1
@[simp] theorem andK_ok {k : SW → Res W} {w : W} : andK k (.ok w S) = ifR w k okF S := (rfl)
@[simp] theorem andK_exc {k : SW → Res W} {e0 : Ex} : andK k (.exc e0 S) = .exc e0 S := (rfl)
def orK (k : SW → Res W) (r : Res W) : Res W := r.bind fun w S1 => ifR w okT k S1
@[simp] theorem orK_ok {k : SW → Res W} {w : W} : orK k (.ok w S) = ifR w okT k S := (rfl)
@[simp] theorem orK_exc {k : SW → Res W} {e0 : Ex} : orK k (.exc e0 S) = .exc e0 S := (rfl)
def consM (w : W) (r : Res (List W)) : Res (List W) := r.bind fun ws S1 => .ok (w :: ws) S1
@[simp] theorem consM_ok {w : W} {ws : List W} : consM w (.ok ws S) = .ok (w :: ws) S := (rfl)
@[simp] theorem consM_exc {w : W} {e0 : Ex} : consM w (.exc e0 S) = .exc e0 S := (rfl)
def consL (k : SW → Res (List W)) (r : Res W) : Res (List W) := r.bind fun w S1 => consM w (k S1)
@[simp] theorem consL_ok {k : SW → Res (List W)} {w : W} : consL k (.ok w S) = consM w (k S) := (rfl)
@[simp] theorem consL_exc {k : SW → Res (List W)} {e0 : Ex} : consL k (.exc e0 S) = .exc e0 S := (rfl)
def consB (w : Ar) (r : Res (List Ar)) : Res (List Ar) := r.bind fun ws S1 => .ok (w :: ws) S1
@[simp] theorem consB_ok {w : Ar} {ws : List Ar} : consB w (.ok ws S) = .ok (w :: ws) S := (rfl)
@[simp] theorem consB_exc {w : Ar} {e0 : Ex} : consB w (.exc e0 S) = .exc e0 S := (rfl)
def consA (k : SW → Res (List Ar)) (r : Res W) : Res (List Ar) := r.bind fun w S1 => consB (Ar.val w) (k S1)
@[simp] theorem consA_ok {k : SW → Res (List Ar)} {w : W} : consA k (.ok w S) = consB (Ar.val w) (k S) := (rfl)
@[simp] theorem consA_exc {k : SW → Res (List Ar)} {e0 : Ex} : consA k (.exc e0 S) = .exc e0 S := (rfl)
def arW (i : Nat) (w : W) : Ar := if w.pure then .val w else .slot i
@[simp] theorem arW_p {w : W} {i : Nat} (h : w.pure = true) : arW i w = .val w := if_pos h
@[simp] theorem arW_n {w : W} {i : Nat} (h : w.pure = false) : arW i w = .slot i := if_neg (by rw [h]; exact Bool.false_ne_true)
def varA (c : Fn) (es : Es) (i : Nat) (o : Option W) (S : SW) : Res (List Ar) := match o with
  | some w => consB (arW i w) (evA c es S) | none => .stuck
@[simp] theorem varA_some {es : Es} {i : Nat} {w : W} : varA c es i (some w) S = consB (arW i w) (evA c es S) := (rfl)
def varR (o : Option W) (i : Nat) (S : SW) : Res W := match o with
  | some w => if w.pure then .ok w S else .ok w (S.set i none) | none => .stuck
@[simp] theorem varR_p {w : W} {i : Nat} (h : w.pure = true) : varR (some w) i S = .ok w S := if_pos h
@[simp] theorem varR_n {w : W} {i : Nat} (h : w.pure = false) : varR (some w) i S = .ok w (S.set i none) := if_neg (by rw [h]; exact Bool.false_ne_true)
def truO (o : Option W) (S : SW) : Res W := match o with
  | some w => tru w S | none => .stuck
@[simp] theorem truO_some {w : W} : truO (some w) S = tru w S := (rfl)
def seqK (lk us : Bool) (r : Res W) : Res (List W) := r.bind fun w S1 => (if w.pure || (!lk || us) then lift (itemsW w) S1 else .stuck)
@[simp] theorem seqK_ok {lk us : Bool} {w : W} : seqK lk us (.ok w S) = (if w.pure || (!lk || us) then lift (itemsW w) S else .stuck) := (rfl)
@[simp] theorem seqK_exc {lk us : Bool} {e0 : Ex} : seqK lk us (.exc e0 S) = .exc e0 S := (rfl)
def rngR (w : W) (S : SW) : Res (List W) := match w with
  | .int n => if small62 n then .ok (rngW 0 n) S else .stuck | _ => .stuck
theorem small_of {n : Int} (h : -4611686018427387904 ≤ n) (h' : n < 4611686018427387904) : small62 n = true := by unfold small62; exact decide_eq_true ⟨h, h'⟩
@[simp] theorem rngR_int {n : Int} (h : small62 n = true) : rngR (.int n) S = .ok (rngW 0 n) S := if_pos h
def rngR2 (x y : W) (S : SW) : Res (List W) := match x, y with
  | .int i, .int j => if small62 i && small62 j then .ok (rngW i j) S else .stuck | _, _ => .stuck
@[simp] theorem rngR2_int {i j : Int} (h : small62 i = true) (h' : small62 j = true) : rngR2 (.int i) (.int j) S = .ok (rngW i j) S := by
  unfold rngR2; simp [h, h']
def rngK (i : Nat) (r : Res W) : Res (List W) := r.bind fun w S1 => rngR w S1
@[simp] theorem rngK_ok {i : Nat} {w : W} : rngK i (.ok w S) = rngR w S := (rfl)
@[simp] theorem rngK_exc {i : Nat} {e0 : Ex} : rngK i (.exc e0 S) = .exc e0 S := (rfl)
def rng2B (x : W) (r : Res W) : Res (List W) := r.bind fun w S1 => rngR2 x w S1
@[simp] theorem rng2B_ok {x : W} {w : W} : rng2B x (.ok w S) = rngR2 x w S := (rfl)
@[simp] theorem rng2B_exc {x : W} {e0 : Ex} : rng2B x (.exc e0 S) = .exc e0 S := (rfl)
def rng2A (k : SW → Res W) (r : Res W) : Res (List W) := r.bind fun w S1 => rng2B w (k S1)
@[simp] theorem rng2A_ok {k : SW → Res W} {w : W} : rng2A k (.ok w S) = rng2B w (k S) := (rfl)
@[simp] theorem rng2A_exc {k : SW → Res W} {e0 : Ex} : rng2A k (.exc e0 S) = .exc e0 S := (rfl)
def tw1 (qb : SW → Option W) (r : Res W) : Res (W × W) := r.bind fun x S1 => prR (some x) (qb S1) S1
@[simp] theorem tw1_ok {qb : SW → Option W} {x : W} : tw1 qb (.ok x S) = prR (some x) (qb S) S := (rfl)
@[simp] theorem tw1_exc {qb : SW → Option W} {e0 : Ex} : tw1 qb (.exc e0 S) = .exc e0 S := (rfl)
def tw2 (i : Nat) (r : Res W) : Res (W × W) := r.bind fun y S1 => prR (gt S1 i) (some y) S1
@[simp] theorem tw2_ok {i : Nat} {y : W} : tw2 i (.ok y S) = prR (gt S i) (some y) S := (rfl)
@[simp] theorem tw2_exc {i : Nat} {e0 : Ex} : tw2 i (.exc e0 S) = .exc e0 S := (rfl)
def tw4 (x : W) (r : Res W) : Res (W × W) := r.bind fun y S1 => .ok (x, y) S1
@[simp] theorem tw4_ok {x : W} {y : W} : tw4 x (.ok y S) = .ok (x, y) S := (rfl)
@[simp] theorem tw4_exc {x : W} {e0 : Ex} : tw4 x (.exc e0 S) = .exc e0 S := (rfl)
def tw3 (db : SW → Res W) (r : Res W) : Res (W × W) := r.bind fun x S1 => tw4 x (db S1)
@[simp] theorem tw3_ok {db : SW → Res W} {x : W} : tw3 db (.ok x S) = tw4 x (db S) := (rfl)
@[simp] theorem tw3_exc {db : SW → Res W} {e0 : Ex} : tw3 db (.exc e0 S) = .exc e0 S := (rfl)
def trC (own : List Nat) (r : Res W) : Res (Option W) := r.bind fun y S1 => .ok (some y) (wipeS S1 own)
@[simp] theorem trC_ok {own : List Nat} {y : W} : trC own (.ok y S) = .ok (some y) (wipeS S own) := (rfl)
@[simp] theorem trC_exc {own : List Nat} {e0 : Ex} : trC own (.exc e0 S) = .exc e0 S := (rfl)
def trB (c : Fn) (own : List Nat) (e : E) (S : SW) : Res (Option W) := trC own (ev c false e S)
@[simp] theorem trB_eq {own : List Nat} {e : E} : trB c own e S = trC own (ev c false e S) := (rfl)
def trN (own : List Nat) (S : SW) : Res (Option W) := .ok none (wipeS S own)
@[simp] theorem trN_eq {own : List Nat} : trN own S = .ok none (wipeS S own) := (rfl)
def trA (a : SW → Res (Option W)) (b : SW → Res (Option W)) (r : Res W) : Res (Option W) := r.bind fun w S1 => ifR w a b S1
@[simp] theorem trA_ok {a : SW → Res (Option W)} {b : SW → Res (Option W)} {w : W} : trA a b (.ok w S) = ifR w a b S := (rfl)
@[simp] theorem trA_exc {a : SW → Res (Option W)} {b : SW → Res (Option W)} {e0 : Ex} : trA a b (.exc e0 S) = .exc e0 S := (rfl)
def turnO (c : Fn) (own : List Nat) (cs : Es) (e : E) (o : Option SW) : Res (Option W) := match o with
  | some S => trA (trB c own e) (trN own) (evTs c cs S) | none => .stuck
@[simp] theorem turnO_some {own : List Nat} {cs : Es} {e : E} : turnO c own cs e (some S) = trA (trB c own e) (trN own) (evTs c cs S) := (rfl)
def turnR (c : Fn) (own : List Nat) (tg : Tg) (cs : Es) (e : E) (w : W) (S : SW) : Res (Option W) := turnO c own cs e (setTg tg w S)
theorem turnR_eq {own : List Nat} {tg : Tg} {cs : Es} {e : E} {w : W} : turnR c own tg cs e w S = turnO c own cs e (setTg tg w S) := rfl
def lcR (c : Fn) (own : List Nat) (tg : Tg) (cs : Es) (e : E) (items : List W) (S : SW) : Res (List W) := lcL (turnR c own tg cs e) items [] S
def lcK2 (t : Bool) (own : List Nat) (S0 : SW) (r : Res (List W)) : Res W := r.bind fun ys S1 => ret t (.lst ys) (unwipe S0 S1 own)
@[simp] theorem lcK2_ok {t : Bool} {own : List Nat} {S0 : SW} {ys : List W} : lcK2 t own S0 (.ok ys S) = ret t (.lst ys) (unwipe S0 S own) := (rfl)
@[simp] theorem lcK2_exc {t : Bool} {own : List Nat} {S0 : SW} {e0 : Ex} : lcK2 t own S0 (.exc e0 S) = .exc e0 S := (rfl)
def lcK (c : Fn) (t : Bool) (own : List Nat) (tg : Tg) (cs : Es) (e : E) (r : Res (List W)) : Res W := r.bind fun items S1 => lcK2 t own S1 (lcR c own tg cs e items (wipeS S1 own))
@[simp] theorem lcK_ok {c : Fn} {t : Bool} {own : List Nat} {tg : Tg} {cs : Es} {e : E} {items : List W} : lcK c t own tg cs e (.ok items S) = lcK2 t own S (lcR c own tg cs e items (wipeS S own)) := (rfl)
@[simp] theorem lcK_exc {c : Fn} {t : Bool} {own : List Nat} {tg : Tg} {cs : Es} {e : E} {e0 : Ex} : lcK c t own tg cs e (.exc e0 S) = .exc e0 S := (rfl)
def lrevK (t : Bool) (r : Res W) : Res W := r.bind fun w S1 => rK t (lift (lrevW w) S1)
@[simp] theorem lrevK_ok {t : Bool} {w : W} : lrevK t (.ok w S) = rK t (lift (lrevW w) S) := (rfl)
def delK2 (i : Nat) (r : Res W) : Res Fl := r.bind fun u S1 => .ok .nx (S1.set i (some u))
@[simp] theorem delK2_ok {i : Nat} {u : W} : delK2 i (.ok u S) = .ok .nx (S.set i (some u)) := (rfl)
def delK (i : Nat) (r : Res W) : Res Fl := r.bind fun w S1 => delK2 i (lift (delTW (gt S1 i) w) S1)
@[simp] theorem delK_ok {i : Nat} {w : W} : delK i (.ok w S) = delK2 i (lift (delTW (gt S i) w) S) := (rfl)
def tdZ (own : List Nat) (y : W) (r : Res W) : Res (Option (W × W)) := r.bind fun z S1 => .ok (some (y, z)) (wipeS S1 own)
@[simp] theorem tdZ_ok {own : List Nat} {y z : W} : tdZ own y (.ok z S) = .ok (some (y, z)) (wipeS S own) := (rfl)
def tdY (own : List Nat) (v : SW → Res W) (r : Res W) : Res (Option (W × W)) := r.bind fun y S1 => tdZ own y (v S1)
@[simp] theorem tdY_ok {own : List Nat} {v : SW → Res W} {y : W} : tdY own v (.ok y S) = tdZ own y (v S) := (rfl)
def tdB (c : Fn) (own : List Nat) (k v : E) (S : SW) : Res (Option (W × W)) := tdY own (ev c false v) (ev c false k S)
@[simp] theorem tdB_eq {own : List Nat} {k v : E} : tdB c own k v S = tdY own (ev c false v) (ev c false k S) := (rfl)
def tdN (own : List Nat) (S : SW) : Res (Option (W × W)) := .ok none (wipeS S own)
@[simp] theorem tdN_eq {own : List Nat} : tdN own S = .ok none (wipeS S own) := (rfl)
def tdA (a b : SW → Res (Option (W × W))) (r : Res W) : Res (Option (W × W)) := r.bind fun w S1 => ifR w a b S1
@[simp] theorem tdA_ok {a b : SW → Res (Option (W × W))} {w : W} : tdA a b (.ok w S) = ifR w a b S := (rfl)
def turnDO (c : Fn) (own : List Nat) (cs : Es) (k v : E) (o : Option SW) : Res (Option (W × W)) := match o with
  | some S => tdA (tdB c own k v) (tdN own) (evTs c cs S) | none => .stuck
@[simp] theorem turnDO_some {own : List Nat} {cs : Es} {k v : E} : turnDO c own cs k v (some S) = tdA (tdB c own k v) (tdN own) (evTs c cs S) := (rfl)
def turnDR (c : Fn) (own : List Nat) (tg : Tg) (cs : Es) (k v : E) (w : W) (S : SW) : Res (Option (W × W)) := turnDO c own cs k v (setTg tg w S)
theorem turnDR_eq {own : List Nat} {tg : Tg} {cs : Es} {k v : E} {w : W} : turnDR c own tg cs k v w S = turnDO c own cs k v (setTg tg w S) := rfl
def dcR (c : Fn) (own : List Nat) (tg : Tg) (cs : Es) (k v : E) (items : List W) (S : SW) : Res (List Key × List W) := dcL (turnDR c own tg cs k v) items ([], []) S
def dcK2 (t : Bool) (own : List Nat) (S0 : SW) (r : Res (List Key × List W)) : Res W := r.bind fun ys S1 => ret t (.dict ys.1 ys.2) (unwipe S0 S1 own)
@[simp] theorem dcK2_ok {t : Bool} {own : List Nat} {S0 : SW} {ys : List Key × List W} : dcK2 t own S0 (.ok ys S) = ret t (.dict ys.1 ys.2) (unwipe S0 S own) := (rfl)
def dcK (c : Fn) (t : Bool) (own : List Nat) (tg : Tg) (cs : Es) (k v : E) (r : Res (List W)) : Res W := r.bind fun items S1 => dcK2 t own S1 (dcR c own tg cs k v items (wipeS S1 own))
@[simp] theorem dcK_ok {t : Bool} {own : List Nat} {tg : Tg} {cs : Es} {k v : E} {items : List W} : dcK c t own tg cs k v (.ok items S) = dcK2 t own S (dcR c own tg cs k v items (wipeS S own)) := (rfl)
/-! statements -/
@[simp] theorem exb_nil : exb c .nil S = .ok .nx S := (rfl)
@[simp] theorem exb_cons {s : Sm} {b : Sb} : exb c (.cons s b) S = thn (ex c s S) (exb c b) := by
  show (ex c s S).bind _ = _
  cases ex c s S with
  | ok f S1 => cases f <;> rfl
  | exc x S1 => rfl
  | stuck => rfl
@[simp] theorem thn_nil {r : Res Fl} : thn r (exb c .nil) = r := by
  cases r with
  | ok f S1 => cases f <;> rfl
  | exc x S1 => rfl
  | stuck => rfl
def fzO (c : Fn) (i : Nat) (b : Sb) (o : Option W) (S : SW) : Res Fl := match o with
  | some u => exb c b (S.set i (some u)) | none => .stuck
@[simp] theorem fzO_some {i : Nat} {b : Sb} {u : W} : fzO c i b (some u) S = exb c b (S.set i (some u)) := (rfl)
def frzO (o : Option W) : Option W := o.bind frzW
@[simp] theorem frzO_some {u : W} : frzO (some u) = frzW u := (rfl)
@[simp] theorem exb_fz {i : Nat} {b : Sb} : exb c (.fz i b) S = fzO c i b (frzO (gt S i)) S := (rfl)
@[simp] theorem ex_set {i : Nat} {e : E} : ex c (.set i e) S = setK i (ev c false e S) := (rfl)
@[simp] theorem ex_setM {is : List Nat} {e : E} : ex c (.setM is e) S = setMK is (one c e S) := by
  show (if e.isLk then lift (lk c e S) S else ev c false e S).bind _ = _
  unfold setMK one
  congr 1; funext w S1
  unfold setMR bndS
  cases setTg (.many is) w S1 <;> rfl
@[simp] theorem ex_aug {i : Nat} {o : BOp} {e : E} : ex c (.aug i o e) S = augO c i o e (gt S i) S := by
  show (match gt S i with | some x => _ | none => Res.stuck) = _
  cases gt S i <;> rfl
@[simp] theorem ex_put {i : Nat} {k e : E} : ex c (.put i k e) S = putK c i k (ev c false e S) := (rfl)
@[simp] theorem ex_expr {e : E} : ex c (.expr e) S = exprK 0 (ev c false e S) := (rfl)
@[simp] theorem ex_ret {e : E} : ex c (.ret e) S = retK 0 (ev c false e S) := (rfl)
@[simp] theorem ex_retN : ex c .retN S = .ok (.rt .non) S := (rfl)
@[simp] theorem ex_ite {d : E} {a b : Sb} : ex c (.ite d a b) S = iteK (exb c a) (exb c b) (ev c true d S) := by
  show (ev c true d S).bind _ = _
  unfold iteK
  congr 1
  all_goals funext w S1
  all_goals cases w <;> first | rfl | (rename_i b; cases b <;> rfl)
@[simp] theorem ex_whl {d : E} {b : Sb} : ex c (.whl d b) S = whR c d b S := (rfl)
@[simp] theorem ex_for {t : Tg} {it : It} {b : Sb} : ex c (.for_ t it b) S = forK c t b (evIt c (t.slots ++ b.md) it S) := (rfl)
@[simp] theorem ex_brk : ex c .brk S = .ok .bk S := (rfl)
@[simp] theorem ex_cont : ex c .cont S = .ok .ct S := (rfl)
@[simp] theorem ex_delT {i : Nat} {e : E} : ex c (.delT i e) S = if isL (gt S i) then delK i (ev c false e S) else .stuck := (rfl)
@[simp] theorem ex_pass : ex c .pass S = .ok .nx S := (rfl)
/-! expressions that look -/
@[simp] theorem lk_var {i : Nat} : lk c (.var i) S = gt S i := (rfl)
@[simp] theorem lk_int {n : Int} : lk c (.int n) S = some (.int n) := (rfl)
@[simp] theorem lk_str {n : Str} : lk c (.str n) S = some (.str n) := (rfl)
@[simp] theorem lk_bl {n : Bool} : lk c (.bl n) S = some (.bl n) := (rfl)
@[simp] theorem lk_non : lk c .non S = some .non := (rfl)
@[simp] theorem lk_glob {n : Str} : lk c (.glob n) S = noFd (c.cst n) := (rfl)
def binO (o : BOp) : Option W → Option W → Option W
  | some x, some y => pureO (binW o x y) | _, _ => none
@[simp] theorem binO_some {o : BOp} {x y : W} : binO o (some x) (some y) = pureO (binW o x y) := (rfl)
@[simp] theorem lk_bin {o : BOp} {a b : E} : lk c (.bin o a b) S = binO o (lk c a S) (lk c b S) := by
  show (lk c a S).bind _ = _
  cases lk c a S with
  | none => rfl
  | some x => cases h : lk c b S <;> simp [binO, h]
def negO : Option W → Option W
  | some x => negW x | none => none
@[simp] theorem negO_some {x : W} : negO (some x) = negW x := (rfl)
@[simp] theorem lk_neg {a : E} : lk c (.neg a) S = negO (lk c a S) := by
  show (lk c a S).bind _ = _
  cases lk c a S with
  | none => rfl
  | some w => cases w <;> rfl
def idxO : Option W → Option W → Option W
  | some x, some y => idxW x y | _, _ => none
@[simp] theorem idxO_some {x y : W} : idxO (some x) (some y) = idxW x y := (rfl)
@[simp] theorem lk_idx {a k : E} : lk c (.idx a k) S = idxO (lk c a S) (lk c k S) := by
  show (lk c a S).bind _ = _
  cases lk c a S with
  | none => rfl
  | some x => cases h : lk c k S <;> simp [idxO, h]
def b1O (f : B1) : Option W → Option W
  | some x => pureO (b1W f x) | none => none
@[simp] theorem b1O_some {f : B1} {x : W} : b1O f (some x) = pureO (b1W f x) := (rfl)
@[simp] theorem lk_b1 {f : B1} {a : E} : lk c (.b1 f a) S = b1O f (lk c a S) := by
  show (lk c a S).bind _ = _
  cases lk c a S <;> rfl
def tupO : Option (List W) → Option W
  | some ws => if pureL ws && decide (ws.length ≤ sizeLine) then some (.tup ws) else none | none => none
theorem tupO_some {ws : List W} (h : pureL ws = true) (h' : ws.length ≤ sizeLine) : tupO (some ws) = some (.tup ws) := by
  unfold tupO; simp [h, h']
@[simp] theorem lk_tup {es : Es} : lk c (.tup es) S = tupO (lkL c es S) := by
  show (lkL c es S).bind _ = _
  cases lkL c es S <;> rfl
def consO : Option W → Option (List W) → Option (List W)
  | some w, some ws => some (w :: ws) | _, _ => none
@[simp] theorem consO_some {w : W} {ws : List W} : consO (some w) (some ws) = some (w :: ws) := (rfl)
@[simp] theorem lkL_nil : lkL c .nil S = some [] := (rfl)
@[simp] theorem lkL_cons {e : E} {es : Es} : lkL c (.cons e es) S = consO (lk c e S) (lkL c es S) := by
  show (lk c e S).bind _ = _
  cases lk c e S with
  | none => rfl
  | some x => cases h : lkL c es S <;> simp [consO, h]
/-! two operands -/
section
variable {qa qb : SW → Option W} {da db : SW → Res W} {la : Bool} {va : Option Nat} {i : Nat}
@[simp] theorem two_tt : two true true va qa qb da db S = prR (qa S) (qb S) S := by
  unfold two prR
  simp only [if_true]
  cases qa S with
  | none => rfl
  | some x => cases h : qb S <;> simp [lift, Res.bind, h]
@[simp] theorem two_ft : two false true va qa qb da db S = tw1 qb (da S) := by
  unfold two tw1 prR
  simp only [if_true, Bool.false_eq_true, if_false]
  congr 1; funext x S1
  cases h : qb S1 <;> simp [lift]
@[simp] theorem two_vf : two la false (some i) qa qb da db S = if (gt S i).isSome then tw2 i (db S) else .stuck := by
  unfold two tw2 prR
  simp only [Bool.false_eq_true, if_false]
  congr 1; congr 1; funext x S1
  cases h : gt S1 i <;> simp [lift]
@[simp] theorem two_nf : two la false none qa qb da db S = tw3 db (da S) := by
  unfold two tw3 tw4
  simp only [Bool.false_eq_true, if_false]
end
/-! expressions -/
@[simp] theorem ev_var {i : Nat} : ev c false (.var i) S = varR (gt S i) i S := by
  show (match gt S i with | some w => if false = true then tru w S else if w.pure then .ok w S else .ok w (S.set i none) | none => Res.stuck) = _
  cases gt S i <;> rfl
@[simp] theorem evt_var {i : Nat} : ev c true (.var i) S = truO (gt S i) S := by
  show (match gt S i with | some w => if true = true then tru w S else if w.pure then .ok w S else .ok w (S.set i none) | none => Res.stuck) = _
  cases gt S i <;> rfl
section
variable {t : Bool} {a b d : E} {es : Es} {n : Int} {x : Str}
@[simp] theorem ev_int : ev c t (.int n) S = ret t (.int n) S := (rfl)
@[simp] theorem ev_str : ev c t (.str x) S = ret t (.str x) S := (rfl)
@[simp] theorem ev_bl {y : Bool} : ev c t (.bl y) S = ret t (.bl y) S := (rfl)
@[simp] theorem ev_non : ev c t .non S = ret t .non S := (rfl)
@[simp] theorem ev_glob : ev c t (.glob x) S = rK t (lift (noFd (c.cst x)) S) := (rfl)
@[simp] theorem ev_bin {o : BOp} : ev c t (.bin o a b) S = binK o t (two a.isLk b.isLk a.isVar (lk c a) (lk c b) (ev c false a) (ev c false b) S) := (rfl)
@[simp] theorem ev_neg : ev c t (.neg a) S = negK t (one c a S) := by
  show (if a.isLk then lift (lk c a S) S else ev c false a S).bind _ = _
  unfold negK one
  congr 1; funext w S1
  cases w <;> rfl
@[simp] theorem ev_cmp {o : COp} : ev c t (.cmp o a b) S = cmpK o (two a.isLk b.isLk a.isVar (lk c a) (lk c b) (ev c false a) (ev c false b) S) := (rfl)
@[simp] theorem ev_and : ev c t (.and es) S = evAnd c t es S := (rfl)
@[simp] theorem ev_or : ev c t (.or es) S = evOr c t es S := (rfl)
@[simp] theorem evt_not : ev c true (.not a) S = notK 0 (ev c true a S) := by
  show (if true = true then _ else _) = _
  rw [if_pos rfl]; unfold notK; congr 1
@[simp] theorem ev_not : ev c false (.not a) S = not2K 0 (one c a S) := (rfl)
@[simp] theorem ev_ite : ev c false (.ite d a b) S = iteE (ev c false a) (ev c false b) (ev c true d S) := by
  show (if false = true then _ else _) = _
  rw [if_neg Bool.false_ne_true]; unfold iteE; congr 1
  all_goals funext w S1
  all_goals cases w <;> first | rfl | (rename_i b; cases b <;> rfl)
@[simp] theorem ev_tup : ev c t (.tup es) S = tupK t (evL c es S) := (rfl)
@[simp] theorem ev_lst : ev c t (.lst es) S = lstK t (evL c es S) := (rfl)
@[simp] theorem ev_idx : ev c t (.idx a b) S = idxK t (two a.isLk b.isLk a.isVar (lk c a) (lk c b) (ev c false a) (ev c false b) S) := (rfl)
@[simp] theorem ev_sl {lo hi : E} : ev c t (.sl a lo hi) S = slK c t lo hi (one c a S) := by
  show (if a.isLk then lift (lk c a S) S else ev c false a S).bind _ = _
  unfold slK one
  congr 1; funext w S1
  cases part lo (lk c lo S1) with
  | none => rfl
  | some l =>
    simp only [lift, Res.bind]
    cases part hi (lk c hi S1) <;> rfl
@[simp] theorem ev_call : ev c t (.call x es) S = callK c x t (evA c es S) := (rfl)
@[simp] theorem ev_b1 {f : B1} : ev c t (.b1 f a) S = b1K f t (one c a S) := (rfl)
@[simp] theorem ev_b2 {f : B1} : ev c t (.b2 f a b) S = b2K f t (two a.isLk b.isLk a.isVar (lk c a) (lk c b) (ev c false a) (ev c false b) S) := (rfl)
@[simp] theorem ev_isi {y : Ty} : ev c t (.isi a y) S = isiK y (one c a S) := (rfl)
@[simp] theorem ev_pop {i : Nat} : ev c false (.pop i) S = popO i S (isLs (gt S i)) := by
  show (match gt S i with | some (.lst xs) => (match xs[xs.length - 1]? with | some y => if false = true then Res.stuck else .ok y (S.set i (some (.lst xs.dropLast))) | none => Res.stuck) | _ => Res.stuck) = _
  cases gt S i with
  | none => rfl
  | some w => cases w <;> first | rfl | (rename_i xs; simp only [isLs, popO, bndS]; cases xs[xs.length - 1]? <;> rfl)
@[simp] theorem ev_app {i : Nat} : ev c false (.app i a) S = if isL (gt S i) then appK i (ev c false a S) else .stuck := by
  show (if false = true then Res.stuck else if isL (gt S i) then (ev c false a S).bind _ else Res.stuck) = _
  rw [if_neg Bool.false_ne_true]; unfold appK; congr 1; congr 1; funext w S1
  cases gt S1 i with
  | none => rfl
  | some w => cases w <;> rfl
@[simp] theorem ev_ext {i : Nat} : ev c false (.ext i a) S = if isL (gt S i) then extK i (one c a S) else .stuck := by
  show (if false = true then Res.stuck else if isL (gt S i) then (if a.isLk then lift (lk c a S) S else ev c false a S).bind _ else Res.stuck) = _
  rw [if_neg Bool.false_ne_true]; unfold extK one; congr 1; congr 1; funext w S1
  cases gt S1 i with
  | none => rfl
  | some u => cases u <;> first | rfl | (cases extW w <;> rfl)
@[simp] theorem ev_frz : ev c false (.frz a) S = frzK 0 (ev c false a S) := by
  show (if false = true then Res.stuck else (ev c false a S).bind _) = _
  rw [if_neg Bool.false_ne_true]; unfold frzK; congr 1; funext w S1
  cases frzW w <;> rfl
@[simp] theorem ev_dn : ev c false .dn S = .ok (.dict [] []) S := (rfl)
@[simp] theorem ev_dl {ks : List Key} : ev c false (.dl ks es) S = dlK ks (lift (lkL c es S) S) := by
  show (if false = true then Res.stuck else (lift (lkL c es S) S).bind _) = _
  rw [if_neg Bool.false_ne_true]; unfold dlK; congr 1; funext w S1
  cases dlW ks w <;> rfl
@[simp] theorem ev_get {i : Nat} : ev c t (.get i a b) S = rbK t (lift (getW (gt S i) (lk c a S) (lk c b S)) S) := (rfl)
@[simp] theorem ev_join : ev c t (.join x a) S = joinK x t (one c a S) := (rfl)
@[simp] theorem ev_gidx : ev c t (.gidx x a) S = rK t (lift (gidxW (c.cst x) (lk c a S)) S) := (rfl)
@[simp] theorem ev_gin {y : Bool} : ev c t (.gin y x a) S = blK y (lift (ginW (c.cst x) (lk c a S)) S) := (rfl)
@[simp] theorem ev_lrev : ev c t (.lrev a) S = lrevK t (one c a S) := (rfl)
@[simp] theorem ev_dc {own : List Nat} {tg : Tg} {it : It} {cs : Es} {k v : E} : ev c t (.dc own tg it cs k v) S = dcK c t own tg cs k v (evIt c (cs.md true ++ (k.md false ++ v.md false)) it S) := by
  show (evIt c (cs.md true ++ (k.md false ++ v.md false)) it S).bind _ = _
  unfold dcK dcK2
  congr 1
  all_goals
    funext items S1
    unfold dcR
    congr 1
    congr 1
    funext w S2
    unfold turnDR turnDO
    cases setTg tg w S2 with
    | none => rfl
    | some S3 =>
      unfold tdA
      simp only
      congr 1
      all_goals
        funext b S4
        cases b <;> first | rfl | (rename_i b; cases b <;> rfl)
@[simp] theorem evAnd_one : evAnd c t (.cons a .nil) S = ev c t a S := (rfl)
@[simp] theorem evAnd_two : evAnd c t (.cons a (.cons b es)) S = andK (evAnd c t (.cons b es)) (ev c t a S) := by
  show (ev c t a S).bind _ = _
  unfold andK
  congr 1
  all_goals funext w S1
  all_goals cases w <;> first | rfl | (rename_i b; cases b <;> rfl)
@[simp] theorem evOr_one : evOr c t (.cons a .nil) S = ev c t a S := (rfl)
@[simp] theorem evOr_two : evOr c t (.cons a (.cons b es)) S = orK (evOr c t (.cons b es)) (ev c t a S) := by
  show (ev c t a S).bind _ = _
  unfold orK
  congr 1
  all_goals funext w S1
  all_goals cases w <;> first | rfl | (rename_i b; cases b <;> rfl)
@[simp] theorem evTs_nil : evTs c .nil S = .ok (.bl true) S := (rfl)
@[simp] theorem evTs_one : evTs c (.cons a .nil) S = ev c true a S := (rfl)
@[simp] theorem evL_nil : evL c .nil S = .ok [] S := (rfl)
@[simp] theorem evL_cons : evL c (.cons a es) S = consL (evL c es) (ev c false a S) := (rfl)
@[simp] theorem evA_nil : evA c .nil S = .ok [] S := (rfl)
@[simp] theorem evA_val (h : a.isVar = none) : evA c (.cons a es) S = consA (evA c es) (ev c false a S) := by
  show ((match a.isVar with
      | some i => (match gt S i with
        | some w => if w.pure then .ok (Ar.val w) S else .ok (Ar.slot i) S
        | none => .stuck)
      | none => (ev c false a S).bind fun w S1 => .ok (Ar.val w) S1) : Res Ar).bind _ = _
  rw [h]
  simp only
  cases ev c false a S <;> rfl
@[simp] theorem evA_var {i : Nat} : evA c (.cons (.var i) es) S = varA c es i (gt S i) S := by
  show ((match gt S i with
        | some w => if w.pure then .ok (Ar.val w) S else .ok (Ar.slot i) S
        | none => .stuck) : Res Ar).bind _ = _
  cases gt S i with
  | none => rfl
  | some w =>
    simp only [varA, arW]
    by_cases h : w.pure = true
    · rw [if_pos h, if_pos h]; rfl
    · rw [if_neg h, if_neg h]; rfl
@[simp] theorem evIt_seq {m : List Nat} : evIt c m (.seq a) S = seqK a.isLk (aloof a.us m) (one c a S) := (rfl)
@[simp] theorem evIt_rng {m : List Nat} : evIt c m (.rng a) S = rngK 0 (ev c false a S) := by
  show (ev c false a S).bind _ = _
  unfold rngK; congr 1
@[simp] theorem evIt_rng2 {m : List Nat} : evIt c m (.rng2 a b) S = rng2A (ev c false b) (ev c false a S) := by
  show (ev c false a S).bind _ = _
  unfold rng2A rng2B; congr 1
@[simp] theorem ev_lc {own : List Nat} {tg : Tg} {it : It} {cs : Es} : ev c t (.lc own tg it cs a) S = lcK c t own tg cs a (evIt c (cs.md true ++ a.md false) it S) := by
  show (evIt c (cs.md true ++ a.md false) it S).bind _ = _
  unfold lcK lcK2
  congr 1
end
/-! ### loops by invariants -/
theorem foR_sat {t : Tg} {b : Sb} {ws : List W} {Q : Fl → SW → Prop} {I : List W → SW → Prop} (h0 : I [] S)
    (hs : ∀ pre w post S, ws = pre ++ w :: post → I pre S → ∃ S3, setTg t w S = some S3 ∧ (exb c b S3).sat fun f S' => match f with
      | .nx => I (pre ++ [w]) S' | .ct => I (pre ++ [w]) S' | .bk => Q .nx S' | .rt v => Q (.rt v) S')
    (he : ∀ S, I ws S → Q .nx S) : (foR c t b ws S).sat Q := by
  suffices H : ∀ post pre S, ws = pre ++ post → I pre S → (foR c t b post S).sat Q from H ws [] S rfl h0
  intro post
  induction post with
  | nil => intro pre S e i; rw [List.append_nil] at e; subst e; exact ⟨_, _, rfl, he _ i⟩
  | cons w post ih =>
    intro pre S e i
    obtain ⟨S3, h1, f, S', h2, h3⟩ := hs pre w post S e i
    unfold foR foL
    simp only [h1, h2, Res.bind]
    cases f with
    | nx => exact ih (pre ++ [w]) S' (by rw [e, List.append_assoc]; rfl) h3
    | ct => exact ih (pre ++ [w]) S' (by rw [e, List.append_assoc]; rfl) h3
    | bk => exact ⟨_, _, rfl, h3⟩
    | rt v => exact ⟨_, _, rfl, h3⟩
theorem foR_map {α : Type} {t : Tg} {b : Sb} {f : α → W} {xs : List α} {Q : Fl → SW → Prop} {I : List α → SW → Prop} (h0 : I [] S)
    (hs : ∀ pre x post S, xs = pre ++ x :: post → I pre S → ∃ S3, setTg t (f x) S = some S3 ∧ (exb c b S3).sat fun g S' => match g with
      | .nx => I (pre ++ [x]) S' | .ct => I (pre ++ [x]) S' | .bk => Q .nx S' | .rt v => Q (.rt v) S')
    (he : ∀ S, I xs S → Q .nx S) : (foR c t b (xs.map f) S).sat Q := by
  suffices H : ∀ post pre S, xs = pre ++ post → I pre S → (foR c t b (post.map f) S).sat Q from H xs [] S rfl h0
  intro post
  induction post with
  | nil => intro pre S e i; rw [List.append_nil] at e; subst e; exact ⟨_, _, rfl, he _ i⟩
  | cons w post ih =>
    intro pre S e i
    obtain ⟨S3, h1, g, S', h2, h3⟩ := hs pre w post S e i
    unfold foR foL
    simp only [List.map_cons, h1, h2, Res.bind]
    cases g with
    | nx => exact ih (pre ++ [w]) S' (by rw [e, List.append_assoc]; rfl) h3
    | ct => exact ih (pre ++ [w]) S' (by rw [e, List.append_assoc]; rfl) h3
    | bk => exact ⟨_, _, rfl, h3⟩
    | rt v => exact ⟨_, _, rfl, h3⟩
theorem rngW_nat (n : Nat) : rngW 0 (n : Int) = (List.range n).map fun k : Nat => W.int (k : Int) := by
  unfold rngW
  simp
theorem range_split {n : Nat} {pre post : List Nat} {x : Nat} (h : List.range n = pre ++ x :: post) : x = pre.length ∧ x < n := by
  have h1 : (List.range n)[pre.length]? = some x := by rw [h]; simp
  rw [List.getElem?_eq_some_iff] at h1
  obtain ⟨h2, h3⟩ := h1
  simp at h2 h3
  omega
/-- for i in range(n) -/
theorem foR_rng {t : Tg} {b : Sb} {n : Nat} {Q : Fl → SW → Prop} {I : Nat → SW → Prop} (h0 : I 0 S)
    (hs : ∀ i S, i < n → I i S → ∃ S3, setTg t (.int i) S = some S3 ∧ (exb c b S3).sat fun g S' => match g with
      | .nx => I (i + 1) S' | .ct => I (i + 1) S' | .bk => Q .nx S' | .rt v => Q (.rt v) S')
    (he : ∀ S, I n S → Q .nx S) : (foR c t b (rngW 0 n) S).sat Q := by
  rw [rngW_nat]
  refine foR_map (I := fun pre S => I pre.length S) h0 (fun pre x post S e i => ?_) fun S h => he S (by simpa using h)
  obtain ⟨rfl, h2⟩ := range_split e
  obtain ⟨S3, h3, h4⟩ := hs _ S h2 i
  refine ⟨S3, h3, sat_imp h4 fun g S' h => ?_⟩
  cases g <;> simp_all
theorem whR_sat {d : E} {b : Sb} {Q : Fl → SW → Prop} {I : Nat → SW → Prop} {m : Nat} (h0 : I m S) (hm : m < fuel)
    (hs : ∀ m S, I m S → (ev c true d S).sat fun w S1 => (w = .bl false ∧ Q .nx S1) ∨ (w = .bl true ∧ (exb c b S1).sat fun f S2 => match f with
      | .nx => ∃ m' < m, I m' S2 | .ct => ∃ m' < m, I m' S2 | .bk => Q .nx S2 | .rt v => Q (.rt v) S2)) : (whR c d b S).sat Q := by
  suffices H : ∀ n m S, I m S → m < n → (whL (ev c true d) (exb c b) n S).sat Q from H fuel m S h0 hm
  intro n
  induction n with
  | zero => intro m S _ h; omega
  | succ n ih =>
    intro m S i hlt
    obtain ⟨w, S1, h1, h2⟩ := hs m S i
    unfold whL
    rw [h1]
    simp only [Res.bind]
    rcases h2 with ⟨rfl, h2⟩ | ⟨rfl, f, S2, h3, h4⟩
    · exact ⟨_, _, rfl, h2⟩
    · simp only [h3]
      cases f with
      | nx => obtain ⟨m', l, i'⟩ := h4; exact ih m' S2 i' (by omega)
      | ct => obtain ⟨m', l, i'⟩ := h4; exact ih m' S2 i' (by omega)
      | bk => exact ⟨_, _, rfl, h4⟩
      | rt v => exact ⟨_, _, rfl, h4⟩
/-- the same, told by what must follow -/
theorem whR_satP {d : E} {b : Sb} {Q : Fl → SW → Prop} (I : Nat → SW → Prop) {m : Nat} (h0 : I m S) (hm : m < fuel)
    (hs : ∀ m S, I m S → (∃ S1, ev c true d S = .ok (.bl false) S1 ∧ Q .nx S1) ∨ ∃ S1, ev c true d S = .ok (.bl true) S1 ∧ ∀ P : Fl → SW → Prop, (∀ m' S', m' < m → I m' S' → P .nx S') → (∀ m' S', m' < m → I m' S' → P .ct S') → (∀ S', Q .nx S' → P .bk S') → (∀ v S', Q (.rt v) S' → P (.rt v) S') → (exb c b S1).sat P) : (whR c d b S).sat Q := by
  refine whR_sat h0 hm fun m S i => ?_
  rcases hs m S i with ⟨S1, e, q⟩ | ⟨S1, e, k⟩
  · exact ⟨_, _, e, .inl ⟨rfl, q⟩⟩
  · exact ⟨_, _, e, .inr ⟨rfl, k _ (fun m' S' l i => ⟨m', l, i⟩) (fun m' S' l i => ⟨m', l, i⟩) (fun _ h => h) fun _ _ h => h⟩⟩
theorem lcR_map {α : Type} {own : List Nat} {tg : Tg} {cs : Es} {e : E} {f : α → W} {xs : List α} {I : List α → List W → SW → Prop} (hl : xs.length ≤ sizeLine) (h0 : I [] [] S)
    (hs : ∀ pre x post acc S, xs = pre ++ x :: post → acc.length ≤ pre.length → I pre acc S → (turnR c own tg cs e (f x) S).sat fun o S' => I (pre ++ [x]) (acc ++ o.toList) S') : (lcR c own tg cs e (xs.map f) S).sat (I xs) := by
  suffices H : ∀ post pre acc S, xs = pre ++ post → acc.length ≤ pre.length → I pre acc S → (lcL (turnR c own tg cs e) (post.map f) acc S).sat (I xs) from H xs [] [] S rfl (Nat.le_refl _) h0
  intro post
  induction post with
  | nil => intro pre acc S e _ i; rw [List.append_nil] at e; subst e; exact ⟨_, _, rfl, i⟩
  | cons w post ih =>
    intro pre acc S e la i
    obtain ⟨o, S', h2, h3⟩ := hs pre w post acc S e la i
    have hlen : pre.length + (post.length + 1) = xs.length := by rw [e]; simp
    unfold lcL
    simp only [List.map_cons, h2]
    cases o with
    | none => exact ih (pre ++ [w]) acc S' (by rw [e, List.append_assoc]; rfl) (by simp; omega) (by simpa using h3)
    | some y =>
      simp only
      rw [if_pos (by omega)]
      exact ih (pre ++ [w]) (acc ++ [y]) S' (by rw [e, List.append_assoc]; rfl) (by simp; omega) (by simpa using h3)
theorem lcR_rng {own : List Nat} {tg : Tg} {cs : Es} {e : E} {n : Nat} {I : Nat → List W → SW → Prop} (hl : n ≤ sizeLine) (h0 : I 0 [] S)
    (hs : ∀ i acc S, i < n → I i acc S → (turnR c own tg cs e (.int i) S).sat fun o S' => I (i + 1) (acc ++ o.toList) S') : (lcR c own tg cs e (rngW 0 n) S).sat (I n) := by
  rw [rngW_nat]
  refine sat_imp (lcR_map (I := fun pre acc S => I pre.length acc S) (by simpa using hl) h0 fun pre x post acc S e la i => ?_) fun a S h => by simpa using h
  obtain ⟨rfl, h2⟩ := range_split e
  refine sat_imp (hs _ acc S h2 i) fun g S' h => ?_
  simpa using h
/-- the same, told by what must follow -/
theorem foR_mapP {α : Type} {t : Tg} {b : Sb} {f : α → W} {xs : List α} {Q : Fl → SW → Prop} (I : List α → SW → Prop) (h0 : I [] S)
    (hs : ∀ pre x post S (P : Fl → SW → Prop), xs = pre ++ x :: post → I pre S → (∀ S', I (pre ++ [x]) S' → P .nx S') → (∀ S', I (pre ++ [x]) S' → P .ct S') → (∀ S', Q .nx S' → P .bk S') → (∀ v S', Q (.rt v) S' → P (.rt v) S') → ∃ S3, setTg t (f x) S = some S3 ∧ (exb c b S3).sat P)
    (he : ∀ S, I xs S → Q .nx S) : (foR c t b (xs.map f) S).sat Q :=
  foR_map h0 (fun pre x post S e i => hs pre x post S _ e i (fun _ h => h) (fun _ h => h) (fun _ h => h) (fun _ _ h => h)) he
theorem foR_rngP {t : Tg} {b : Sb} {n : Nat} {Q : Fl → SW → Prop} (I : Nat → SW → Prop) (h0 : I 0 S)
    (hs : ∀ i S (P : Fl → SW → Prop), i < n → I i S → (∀ S', I (i + 1) S' → P .nx S') → (∀ S', I (i + 1) S' → P .ct S') → (∀ S', Q .nx S' → P .bk S') → (∀ v S', Q (.rt v) S' → P (.rt v) S') → ∃ S3, setTg t (.int i) S = some S3 ∧ (exb c b S3).sat P)
    (he : ∀ S, I n S → Q .nx S) : (foR c t b (rngW 0 n) S).sat Q :=
  foR_rng h0 (fun k S l i => hs k S _ l i (fun _ h => h) (fun _ h => h) (fun _ h => h) (fun _ _ h => h)) he
theorem dcR_map {α : Type} {own : List Nat} {tg : Tg} {cs : Es} {k v : E} {f : α → W} {xs : List α} {I : List α → List Key × List W → SW → Prop} (hl : xs.length ≤ sizeLine) (h0 : I [] ([], []) S)
    (hs : ∀ pre x post acc S, xs = pre ++ x :: post → acc.1.length ≤ pre.length → I pre acc S → (turnDR c own tg cs k v (f x) S).sat fun o S' => match o with
      | none => I (pre ++ [x]) acc S' | some (y, z) => ∃ key, dkey y = some key ∧ z.pure = true ∧ I (pre ++ [x]) (dcPut acc key z) S') : (dcR c own tg cs k v (xs.map f) S).sat (I xs) := by
  suffices H : ∀ post pre acc S, xs = pre ++ post → acc.1.length ≤ pre.length → I pre acc S → (dcL (turnDR c own tg cs k v) (post.map f) acc S).sat (I xs) from H xs [] ([], []) S rfl (Nat.le_refl _) h0
  intro post
  induction post with
  | nil => intro pre acc S e _ i; rw [List.append_nil] at e; subst e; exact ⟨_, _, rfl, i⟩
  | cons w post ih =>
    intro pre acc S e la i
    obtain ⟨o, S', h2, h3⟩ := hs pre w post acc S e la i
    have hlen : pre.length + (post.length + 1) = xs.length := by rw [e]; simp
    unfold dcL
    simp only [List.map_cons, h2]
    cases o with
    | none => exact ih (pre ++ [w]) acc S' (by rw [e, List.append_assoc]; rfl) (by simp; omega) h3
    | some p =>
      obtain ⟨y, z⟩ := p
      obtain ⟨key, h4, h5, h6⟩ := h3
      simp only [h4, h5, Bool.true_and]
      rw [if_pos (decide_eq_true (by omega))]
      refine ih (pre ++ [w]) (dcPut acc key z) S' (by rw [e, List.append_assoc]; rfl) ?_ h6
      unfold dcPut
      split <;> simp <;> omega
/-! ### defs -/
theorem run_eq {fi : FI} {ws : List W} (h1 : ws.length = fi.n) (h2 : argsOk fi.body.asn 0 ws = true) : run c fi ws = fin ws (exb c fi.body (start0 fi ws)) := by
  unfold run
  rw [h2, decide_eq_true h1]; rfl
theorem run_sat {fi : FI} {ws : List W} {Q : W → List W → Prop} (h1 : ws.length = fi.n) (h2 : argsOk fi.body.asn 0 ws = true)
    (h : (exb c fi.body (start0 fi ws)).sat fun f S => match f with | .nx => ∃ ws', outs 0 ws S = some ws' ∧ Q .non ws' | .rt w => ∃ ws', outs 0 ws S = some ws' ∧ Q w ws' | _ => False) : (run c fi ws).sat Q := by
  rw [run_eq h1 h2]
  obtain ⟨f, S, e, h⟩ := h
  rw [e]
  cases f with
  | nx => obtain ⟨ws', h1, h2⟩ := h; exact ⟨_, _, by simp only [fin, h1], h2⟩
  | rt w => obtain ⟨ws', h1, h2⟩ := h; exact ⟨_, _, by simp only [fin, h1], h2⟩
  | bk => exact h.elim
  | ct => exact h.elim
/-- a def gives what its body leads to, wherever that leads -/
theorem run_to {fi : FI} {ws : List W} {Q : W → List W → Prop} (h1 : ws.length = fi.n) (h2 : argsOk fi.body.asn 0 ws = true)
    (h : ∀ P : Fl → SW → Prop, (∀ w S ws', outs 0 ws S = some ws' → Q w ws' → P (.rt w) S) → (∀ S ws', outs 0 ws S = some ws' → Q .non ws' → P .nx S) → (exb c fi.body (start0 fi ws)).sat P) : (run c fi ws).sat Q :=
  run_sat h1 h2 (h _ (fun w S ws' e q => ⟨ws', e, q⟩) fun S ws' e q => ⟨ws', e, q⟩)
theorem sem_eq {D : Pg} {cst : Str → Option W} {k : Nat} {f : Str} {fi : FI} {ws : List W} (h : D f = some fi) : sem D cst (k + 1) f ws = run ⟨sem D cst k, cst⟩ fi ws := by
  simp only [sem, h]
end
/-! ### more steps -/
section
variable {α β : Type} {c : Fn} {S S1 : SW} {w u : W} {ws : List W} {x : Str} {i : Nat}
@[simp] theorem ret_f : ret false w S = .ok w S := (rfl)
@[simp] theorem ret_t : ret true w S = tru w S := (rfl)
@[simp] theorem retB_t : retB true w S = tru w S := (rfl)
@[simp] theorem retB_f (h : w.pure = true) : retB false w S = .ok w S := by unfold retB; simp [h]
@[simp] theorem tru_bl {y : Bool} : tru (.bl y) S = .ok (.bl y) S := (rfl)
@[simp] theorem tru_int {n : Int} : tru (.int n) S = .ok (.bl (n != 0)) S := (rfl)
@[simp] theorem pureO_p (h : w.pure = true) : pureO (some w) = some w := by unfold pureO; simp [h]
@[simp] theorem p_int {n : Int} : (W.int n).pure = true := (rfl)
@[simp] theorem p_str : (W.str x).pure = true := (rfl)
@[simp] theorem p_bl {y : Bool} : (W.bl y).pure = true := (rfl)
@[simp] theorem p_non : W.non.pure = true := (rfl)
@[simp] theorem p_tup : (W.tup ws).pure = pureL ws := (rfl)
@[simp] theorem p_flst : (W.flst ws).pure = pureL ws := (rfl)
@[simp] theorem p_fdict {ks : List Key} : (W.fdict ks ws).pure = pureL ws := (rfl)
@[simp] theorem p_lst : (W.lst ws).pure = false := (rfl)
@[simp] theorem p_dict {ks : List Key} : (W.dict ks ws).pure = false := (rfl)
@[simp] theorem pl_nil : pureL [] = true := (rfl)
@[simp] theorem pl_cons : pureL (w :: ws) = (w.pure && pureL ws) := (rfl)
theorem pl_map {f : α → W} {xs : List α} (h : ∀ x, (f x).pure = true) : pureL (xs.map f) = true := by
  rw [pureL_iff]
  intro w hw
  obtain ⟨a, _, rfl⟩ := List.mem_map.mp hw
  exact h a
@[simp] theorem pl_str {xs : List Str} : pureL (xs.map W.str) = true := pl_map fun _ => rfl
@[simp] theorem pl_int {xs : List Int} : pureL (xs.map W.int) = true := pl_map fun _ => rfl
@[simp] theorem pl_rev {xs : List W} : pureL xs.reverse = pureL xs := by
  rw [Bool.eq_iff_iff, pureL_iff, pureL_iff]; simp
@[simp] theorem pl_app {xs ys : List W} : pureL (xs ++ ys) = (pureL xs && pureL ys) := pureL_append
@[simp] theorem outs_nil : outs i [] S = some [] := (rfl)
@[simp] theorem outs_p (h : w.pure = true) : outs i (w :: ws) S = (outs (i + 1) ws S).map (w :: ·) := if_pos h
@[simp] theorem outs_n (h : w.pure = false) : outs i (w :: ws) S = (gt S i).bind fun u => (outs (i + 1) ws S).map (u :: ·) := if_neg (by rw [h]; exact Bool.false_ne_true)
@[simp] theorem ao_nil {a : List Nat} : argsOk a i [] = true := (rfl)
@[simp] theorem ao_p {a : List Nat} (h : w.pure = true) : argsOk a i (w :: ws) = argsOk a (i + 1) ws := by rw [argsOk]; simp [h]
@[simp] theorem ao_n {a : List Nat} (h : w.pure = false) : argsOk a i (w :: ws) = (!a.contains i && argsOk a (i + 1) ws) := by
  rw [argsOk]; simp [h]
@[simp] theorem fin_rt : fin ws (.ok (.rt w) S) = match outs 0 ws S with | some ws' => .ok w ws' | none => .stuck := (rfl)
@[simp] theorem fin_nx : fin ws (.ok .nx S) = match outs 0 ws S with | some ws' => .ok .non ws' | none => .stuck := (rfl)
@[simp] theorem rs_nil : resolve [] S = some [] := (rfl)
@[simp] theorem rs_val {r : List Ar} : resolve (.val w :: r) S = (resolve r S).map (w :: ·) := (rfl)
@[simp] theorem rs_slot {r : List Ar} : resolve (.slot i :: r) S = (gt S i).bind fun w => (resolve r S).map (w :: ·) := (rfl)
@[simp] theorem bt_nil {ws : List W} : backTo [] ws S = S := by unfold backTo; rfl
@[simp] theorem bt_val {r : List Ar} : backTo (.val w :: r) (u :: ws) S = backTo r ws S := (rfl)
@[simp] theorem bt_slot {r : List Ar} : backTo (.slot i :: r) (u :: ws) S = backTo r ws (S.set i (some u)) := (rfl)
@[simp] theorem at_nil : atsOf [] = [] := (rfl)
@[simp] theorem at_val {r : List Ar} : atsOf (.val w :: r) = atsOf r := (rfl)
@[simp] theorem at_slot {r : List Ar} : atsOf (.slot i :: r) = i :: atsOf r := (rfl)
@[simp] theorem nd_nil : nodupB [] = true := (rfl)
@[simp] theorem nd_cons {r : List Nat} : nodupB (i :: r) = (!r.contains i && nodupB r) := (rfl)
theorem ix_str {z : Str} {n : Int} (h : z.length ≤ sizeLine) : idxW (.str z) (.int n) = (atI z.cps.toList n).map fun c => .str ⟨#[c]⟩ := if_pos h
@[simp] theorem ix_dct {ks : List Key} {k : Str} : idxW (.dict ks ws) (.str k) = dgt ks ws (.inr k) := (rfl)
@[simp] theorem ix_fdct {ks : List Key} {k : Str} : idxW (.fdict ks ws) (.str k) = dgt ks ws (.inr k) := (rfl)
@[simp] theorem at_zero : atI ws 0 = ws[0]? := at_nat (n := 0)
@[simp] theorem at_one : atI ws 1 = ws[1]? := at_nat (n := 1)
theorem b_strs {y : Str} (h : x.length + y.length ≤ sizeLine) : binW .add (.str x) (.str y) = some (.str (x ++ y)) := if_pos h
theorem b_lsts {ys : List W} (h1 : pureL ws = true) (h2 : pureL ys = true) (h3 : ws.length + ys.length ≤ sizeLine) : binW .add (.lst ws) (.lst ys) = some (.lst (ws ++ ys)) := by
  show (if _ then _ else _) = _
  rw [if_pos (by simp [h1, h2, h3])]
theorem b2_min {a b : Int} : b2W .min (.int a) (.int b) = some (.int (if b < a then b else a)) := rfl
theorem b2_max {a b : Int} : b2W .max (.int a) (.int b) = some (.int (if b > a then b else a)) := rfl
@[simp] theorem wipeS_nil : wipeS S [] = S := (rfl)
@[simp] theorem wipeS_cons {v : Nat} {vs : List Nat} : wipeS S (v :: vs) = (wipeS S vs).set v none := (rfl)
@[simp] theorem unwipe_nil : unwipe S1 S [] = S := (rfl)
@[simp] theorem unwipe_cons {v : Nat} {vs : List Nat} : unwipe S1 S (v :: vs) = (unwipe S1 S vs).set v (gt S1 v) := (rfl)
@[simp] theorem setTg_one : setTg (.one i) w S = some (S.set i (some w)) := (rfl)
end
/-! what only looks -/
@[simp] theorem b1lk_len : B1.len.lk = true := (rfl)
@[simp] theorem b1lk_sum : B1.sum.lk = true := (rfl)
@[simp] theorem b1lk_any : B1.any.lk = true := (rfl)
@[simp] theorem b1lk_all : B1.all.lk = true := (rfl)
@[simp] theorem b1lk_abs : B1.abs.lk = true := (rfl)
@[simp] theorem b1lk_int : B1.int.lk = true := (rfl)
@[simp] theorem b1lk_str : B1.str.lk = true := (rfl)
@[simp] theorem b1lk_tuple : B1.tuple.lk = true := (rfl)
@[simp] theorem b1lk_list : B1.list.lk = false := (rfl)
@[simp] theorem b1lk_max : B1.max.lk = true := (rfl)
@[simp] theorem b1lk_min : B1.min.lk = true := (rfl)
@[simp] theorem b1lk_sorted : B1.sorted.lk = false := (rfl)

@[simp] theorem lk0_var {i : Nat} : (E.var i).isLk = true := (rfl)
@[simp] theorem vr_var {i : Nat} : (E.var i).isVar = some i := (rfl)
@[simp] theorem lk0_int {n : Int} : (E.int n).isLk = true := (rfl)
@[simp] theorem vr_int {n : Int} : (E.int n).isVar = none := (rfl)
@[simp] theorem lk0_str {s : Str} : (E.str s).isLk = true := (rfl)
@[simp] theorem vr_str {s : Str} : (E.str s).isVar = none := (rfl)
@[simp] theorem lk0_bl {b : Bool} : (E.bl b).isLk = true := (rfl)
@[simp] theorem vr_bl {b : Bool} : (E.bl b).isVar = none := (rfl)
@[simp] theorem lk0_non : E.non.isLk = true := (rfl)
@[simp] theorem vr_non : E.non.isVar = none := (rfl)
@[simp] theorem lk0_glob {x : Str} : (E.glob x).isLk = true := (rfl)
@[simp] theorem vr_glob {x : Str} : (E.glob x).isVar = none := (rfl)
@[simp] theorem lk0_bin {o : BOp} {a : E} {b : E} : (E.bin o a b).isLk = (a.isLk && b.isLk) := (rfl)
@[simp] theorem vr_bin {o : BOp} {a : E} {b : E} : (E.bin o a b).isVar = none := (rfl)
@[simp] theorem lk0_neg {a : E} : (E.neg a).isLk = a.isLk := (rfl)
@[simp] theorem vr_neg {a : E} : (E.neg a).isVar = none := (rfl)
@[simp] theorem lk0_cmp {o : COp} {a : E} {b : E} : (E.cmp o a b).isLk = false := (rfl)
@[simp] theorem vr_cmp {o : COp} {a : E} {b : E} : (E.cmp o a b).isVar = none := (rfl)
@[simp] theorem lk0_and {es : Es} : (E.and es).isLk = false := (rfl)
@[simp] theorem vr_and {es : Es} : (E.and es).isVar = none := (rfl)
@[simp] theorem lk0_or {es : Es} : (E.or es).isLk = false := (rfl)
@[simp] theorem vr_or {es : Es} : (E.or es).isVar = none := (rfl)
@[simp] theorem lk0_not {a : E} : (E.not a).isLk = false := (rfl)
@[simp] theorem vr_not {a : E} : (E.not a).isVar = none := (rfl)
@[simp] theorem lk0_ite {d : E} {a : E} {b : E} : (E.ite d a b).isLk = false := (rfl)
@[simp] theorem vr_ite {d : E} {a : E} {b : E} : (E.ite d a b).isVar = none := (rfl)
@[simp] theorem lk0_tup {es : Es} : (E.tup es).isLk = es.isLk := (rfl)
@[simp] theorem vr_tup {es : Es} : (E.tup es).isVar = none := (rfl)
@[simp] theorem lk0_lst {es : Es} : (E.lst es).isLk = false := (rfl)
@[simp] theorem vr_lst {es : Es} : (E.lst es).isVar = none := (rfl)
@[simp] theorem lk0_idx {a : E} {k : E} : (E.idx a k).isLk = (a.isLk && k.isLk) := (rfl)
@[simp] theorem vr_idx {a : E} {k : E} : (E.idx a k).isVar = none := (rfl)
@[simp] theorem lk0_sl {a : E} {lo : E} {hi : E} : (E.sl a lo hi).isLk = false := (rfl)
@[simp] theorem vr_sl {a : E} {lo : E} {hi : E} : (E.sl a lo hi).isVar = none := (rfl)
@[simp] theorem lk0_call {f : Str} {es : Es} : (E.call f es).isLk = false := (rfl)
@[simp] theorem vr_call {f : Str} {es : Es} : (E.call f es).isVar = none := (rfl)
@[simp] theorem lk0_b1 {f : B1} {a : E} : (E.b1 f a).isLk = (f.lk && a.isLk) := (rfl)
@[simp] theorem vr_b1 {f : B1} {a : E} : (E.b1 f a).isVar = none := (rfl)
@[simp] theorem lk0_b2 {f : B1} {a : E} {b : E} : (E.b2 f a b).isLk = false := (rfl)
@[simp] theorem vr_b2 {f : B1} {a : E} {b : E} : (E.b2 f a b).isVar = none := (rfl)
@[simp] theorem lk0_isi {a : E} {t : Ty} : (E.isi a t).isLk = false := (rfl)
@[simp] theorem vr_isi {a : E} {t : Ty} : (E.isi a t).isVar = none := (rfl)
@[simp] theorem lk0_lc {own : List Nat} {t : Tg} {it : It} {d : Es} {e : E} : (E.lc own t it d e).isLk = false := (rfl)
@[simp] theorem vr_lc {own : List Nat} {t : Tg} {it : It} {d : Es} {e : E} : (E.lc own t it d e).isVar = none := (rfl)
@[simp] theorem lk0_pop {i : Nat} : (E.pop i).isLk = false := (rfl)
@[simp] theorem vr_pop {i : Nat} : (E.pop i).isVar = none := (rfl)
@[simp] theorem lk0_app {i : Nat} {e : E} : (E.app i e).isLk = false := (rfl)
@[simp] theorem vr_app {i : Nat} {e : E} : (E.app i e).isVar = none := (rfl)
@[simp] theorem lk0_ext {i : Nat} {e : E} : (E.ext i e).isLk = false := (rfl)
@[simp] theorem vr_ext {i : Nat} {e : E} : (E.ext i e).isVar = none := (rfl)
@[simp] theorem lk0_rev {i : Nat} : (E.rev i).isLk = false := (rfl)
@[simp] theorem vr_rev {i : Nat} : (E.rev i).isVar = none := (rfl)
@[simp] theorem lk0_frz {e : E} : (E.frz e).isLk = false := (rfl)
@[simp] theorem vr_frz {e : E} : (E.frz e).isVar = none := (rfl)
@[simp] theorem lk0_dn : E.dn.isLk = false := (rfl)
@[simp] theorem vr_dn : E.dn.isVar = none := (rfl)
@[simp] theorem lk0_dl {ks : List Key} {vs : Es} : (E.dl ks vs).isLk = false := (rfl)
@[simp] theorem vr_dl {ks : List Key} {vs : Es} : (E.dl ks vs).isVar = none := (rfl)
@[simp] theorem lk0_get {i : Nat} {k : E} {x : E} : (E.get i k x).isLk = false := (rfl)
@[simp] theorem vr_get {i : Nat} {k : E} {x : E} : (E.get i k x).isVar = none := (rfl)
@[simp] theorem lk0_join {s : Str} {e : E} : (E.join s e).isLk = false := (rfl)
@[simp] theorem vr_join {s : Str} {e : E} : (E.join s e).isVar = none := (rfl)
@[simp] theorem lk0_gidx {x : Str} {k : E} : (E.gidx x k).isLk = false := (rfl)
@[simp] theorem vr_gidx {x : Str} {k : E} : (E.gidx x k).isVar = none := (rfl)
@[simp] theorem lk0_gin {neg : Bool} {x : Str} {k : E} : (E.gin neg x k).isLk = false := (rfl)
@[simp] theorem vr_gin {neg : Bool} {x : Str} {k : E} : (E.gin neg x k).isVar = none := (rfl)
@[simp] theorem lk0_lrev {a : E} : (E.lrev a).isLk = false := (rfl)
@[simp] theorem vr_lrev {a : E} : (E.lrev a).isVar = none := (rfl)
@[simp] theorem lk0_dc {own : List Nat} {t : Tg} {it : It} {d : Es} {k v : E} : (E.dc own t it d k v).isLk = false := (rfl)
@[simp] theorem vr_dc {own : List Nat} {t : Tg} {it : It} {d : Es} {k v : E} : (E.dc own t it d k v).isVar = none := (rfl)
@[simp] theorem lk0_nil : Es.nil.isLk = true := (rfl)
@[simp] theorem lk0_cons {e : E} {es : Es} : (Es.cons e es).isLk = (e.isLk && es.isLk) := (rfl)
@[simp] theorem start0_eq {fi : FI} {ws : List W} : start0 fi ws = ws.map some ++ List.replicate (fi.m - fi.n) none := (rfl)
theorem tupR_ok {ws : List W} {S : SW} (h : ws.length ≤ sizeLine) : tupR ws S = .ok (.tup ws) S := if_pos h
theorem lstR_ok {ws : List W} {S : SW} (h : ws.length ≤ sizeLine) : lstR ws S = .ok (.lst ws) S := if_pos h
@[simp] theorem c_in {x y : W} : cmpW .in_ x y = inW x y := by cases x <;> cases y <;> rfl
@[simp] theorem c_notin {x y : W} : cmpW .notin x y = (inW x y).map (!·) := by cases x <;> cases y <;> rfl
@[simp] theorem dgt_cons {k k' : Key} {ks : List Key} {w : W} {ws : List W} : dgt (k' :: ks) (w :: ws) k = if k' = k then some w else dgt ks ws k := (rfl)
@[simp] theorem dgt_nil {k : Key} : dgt [] [] k = none := (rfl)
theorem b_tuple {xs : List W} (h : pureL xs = true) : b1W .tuple (.lst xs) = some (.tup xs) := by
  show (if pureL xs then _ else _) = _
  rw [if_pos h]
@[simp] theorem flatW_str {x : Str} : flatW (.str x) = true := (rfl)
@[simp] theorem flatW_int {x : Int} : flatW (.int x) = true := (rfl)
@[simp] theorem eqS_str {x y : Str} : eqS (.str x) (.str y) = (x == y) := (rfl)
@[simp] theorem eqS_int {x y : Int} : eqS (.int x) (.int y) = (x == y) := (rfl)
@[simp] theorem in_tup {x : W} {ys : List W} (h : flatW x = true) (h' : ys.all flatW = true) : inW x (.tup ys) = some (ys.any fun y => eqS y x) := by
  show (if _ then _ else _) = _
  rw [if_pos (by rw [h, h']; rfl)]
@[simp] theorem dlW_ok {ks : List Key} {ws : List W} (h1 : pureL ws = true) (h2 : ks.length = ws.length) (h3 : ks.length ≤ 15) (h4 : ks.Nodup) (h5 : ks ≠ []) : dlW ks ws = some (.dict ks ws) := by
  unfold dlW
  rw [if_pos]
  simp [h1, h2, h4, h5]; omega
@[simp] theorem ginW_f {ks : List Key} {ws : List W} {z : Str} : ginW (some (.fdict ks ws)) (some (.str z)) = some (dgt ks ws (.inr z)).isSome := (rfl)
@[simp] theorem gidxW_f {ks : List Key} {ws : List W} {z : Str} : gidxW (some (.fdict ks ws)) (some (.str z)) = dgt ks ws (.inr z) := (rfl)
@[simp] theorem items_tup {xs : List W} (h : pureL xs = true) : itemsW (.tup xs) = some xs := if_pos h
@[simp] theorem items_lst {xs : List W} (h : pureL xs = true) : itemsW (.lst xs) = some xs := if_pos h
@[simp] theorem items_flst {xs : List W} (h : pureL xs = true) : itemsW (.flst xs) = some xs := if_pos h
theorem bols_map : ∀ bs : List Bool, bolsW (bs.map W.bl) = some bs
  | [] => rfl
  | b :: bs => by simp only [List.map_cons, bolsW, bols_map bs]; rfl
@[simp] theorem any_bools {bs : List Bool} : b1W .any (.lst (bs.map W.bl)) = some (.bl (bs.any id)) := by
  show (bolsW _).map _ = _
  rw [bols_map]; rfl
@[simp] theorem all_bools {bs : List Bool} : b1W .all (.lst (bs.map W.bl)) = some (.bl (bs.all id)) := by
  show (bolsW _).map _ = _
  rw [bols_map]; rfl
@[simp] theorem any_fn {α : Type} {xs : List α} {f : α → Bool} : b1W .any (.lst (xs.map fun x => W.bl (f x))) = some (.bl (xs.any f)) := by
  have h : (xs.map fun x => W.bl (f x)) = (xs.map f).map W.bl := by simp
  rw [h, any_bools]; simp
@[simp] theorem all_fn {α : Type} {xs : List α} {f : α → Bool} : b1W .all (.lst (xs.map fun x => W.bl (f x))) = some (.bl (xs.all f)) := by
  have h : (xs.map fun x => W.bl (f x)) = (xs.map f).map W.bl := by simp
  rw [h, all_bools]; simp
@[simp] theorem truW_bl {b : Bool} : truW (.bl b) = some b := (rfl)
@[simp] theorem truW_int {n : Int} : truW (.int n) = some (n != 0) := (rfl)
@[simp] theorem truW_non : truW .non = some false := (rfl)
@[simp] theorem truW_tup {xs : List W} : truW (.tup xs) = some (!xs.isEmpty) := (rfl)
@[simp] theorem truW_lst {xs : List W} : truW (.lst xs) = some (!xs.isEmpty) := (rfl)
@[simp] theorem truW_flst {xs : List W} : truW (.flst xs) = some (!xs.isEmpty) := (rfl)
@[simp] theorem noFd_tup {xs : List W} : noFd (some (.tup xs)) = some (.tup xs) := (rfl)
@[simp] theorem noFd_int {n : Int} : noFd (some (.int n)) = some (.int n) := (rfl)
@[simp] theorem noFd_str {n : Str} : noFd (some (.str n)) = some (.str n) := (rfl)
@[simp] theorem isN_non : cmpW .is_ .non .non = some true := (rfl)
@[simp] theorem isN_tup {xs : List W} : cmpW .is_ (.tup xs) .non = some false := (rfl)
@[simp] theorem isN_lst {xs : List W} : cmpW .is_ (.lst xs) .non = some false := (rfl)
@[simp] theorem isN_flst {xs : List W} : cmpW .is_ (.flst xs) .non = some false := (rfl)
@[simp] theorem isN_int {x : Int} : cmpW .is_ (.int x) .non = some false := (rfl)
@[simp] theorem isN_str {x : Str} : cmpW .is_ (.str x) .non = some false := (rfl)
@[simp] theorem isN_bl {x : Bool} : cmpW .is_ (.bl x) .non = some false := (rfl)
@[simp] theorem ext_tupW {xs : List W} (h : pureL xs = true) : extW (.tup xs) = some xs := if_pos h
@[simp] theorem ext_lstW {xs : List W} (h : pureL xs = true) : extW (.lst xs) = some xs := if_pos h
@[simp] theorem aug_add {i j : Int} : augW .add (.int i) (.int j) = some (.int (i + j)) := (rfl)
theorem line_100k : 100000 ≤ sizeLine := by decide
@[simp] theorem lrev_tup {xs : List W} (h : pureL xs = true) (h' : xs.length ≤ 100000) : lrevW (.tup xs) = some (.lst xs.reverse) := by
  show (if _ then _ else _) = _
  rw [if_pos]
  have := line_100k
  simp [h]; omega
@[simp] theorem lrev_lst {xs : List W} (h : pureL xs = true) (h' : xs.length ≤ 100000) : lrevW (.lst xs) = some (.lst xs.reverse) := lrev_tup (xs := xs) h h'
theorem delT_nat {xs : List W} {n : Nat} (h : pureL xs = true) : delTW (some (.lst xs)) (.int n) = some (.lst (xs.take n)) := by
  show (if _ then _ else _) = _
  rw [if_pos (by simp [h])]; rfl
theorem line_big : 1000 ≤ sizeLine := by decide
@[simp] theorem tupR_le {ws : List W} {S : SW} (h : ws.length ≤ 1000) : tupR ws S = .ok (.tup ws) S := tupR_ok (Nat.le_trans h line_big)
@[simp] theorem lstR_le {ws : List W} {S : SW} (h : ws.length ≤ 1000) : lstR ws S = .ok (.lst ws) S := lstR_ok (Nat.le_trans h line_big)
@[simp] theorem tupO_le {ws : List W} (h : pureL ws = true) (h' : ws.length ≤ 1000) : tupO (some ws) = some (.tup ws) := tupO_some h (Nat.le_trans h' line_big)
@[simp] theorem appO_le {i : Nat} {xs : List W} {y : W} {S : SW} (h : xs.length < 1000) : appO i y S (some xs) = .ok .non (S.set i (some (.lst (xs ++ [y])))) := appO_some (Nat.lt_of_lt_of_le h line_big)
@[simp] theorem ofString_inj {a b : String} : (Str.ofString a = Str.ofString b) ↔ a = b := by
  constructor
  · intro h
    have h := congrArg TL.tl h
    rw [TL.tl_ofString, TL.tl_ofString] at h
    apply String.ext
    refine (List.map_inj_right (f := Char.toNat) ?_).mp h
    intro x y e
    exact Char.ext (UInt32.toNat_inj.mp e)
  · rintro rfl; rfl
@[simp] theorem beq_ofString {a b : String} : (Str.ofString a == Str.ofString b) = (a == b) := by
  by_cases h : a = b
  · subst h; simp
  · have : ¬ Str.ofString a = Str.ofString b := fun e => h (ofString_inj.mp e)
    rw [beq_eq_false_iff_ne.mpr h, beq_eq_false_iff_ne.mpr this]
/-! loops over a list that is written -/
def exO (c : Fn) (b : Sb) (o : Option SW) : Res Fl := match o with
  | some S => exb c b S | none => .stuck
@[simp] theorem exO_some {c : Fn} {b : Sb} {S : SW} : exO c b (some S) = exb c b S := (rfl)
def lpK (k : SW → Res Fl) (r : Res Fl) : Res Fl := r.bind fun f S2 => match f with
  | .nx => k S2 | .ct => k S2 | .bk => .ok .nx S2 | .rt w => .ok (.rt w) S2
section
variable {c : Fn} {S : SW} {k : SW → Res Fl} {w : W}
@[simp] theorem lpK_nx : lpK k (.ok .nx S) = k S := (rfl)
@[simp] theorem lpK_ct : lpK k (.ok .ct S) = k S := (rfl)
@[simp] theorem lpK_bk : lpK k (.ok .bk S) = .ok .nx S := (rfl)
@[simp] theorem lpK_rt : lpK k (.ok (.rt w) S) = .ok (.rt w) S := (rfl)
theorem foR_nil {t : Tg} {b : Sb} : foR c t b [] S = .ok .nx S := (rfl)
theorem foR_cons {t : Tg} {b : Sb} {ws : List W} : foR c t b (w :: ws) S = lpK (foR c t b ws) (exO c b (setTg t w S)) := by
  show foL _ (w :: ws) S = _
  unfold foL lpK exO
  cases setTg t w S <;> rfl
end
@[simp] theorem part_non {o : Option W} : part .non o = some none := (rfl)
@[simp] theorem part_int {n i : Int} : part (.int n) (some (.int i)) = some (some i) := (rfl)
@[simp] theorem part_var {n : Nat} {i : Int} : part (.var n) (some (.int i)) = some (some i) := (rfl)
theorem cut1 {x : W} {xs : List W} : cutW (x :: xs) (some 1) none = xs := by
  unfold cutW HT.sIx
  simp
theorem cut_from {xs : List W} {k : Nat} : cutW xs (some (k : Int)) none = xs.drop k := by
  unfold cutW
  rw [HT.sIx_nat, HT.sIx_none]
  rcases Nat.le_total k xs.length with h | h
  · rw [Nat.min_eq_left h, List.take_of_length_le (by simp)]
  · rw [Nat.min_eq_right h, List.drop_eq_nil_of_le h]; simp
theorem cut_to {xs : List W} {k : Nat} : cutW xs none (some (k : Int)) = xs.take k := by
  unfold cutW
  rw [HT.sIx_nat, HT.sIx_none]
  rcases Nat.le_total k xs.length with h | h
  · rw [Nat.min_eq_left h]; simp
  · rw [Nat.min_eq_right h, List.take_of_length_le h]; simp
theorem sl_from {xs : List W} {k : Nat} (h : pureL xs = true) : slW (.lst xs) (some (k : Int)) none = some (.lst (xs.drop k)) := by
  show (if pureL xs then _ else _) = _
  rw [if_pos h, cut_from]
theorem sl_fromT {xs : List W} {k : Nat} (h : pureL xs = true) : slW (.tup xs) (some (k : Int)) none = some (.tup (xs.drop k)) := by
  show (if pureL xs then _ else _) = _
  rw [if_pos h, cut_from]
theorem sl_toT {xs : List W} {k : Nat} (h : pureL xs = true) : slW (.tup xs) none (some (k : Int)) = some (.tup (xs.take k)) := by
  show (if pureL xs then _ else _) = _
  rw [if_pos h, cut_to]
@[simp] theorem part_bin {o : BOp} {a b : E} {i : Int} : part (.bin o a b) (some (.int i)) = some (some i) := (rfl)
@[simp] theorem tru_lst {xs : List W} {S : SW} : tru (.lst xs) S = .ok (.bl (!xs.isEmpty)) S := (rfl)
@[simp] theorem tru_tup {xs : List W} {S : SW} : tru (.tup xs) S = .ok (.bl (!xs.isEmpty)) S := (rfl)
@[simp] theorem setTg_many {is : List Nat} {ws : List W} {S : SW} (h : ws.length = is.length) : setTg (.many is) (.tup ws) S = setMany is ws S := by
  show (if ws.length == is.length then _ else _) = _
  rw [if_pos (by simp [h])]
@[simp] theorem setMany_nil {S : SW} : setMany [] [] S = some S := (rfl)
@[simp] theorem setMany_cons {i : Nat} {is : List Nat} {w : W} {ws : List W} {S : SW} : setMany (i :: is) (w :: ws) S = setMany is ws (S.set i (some w)) := (rfl)
@[simp] theorem bndS_some {α β : Type} {a : α} {k : α → Res β} : bndS (some a) k = k a := (rfl)
@[simp] theorem setMR_ok {is : List Nat} {w : W} {S : SW} (h : w.pure = true) : setMR is w S = bndS (setTg (.many is) w S) (Res.ok .nx) := if_pos h
@[simp] theorem sl_tup1 {x : W} {xs : List W} (h : pureL (x :: xs) = true) : slW (.tup (x :: xs)) (some 1) none = some (.tup xs) := by
  show (if pureL (x :: xs) then _ else _) = _
  rw [if_pos h, cut1]
@[simp] theorem isi_tt {xs : List W} : isiW .tuple (.tup xs) = true := (rfl)
@[simp] theorem isi_tl {xs : List W} : isiW .tuple (.lst xs) = false := (rfl)
@[simp] theorem isi_tf {xs : List W} : isiW .tuple (.flst xs) = false := (rfl)
@[simp] theorem isi_ti {n : Int} : isiW .tuple (.int n) = false := (rfl)
@[simp] theorem isi_ts {n : Str} : isiW .tuple (.str n) = false := (rfl)
@[simp] theorem isi_tb {n : Bool} : isiW .tuple (.bl n) = false := (rfl)
@[simp] theorem isi_lt {xs : List W} : isiW .list (.tup xs) = false := (rfl)
@[simp] theorem isi_ll {xs : List W} : isiW .list (.lst xs) = true := (rfl)
@[simp] theorem isi_lf {xs : List W} : isiW .list (.flst xs) = true := (rfl)
@[simp] theorem isi_li {n : Int} : isiW .list (.int n) = false := (rfl)
@[simp] theorem isi_ls {n : Str} : isiW .list (.str n) = false := (rfl)
@[simp] theorem isi_lb {n : Bool} : isiW .list (.bl n) = false := (rfl)
@[simp] theorem isi_bi {n : Int} : isiW .bool (.int n) = false := (rfl)
@[simp] theorem isi_bs {n : Str} : isiW .bool (.str n) = false := (rfl)
@[simp] theorem isi_bb {n : Bool} : isiW .bool (.bl n) = true := (rfl)
@[simp] theorem isi_ii {n : Int} : isiW .int (.int n) = true := (rfl)
@[simp] theorem isi_is {n : Str} : isiW .int (.str n) = false := (rfl)
@[simp] theorem isi_ib {n : Bool} : isiW .int (.bl n) = true := (rfl)
@[simp] theorem isi_si {n : Int} : isiW .str (.int n) = false := (rfl)
@[simp] theorem isi_ss {n : Str} : isiW .str (.str n) = true := (rfl)
@[simp] theorem isi_sb {n : Bool} : isiW .str (.bl n) = false := (rfl)
@[simp] theorem isi_st {xs : List W} : isiW .str (.tup xs) = false := (rfl)
@[simp] theorem isi_sl {xs : List W} : isiW .str (.lst xs) = false := (rfl)
@[simp] theorem c_eqB {a b : Bool} : cmpW .eq (.bl a) (.bl b) = some (a == b) := by cases a <;> cases b <;> rfl
@[simp] theorem c_neB {a b : Bool} : cmpW .ne (.bl a) (.bl b) = some (a != b) := by cases a <;> cases b <;> rfl
end Own

namespace OwnLaw
open PySem L2 Own
def top (i : Nat) : Stmt := PySem.Challenge.pw_passproven_k33_symbolic_terms.main.body.getD i (.Pass ⟨0, 0, 0, 0⟩)
def fi_integer : FI := ⟨1, 1, (.cons (.ret (.tup (.cons (.str "sum") (.cons (.tup .nil) (.cons (.var 0) .nil))))) .nil)⟩
def fi_added : FI := ⟨3, 7, (.cons (.set 3 (.dc [4, 5] (.many [4, 5]) (.seq (.idx (.var 0) (.int 1))) .nil (.var 4) (.var 5))) (.cons (.for_ (.many [4, 5]) (.seq (.idx (.var 1) (.int 1))) (.cons (.put 3 (.var 4) (.bin .add (.get 3 (.var 4) (.int 0)) (.bin .mul (.var 2) (.var 5)))) .nil)) (.cons (.set 6 (.b1 .tuple (.lc [4] (.one 4) (.seq (.b1 .sorted (.var 3))) (.cons (.cmp .ne (.idx (.var 3) (.var 4)) (.int 0)) .nil) (.tup (.cons (.var 4) (.cons (.idx (.var 3) (.var 4)) .nil)))))) (.cons (.ret (.tup (.cons (.str "sum") (.cons (.var 6) (.cons (.bin .add (.idx (.var 0) (.int 2)) (.bin .mul (.var 2) (.idx (.var 1) (.int 2)))) .nil))))) .nil))))⟩
def fi_built : FI := ⟨2, 8, (.cons (.setM [2, 3, 4] (.var 1)) (.cons (.set 5 (.sl (.var 0) (.bin .sub (.b1 .len (.var 0)) (.var 4)) .non)) (.cons (.delT 0 (.bin .sub (.b1 .len (.var 0)) (.var 4))) (.cons (.ite (.cmp .eq (.var 2) (.str "node")) (.cons (.expr (.app 0 (.tup (.cons (.str "node") (.cons (.var 3) (.cons (.b1 .tuple (.var 5)) .nil)))))) (.cons (.retN) .nil)) .nil) (.cons (.set 6 (.lc [7] (.one 7) (.rng (.var 4)) .nil (.tup (.cons (.tup (.cons (.str "name") (.cons (.idx (.var 3) (.var 7)) .nil))) (.cons (.idx (.var 5) (.var 7)) .nil))))) (.cons (.expr (.app 0 (.tup (.cons (.str "map") (.cons (.non) (.cons (.b1 .tuple (.var 6)) .nil)))))) .nil))))))⟩
def fi_leaf : FI := ⟨2, 2, (.cons (.ite (.cmp .eq (.idx (.var 0) (.int 0)) (.str "int")) (.cons (.ret (.call "integer" (.cons (.idx (.var 0) (.int 1)) .nil))) .nil) .nil) (.cons (.ite (.cmp .eq (.idx (.var 0) (.int 0)) (.str "meta")) (.cons (.ret (.idx (.var 1) (.idx (.var 0) (.int 1)))) .nil) .nil) (.cons (.ret (.var 0)) .nil)))⟩
def fi_symbolic : FI := ⟨2, 9, (.cons (.set 2 (.lst .nil)) (.cons (.set 3 (.lst (.cons (.tup (.cons (.str "term") (.cons (.var 0) .nil))) .nil))) (.cons (.whl (.var 3) (.cons (.setM [4, 5] (.pop 3)) (.cons (.ite (.cmp .eq (.var 4) (.str "build")) (.cons (.expr (.call "built" (.cons (.var 2) (.cons (.var 5) .nil)))) .nil) (.cons (.ite (.cmp .eq (.idx (.var 5) (.int 0)) (.str "node")) (.cons (.expr (.app 3 (.tup (.cons (.str "build") (.cons (.tup (.cons (.str "node") (.cons (.idx (.var 5) (.int 1)) (.cons (.b1 .len (.idx (.var 5) (.int 2))) .nil)))) .nil))))) (.cons (.for_ (.one 6) (.seq (.lrev (.idx (.var 5) (.int 2)))) (.cons (.expr (.app 3 (.tup (.cons (.str "term") (.cons (.var 6) .nil))))) .nil)) .nil)) (.cons (.ite (.cmp .eq (.idx (.var 5) (.int 0)) (.str "map")) (.cons (.set 7 (.b1 .tuple (.lc [8, 6] (.many [8, 6]) (.seq (.idx (.var 5) (.int 1))) .nil (.var 8)))) (.cons (.expr (.app 3 (.tup (.cons (.str "build") (.cons (.tup (.cons (.str "map") (.cons (.var 7) (.cons (.b1 .len (.var 7)) .nil)))) .nil))))) (.cons (.for_ (.many [8, 6]) (.seq (.lrev (.idx (.var 5) (.int 1)))) (.cons (.expr (.app 3 (.tup (.cons (.str "term") (.cons (.var 6) .nil))))) .nil)) .nil))) (.cons (.expr (.app 2 (.call "leaf" (.cons (.var 5) (.cons (.var 1) .nil))))) .nil)) .nil)) .nil)) .nil))) (.cons (.ret (.idx (.var 2) (.int 0))) .nil))))⟩
def fi_size : FI := ⟨1, 6, (.cons (.set 1 (.int 0)) (.cons (.set 2 (.lst (.cons (.var 0) .nil))) (.cons (.whl (.var 2) (.cons (.set 3 (.pop 2)) (.cons (.aug 1 .add (.int 1)) (.cons (.ite (.cmp .eq (.idx (.var 3) (.int 0)) (.str "node")) (.cons (.expr (.ext 2 (.idx (.var 3) (.int 2)))) .nil) (.cons (.ite (.cmp .eq (.idx (.var 3) (.int 0)) (.str "map")) (.cons (.aug 1 .add (.b1 .len (.idx (.var 3) (.int 2)))) (.cons (.expr (.ext 2 (.lc [4, 5] (.many [4, 5]) (.seq (.idx (.var 3) (.int 2))) .nil (.var 5)))) .nil)) .nil) .nil)) .nil)))) (.cons (.ret (.var 1)) .nil))))⟩
def fi_unknowns_in : FI := ⟨1, 8, (.cons (.set 1 (.dn)) (.cons (.set 2 (.lst (.cons (.var 0) .nil))) (.cons (.whl (.var 2) (.cons (.set 3 (.pop 2)) (.cons (.ite (.cmp .eq (.idx (.var 3) (.int 0)) (.str "unknown")) (.cons (.put 1 (.idx (.var 3) (.int 1)) (.bl true)) .nil) (.cons (.ite (.cmp .eq (.idx (.var 3) (.int 0)) (.str "sum")) (.cons (.for_ (.many [4, 5]) (.seq (.idx (.var 3) (.int 1))) (.cons (.put 1 (.var 4) (.bl true)) .nil)) .nil) (.cons (.ite (.cmp .eq (.idx (.var 3) (.int 0)) (.str "node")) (.cons (.expr (.ext 2 (.idx (.var 3) (.int 2)))) .nil) (.cons (.ite (.cmp .eq (.idx (.var 3) (.int 0)) (.str "map")) (.cons (.ite (.cmp .isnot (.idx (.var 3) (.int 1)) (.non)) (.cons (.put 1 (.idx (.var 3) (.int 1)) (.bl true)) .nil) .nil) (.cons (.for_ (.many [6, 7]) (.seq (.idx (.var 3) (.int 2))) (.cons (.expr (.app 2 (.var 6))) (.cons (.expr (.app 2 (.var 7))) .nil))) .nil)) .nil) .nil)) .nil)) .nil)) .nil))) (.cons (.ret (.b1 .sorted (.var 1))) .nil))))⟩
def fi_replaced : FI := ⟨3, 6, (.cons (.set 3 (.lst .nil)) (.cons (.for_ (.one 4) (.seq (.var 1)) (.cons (.expr (.app 3 (.tup (.cons (.var 0) (.cons (.var 4) .nil))))) (.cons (.set 0 (.idx (.idx (.var 0) (.int 2)) (.var 4))) .nil))) (.cons (.for_ (.many [5, 4]) (.seq (.lrev (.var 3))) (.cons (.set 2 (.tup (.cons (.str "node") (.cons (.idx (.var 5) (.int 1)) (.cons (.bin .add (.bin .add (.sl (.idx (.var 5) (.int 2)) .non (.var 4)) (.tup (.cons (.var 2) .nil))) (.sl (.idx (.var 5) (.int 2)) (.bin .add (.var 4) (.int 1)) .non)) .nil))))) .nil)) (.cons (.ret (.var 2)) .nil))))⟩
def fi__law_pool : FI := ⟨1, 2, (.cons (.ret (.lst (.cons (.lc [1] (.one 1) (.seq (.var 0)) .nil (.ite (.cmp .ge (.var 1) (.int 0)) (.bin .mul (.int 2) (.var 1)) (.bin .sub (.bin .mul (.neg (.int 2)) (.var 1)) (.int 1)))) (.cons (.int 0) (.cons (.int 0) (.cons (.int 17) .nil)))))) .nil)⟩
def fi__law_take : FI := ⟨2, 5, (.cons (.ite (.cmp .gt (.idx (.var 0) (.int 2)) (.int 0)) (.cons (.set 2 (.bin .mod (.b1 .int (.idx (.var 0) (.int 2))) (.var 1))) (.cons (.put 0 (.int 2) (.bin .fdiv (.idx (.var 0) (.int 2)) (.var 1))) (.cons (.ret (.var 2)) .nil))) .nil) (.cons (.set 3 (.int 0)) (.cons (.ite (.cmp .lt (.idx (.var 0) (.int 1)) (.b1 .len (.idx (.var 0) (.int 0)))) (.cons (.set 3 (.idx (.idx (.var 0) (.int 0)) (.idx (.var 0) (.int 1)))) .nil) .nil) (.cons (.put 0 (.int 1) (.bin .add (.idx (.var 0) (.int 1)) (.int 1))) (.cons (.ite (.cmp .ge (.var 3) (.bin .pow (.int 10) (.int 18))) (.cons (.put 0 (.int 2) (.bin .fdiv (.var 3) (.int 2))) (.cons (.ret (.call "_law_take" (.cons (.var 0) (.cons (.var 1) .nil)))) .nil)) .nil) (.cons (.put 0 (.int 3) (.bin .mod (.b1 .int (.bin .add (.bin .add (.bin .mul (.idx (.var 0) (.int 3)) (.int 48271)) (.bin .mul (.var 3) (.int 69621))) (.bin .mul (.idx (.var 0) (.int 1)) (.int 613)))) (.int 2147483647))) (.cons (.set 4 (.bin .mod (.b1 .int (.bin .add (.bin .add (.bin .mul (.idx (.var 0) (.int 3)) (.idx (.var 0) (.int 3))) (.bin .mul (.idx (.var 0) (.int 3)) (.int 7919))) (.int 104729))) (.int 1000000007))) (.cons (.ret (.bin .mod (.b1 .int (.bin .fdiv (.var 4) (.int 3))) (.var 1))) .nil))))))))⟩
def fi__law_whole : FI := ⟨1, 1, (.cons (.ite (.cmp .eq (.call "_law_take" (.cons (.var 0) (.cons (.int 3) .nil))) (.int 0)) (.cons (.ret (.bin .sub (.call "_law_take" (.cons (.var 0) (.cons (.int 2000001) .nil))) (.int 1000000))) .nil) .nil) (.cons (.ret (.bin .sub (.call "_law_take" (.cons (.var 0) (.cons (.int 9) .nil))) (.int 4))) .nil))⟩
def fi__law_sum : FI := ⟨1, 4, (.cons (.set 1 (.lst .nil)) (.cons (.for_ (.one 2) (.rng (.call "_law_take" (.cons (.var 0) (.cons (.int 4) .nil)))) (.cons (.set 3 (.bin .sub (.call "_law_take" (.cons (.var 0) (.cons (.int 7) .nil))) (.int 3))) (.cons (.ite (.cmp .ne (.var 3) (.int 0)) (.cons (.expr (.app 1 (.tup (.cons (.bin .add (.bin .mul (.int 10) (.var 2)) (.call "_law_take" (.cons (.var 0) (.cons (.int 10) .nil)))) (.cons (.var 3) .nil))))) .nil) .nil) .nil))) (.cons (.ret (.tup (.cons (.str "sum") (.cons (.b1 .tuple (.var 1)) (.cons (.call "_law_whole" (.cons (.var 0) .nil)) .nil))))) .nil)))⟩
def fi__law_given : FI := ⟨1, 2, (.cons (.set 1 (.call "_law_take" (.cons (.var 0) (.cons (.int 4) .nil)))) (.cons (.ite (.cmp .eq (.var 1) (.int 0)) (.cons (.ret (.call "_law_sum" (.cons (.var 0) .nil))) .nil) .nil) (.cons (.ite (.cmp .eq (.var 1) (.int 1)) (.cons (.ret (.tup (.cons (.str "name") (.cons (.bin .add (.str "n") (.b1 .str (.call "_law_take" (.cons (.var 0) (.cons (.int 30) .nil))))) .nil)))) .nil) .nil) (.cons (.ite (.cmp .eq (.var 1) (.int 2)) (.cons (.ret (.tup (.cons (.str "addr") (.cons (.call "_law_take" (.cons (.var 0) (.cons (.int 50) .nil))) .nil)))) .nil) .nil) (.cons (.ret (.tup (.cons (.str "unknown") (.cons (.call "_law_take" (.cons (.var 0) (.cons (.int 41) .nil))) .nil)))) .nil)))))⟩
def fi__law_term : FI := ⟨3, 8, (.cons (.set 3 (.call "_law_take" (.cons (.var 0) (.cons (.int 8) .nil)))) (.cons (.ite (.or (.cons (.cmp .lt (.var 3) (.int 2)) (.cons (.cmp .lt (.var 2) (.int 1)) .nil))) (.cons (.ret (.idx (.tup (.cons (.tup (.cons (.str "int") (.cons (.call "_law_whole" (.cons (.var 0) .nil)) .nil))) (.cons (.tup (.cons (.str "name") (.cons (.bin .add (.str "k") (.b1 .str (.call "_law_take" (.cons (.var 0) (.cons (.int 9) .nil))))) .nil))) .nil))) (.call "_law_take" (.cons (.var 0) (.cons (.int 2) .nil))))) .nil) .nil) (.cons (.ite (.cmp .eq (.var 3) (.int 2)) (.cons (.ret (.tup (.cons (.str "addr") (.cons (.call "_law_take" (.cons (.var 0) (.cons (.int 12) .nil))) .nil)))) .nil) .nil) (.cons (.ite (.cmp .lt (.var 3) (.int 5)) (.cons (.ret (.tup (.cons (.str "meta") (.cons (.idx (.var 1) (.call "_law_take" (.cons (.var 0) (.cons (.b1 .len (.var 1)) .nil)))) .nil)))) .nil) .nil) (.cons (.ite (.cmp .eq (.var 3) (.int 5)) (.cons (.set 4 (.b1 .sorted (.lc [6] (.one 6) (.rng (.int 10)) (.cons (.cmp .eq (.call "_law_take" (.cons (.var 0) (.cons (.int 4) .nil))) (.int 0)) .nil) (.bin .add (.str "a") (.b1 .str (.var 6)))))) (.cons (.ret (.tup (.cons (.str "map") (.cons (.b1 .tuple (.lc [7] (.one 7) (.seq (.var 4)) .nil (.tup (.cons (.var 7) (.cons (.call "_law_term" (.cons (.var 0) (.cons (.var 1) (.cons (.bin .sub (.var 2) (.int 1)) .nil)))) .nil))))) .nil)))) .nil)) .nil) (.cons (.set 5 (.call "_law_take" (.cons (.var 0) (.cons (.int 4) .nil)))) (.cons (.ret (.tup (.cons (.str "node") (.cons (.bin .add (.str "c") (.b1 .str (.var 5))) (.cons (.b1 .tuple (.lc [6] (.one 6) (.rng (.var 5)) .nil (.call "_law_term" (.cons (.var 0) (.cons (.var 1) (.cons (.bin .sub (.var 2) (.int 1)) .nil)))))) .nil))))) .nil)))))))⟩
def fi__law_due : FI := ⟨2, 4, (.cons (.ite (.cmp .eq (.idx (.var 0) (.int 0)) (.str "int")) (.cons (.ret (.tup (.cons (.str "sum") (.cons (.tup .nil) (.cons (.idx (.var 0) (.int 1)) .nil))))) .nil) .nil) (.cons (.ite (.cmp .eq (.idx (.var 0) (.int 0)) (.str "meta")) (.cons (.ret (.idx (.var 1) (.idx (.var 0) (.int 1)))) .nil) .nil) (.cons (.ite (.cmp .eq (.idx (.var 0) (.int 0)) (.str "map")) (.cons (.ret (.tup (.cons (.str "map") (.cons (.non) (.cons (.b1 .tuple (.lc [2] (.one 2) (.seq (.idx (.var 0) (.int 1))) .nil (.tup (.cons (.tup (.cons (.str "name") (.cons (.idx (.var 2) (.int 0)) .nil))) (.cons (.call "_law_due" (.cons (.idx (.var 2) (.int 1)) (.cons (.var 1) .nil))) .nil))))) .nil))))) .nil) .nil) (.cons (.ite (.cmp .eq (.idx (.var 0) (.int 0)) (.str "node")) (.cons (.ret (.tup (.cons (.str "node") (.cons (.idx (.var 0) (.int 1)) (.cons (.b1 .tuple (.lc [3] (.one 3) (.seq (.idx (.var 0) (.int 2))) .nil (.call "_law_due" (.cons (.var 3) (.cons (.var 1) .nil))))) .nil))))) .nil) .nil) (.cons (.ret (.var 0)) .nil)))))⟩
def fi__law_size : FI := ⟨1, 3, (.cons (.ite (.cmp .eq (.idx (.var 0) (.int 0)) (.str "map")) (.cons (.ret (.bin .add (.int 1) (.b1 .sum (.lc [1] (.one 1) (.seq (.idx (.var 0) (.int 2))) .nil (.bin .add (.int 1) (.call "_law_size" (.cons (.idx (.var 1) (.int 1)) .nil))))))) .nil) .nil) (.cons (.ite (.cmp .eq (.idx (.var 0) (.int 0)) (.str "node")) (.cons (.ret (.bin .add (.int 1) (.b1 .sum (.lc [2] (.one 2) (.seq (.idx (.var 0) (.int 2))) .nil (.call "_law_size" (.cons (.var 2) .nil)))))) .nil) .nil) (.cons (.ret (.int 1)) .nil)))⟩
def fi__law_found : FI := ⟨1, 4, (.cons (.ite (.cmp .eq (.idx (.var 0) (.int 0)) (.str "unknown")) (.cons (.ret (.lst (.cons (.idx (.var 0) (.int 1)) .nil))) .nil) .nil) (.cons (.ite (.cmp .eq (.idx (.var 0) (.int 0)) (.str "sum")) (.cons (.ret (.lc [2] (.one 2) (.seq (.idx (.var 0) (.int 1))) .nil (.idx (.var 2) (.int 0)))) .nil) .nil) (.cons (.set 1 (.lst .nil)) (.cons (.ite (.cmp .eq (.idx (.var 0) (.int 0)) (.str "map")) (.cons (.for_ (.one 2) (.seq (.idx (.var 0) (.int 2))) (.cons (.set 1 (.bin .add (.var 1) (.call "_law_found" (.cons (.idx (.var 2) (.int 1)) .nil)))) .nil)) .nil) .nil) (.cons (.ite (.cmp .eq (.idx (.var 0) (.int 0)) (.str "node")) (.cons (.for_ (.one 3) (.seq (.idx (.var 0) (.int 2))) (.cons (.set 1 (.bin .add (.var 1) (.call "_law_found" (.cons (.var 3) .nil)))) .nil)) .nil) .nil) (.cons (.ret (.var 1)) .nil))))))⟩
def fi__law_ways : FI := ⟨1, 4, (.cons (.set 1 (.lst (.cons (.tup .nil) .nil))) (.cons (.ite (.cmp .eq (.idx (.var 0) (.int 0)) (.str "node")) (.cons (.for_ (.one 2) (.rng (.b1 .len (.idx (.var 0) (.int 2)))) (.cons (.set 1 (.bin .add (.var 1) (.lc [3] (.one 3) (.seq (.call "_law_ways" (.cons (.idx (.idx (.var 0) (.int 2)) (.var 2)) .nil))) .nil (.bin .add (.tup (.cons (.var 2) .nil)) (.var 3))))) .nil)) .nil) .nil) (.cons (.ret (.var 1)) .nil)))⟩
def fi__law_put : FI := ⟨3, 4, (.cons (.ite (.not (.var 1)) (.cons (.ret (.var 2)) .nil) .nil) (.cons (.set 3 (.b1 .list (.idx (.var 0) (.int 2)))) (.cons (.put 3 (.idx (.var 1) (.int 0)) (.call "_law_put" (.cons (.idx (.var 3) (.idx (.var 1) (.int 0))) (.cons (.sl (.var 1) (.int 1) .non) (.cons (.var 2) .nil))))) (.cons (.ret (.tup (.cons (.str "node") (.cons (.idx (.var 0) (.int 1)) (.cons (.b1 .tuple (.var 3)) .nil))))) .nil))))⟩
def fi__law_once : FI := ⟨1, 3, (.cons (.set 1 (.lst .nil)) (.cons (.for_ (.one 2) (.seq (.b1 .sorted (.var 0))) (.cons (.ite (.cmp .notin (.var 2) (.var 1)) (.cons (.expr (.app 1 (.var 2))) .nil) .nil) .nil)) (.cons (.ret (.var 1)) .nil)))⟩
def fi__law_added : FI := ⟨3, 7, (.cons (.set 3 (.dn)) (.cons (.for_ (.one 4) (.seq (.idx (.var 0) (.int 1))) (.cons (.put 3 (.idx (.var 4) (.int 0)) (.idx (.var 4) (.int 1))) .nil)) (.cons (.for_ (.one 4) (.seq (.idx (.var 1) (.int 1))) (.cons (.put 3 (.idx (.var 4) (.int 0)) (.bin .add (.get 3 (.idx (.var 4) (.int 0)) (.int 0)) (.bin .mul (.var 2) (.idx (.var 4) (.int 1))))) .nil)) (.cons (.set 5 (.lc [6] (.one 6) (.seq (.b1 .sorted (.var 3))) .nil (.tup (.cons (.var 6) (.cons (.idx (.var 3) (.var 6)) .nil))))) (.cons (.ret (.tup (.cons (.str "sum") (.cons (.b1 .tuple (.lc [4] (.one 4) (.seq (.var 5)) (.cons (.cmp .ne (.idx (.var 4) (.int 1)) (.int 0)) .nil) (.var 4))) (.cons (.bin .add (.idx (.var 0) (.int 2)) (.bin .mul (.var 2) (.idx (.var 1) (.int 2)))) .nil))))) .nil)))))⟩
def fi_law : FI := ⟨1, 15, (.cons (.set 1 (.call "_law_pool" (.cons (.var 0) .nil))) (.cons (.set 2 (.lc [14] (.one 14) (.rng (.bin .add (.int 1) (.call "_law_take" (.cons (.var 1) (.cons (.int 4) .nil))))) .nil (.bin .add (.bin .add (.bin .add (.str "x") (.b1 .str (.call "_law_take" (.cons (.var 1) (.cons (.int 100) .nil))))) (.str "_")) (.b1 .str (.var 14))))) (.cons (.set 3 (.dn)) (.cons (.for_ (.one 4) (.seq (.var 2)) (.cons (.put 3 (.var 4) (.call "_law_given" (.cons (.var 1) .nil))) .nil)) (.cons (.set 5 (.call "_law_term" (.cons (.var 1) (.cons (.var 2) (.cons (.bin .add (.int 1) (.call "_law_take" (.cons (.var 1) (.cons (.int 5) .nil)))) .nil))))) (.cons (.set 6 (.call "_law_due" (.cons (.var 5) (.cons (.var 3) .nil)))) (.cons (.ite (.or (.cons (.cmp .ne (.call "symbolic" (.cons (.var 5) (.cons (.var 3) .nil))) (.var 6)) (.cons (.cmp .ne (.call "size" (.cons (.var 6) .nil)) (.call "_law_size" (.cons (.var 6) .nil))) .nil))) (.cons (.ret (.bl false)) .nil) .nil) (.cons (.ite (.cmp .ne (.call "unknowns_in" (.cons (.var 6) .nil)) (.call "_law_once" (.cons (.call "_law_found" (.cons (.var 6) .nil)) .nil))) (.cons (.ret (.bl false)) .nil) .nil) (.cons (.set 7 (.call "_law_ways" (.cons (.var 6) .nil))) (.cons (.set 8 (.idx (.var 7) (.call "_law_take" (.cons (.var 1) (.cons (.b1 .len (.var 7)) .nil))))) (.cons (.set 9 (.call "_law_due" (.cons (.call "_law_term" (.cons (.var 1) (.cons (.var 2) (.cons (.int 2) .nil)))) (.cons (.var 3) .nil)))) (.cons (.ite (.cmp .ne (.call "replaced" (.cons (.var 6) (.cons (.var 8) (.cons (.var 9) .nil)))) (.call "_law_put" (.cons (.var 6) (.cons (.var 8) (.cons (.var 9) .nil))))) (.cons (.ret (.bl false)) .nil) .nil) (.cons (.set 10 (.call "_law_sum" (.cons (.var 1) .nil))) (.cons (.set 11 (.call "_law_sum" (.cons (.var 1) .nil))) (.cons (.set 12 (.idx (.tup (.cons (.int 1) (.cons (.neg (.int 1)) .nil))) (.call "_law_take" (.cons (.var 1) (.cons (.int 2) .nil))))) (.cons (.set 13 (.call "_law_whole" (.cons (.var 1) .nil))) (.cons (.ret (.and (.cons (.cmp .eq (.call "added" (.cons (.var 10) (.cons (.var 11) (.cons (.var 12) .nil)))) (.call "_law_added" (.cons (.var 10) (.cons (.var 11) (.cons (.var 12) .nil))))) (.cons (.cmp .eq (.call "integer" (.cons (.var 13) .nil)) (.tup (.cons (.str "sum") (.cons (.tup .nil) (.cons (.var 13) .nil))))) .nil)))) .nil)))))))))))))))))⟩
def csT : List (Str × W) := []
def tbl : Tb := [("integer", top 1, fi_integer), ("added", top 2, fi_added), ("built", top 3, fi_built), ("leaf", top 4, fi_leaf), ("symbolic", top 5, fi_symbolic), ("size", top 6, fi_size), ("unknowns_in", top 7, fi_unknowns_in), ("replaced", top 8, fi_replaced), ("_law_pool", top 10, fi__law_pool), ("_law_take", top 11, fi__law_take), ("_law_whole", top 12, fi__law_whole), ("_law_sum", top 13, fi__law_sum), ("_law_given", top 14, fi__law_given), ("_law_term", top 15, fi__law_term), ("_law_due", top 16, fi__law_due), ("_law_size", top 17, fi__law_size), ("_law_found", top 18, fi__law_found), ("_law_ways", top 19, fi__law_ways), ("_law_put", top 20, fi__law_put), ("_law_once", top 21, fi__law_once), ("_law_added", top 22, fi__law_added), ("law", top 23, fi_law)]
theorem tx_integer : TextOk tbl.fns (csT.map (·.1)) "integer" (top 1) fi_integer := ⟨["n"], ["n"], ⟨rfl, rfl, rfl, by decide +kernel, rfl, by decide +kernel, by decide +kernel⟩, rfl, rfl, fun _ _ _ _ _ _ us hl => match us, hl with | [_], _ => rfl, by decide +kernel⟩
theorem tx_added : TextOk tbl.fns (csT.map (·.1)) "added" (top 2) fi_added := ⟨["one", "other", "sign", "multiples", "u", "multiple", "parts"], ["one", "other", "sign"], ⟨rfl, rfl, rfl, by decide +kernel, rfl, by decide +kernel, by decide +kernel⟩, rfl, rfl, fun _ _ _ _ _ _ us hl => match us, hl with | [_, _, _], _ => rfl, by decide +kernel⟩
theorem tx_built : TextOk tbl.fns (csT.map (·.1)) "built" (top 3) fi_built := ⟨["made", "many", "head", "detail", "count", "inner", "entries", "k"], ["made", "many"], ⟨rfl, rfl, rfl, by decide +kernel, rfl, by decide +kernel, by decide +kernel⟩, rfl, rfl, fun _ _ _ _ _ _ us hl => match us, hl with | [_, _], _ => rfl, by decide +kernel⟩
theorem tx_leaf : TextOk tbl.fns (csT.map (·.1)) "leaf" (top 4) fi_leaf := ⟨["term", "unknowns"], ["term", "unknowns"], ⟨rfl, rfl, rfl, by decide +kernel, rfl, by decide +kernel, by decide +kernel⟩, rfl, rfl, fun _ _ _ _ _ _ us hl => match us, hl with | [_, _], _ => rfl, by decide +kernel⟩
theorem tx_symbolic : TextOk tbl.fns (csT.map (·.1)) "symbolic" (top 5) fi_symbolic := ⟨["term", "unknowns", "made", "waiting", "kind", "item", "part", "names", "word"], ["term", "unknowns"], ⟨rfl, rfl, rfl, by decide +kernel, rfl, by decide +kernel, by decide +kernel⟩, rfl, rfl, fun _ _ _ _ _ _ us hl => match us, hl with | [_, _], _ => rfl, by decide +kernel⟩
theorem tx_size : TextOk tbl.fns (csT.map (·.1)) "size" (top 6) fi_size := ⟨["term", "many", "waiting", "item", "name", "part"], ["term"], ⟨rfl, rfl, rfl, by decide +kernel, rfl, by decide +kernel, by decide +kernel⟩, rfl, rfl, fun _ _ _ _ _ _ us hl => match us, hl with | [_], _ => rfl, by decide +kernel⟩
theorem tx_unknowns_in : TextOk tbl.fns (csT.map (·.1)) "unknowns_in" (top 7) fi_unknowns_in := ⟨["term", "found", "waiting", "item", "u", "multiple", "name", "part"], ["term"], ⟨rfl, rfl, rfl, by decide +kernel, rfl, by decide +kernel, by decide +kernel⟩, rfl, rfl, fun _ _ _ _ _ _ us hl => match us, hl with | [_], _ => rfl, by decide +kernel⟩
theorem tx_replaced : TextOk tbl.fns (csT.map (·.1)) "replaced" (top 8) fi_replaced := ⟨["term", "way", "part", "above", "place", "node"], ["term", "way", "part"], ⟨rfl, rfl, rfl, by decide +kernel, rfl, by decide +kernel, by decide +kernel⟩, rfl, rfl, fun _ _ _ _ _ _ us hl => match us, hl with | [_, _, _], _ => rfl, by decide +kernel⟩
theorem tx__law_pool : TextOk tbl.fns (csT.map (·.1)) "_law_pool" (top 10) fi__law_pool := ⟨["script", "cell"], ["script"], ⟨rfl, rfl, rfl, by decide +kernel, rfl, by decide +kernel, by decide +kernel⟩, rfl, rfl, fun _ _ _ _ _ _ us hl => match us, hl with | [_], _ => rfl, by decide +kernel⟩
theorem tx__law_take : TextOk tbl.fns (csT.map (·.1)) "_law_take" (top 11) fi__law_take := ⟨["pool", "many", "digit", "cell", "mixed"], ["pool", "many"], ⟨rfl, rfl, rfl, by decide +kernel, rfl, by decide +kernel, by decide +kernel⟩, rfl, rfl, fun _ _ _ _ _ _ us hl => match us, hl with | [_, _], _ => rfl, by decide +kernel⟩
theorem tx__law_whole : TextOk tbl.fns (csT.map (·.1)) "_law_whole" (top 12) fi__law_whole := ⟨["pool"], ["pool"], ⟨rfl, rfl, rfl, by decide +kernel, rfl, by decide +kernel, by decide +kernel⟩, rfl, rfl, fun _ _ _ _ _ _ us hl => match us, hl with | [_], _ => rfl, by decide +kernel⟩
theorem tx__law_sum : TextOk tbl.fns (csT.map (·.1)) "_law_sum" (top 13) fi__law_sum := ⟨["pool", "parts", "u", "multiple"], ["pool"], ⟨rfl, rfl, rfl, by decide +kernel, rfl, by decide +kernel, by decide +kernel⟩, rfl, rfl, fun _ _ _ _ _ _ us hl => match us, hl with | [_], _ => rfl, by decide +kernel⟩
theorem tx__law_given : TextOk tbl.fns (csT.map (·.1)) "_law_given" (top 14) fi__law_given := ⟨["pool", "kind"], ["pool"], ⟨rfl, rfl, rfl, by decide +kernel, rfl, by decide +kernel, by decide +kernel⟩, rfl, rfl, fun _ _ _ _ _ _ us hl => match us, hl with | [_], _ => rfl, by decide +kernel⟩
theorem tx__law_term : TextOk tbl.fns (csT.map (·.1)) "_law_term" (top 15) fi__law_term := ⟨["pool", "words", "depth", "kind", "names", "many", "k", "name"], ["pool", "words", "depth"], ⟨rfl, rfl, rfl, by decide +kernel, rfl, by decide +kernel, by decide +kernel⟩, rfl, rfl, fun _ _ _ _ _ _ us hl => match us, hl with | [_, _, _], _ => rfl, by decide +kernel⟩
theorem tx__law_due : TextOk tbl.fns (csT.map (·.1)) "_law_due" (top 16) fi__law_due := ⟨["term", "table", "pair", "part"], ["term", "table"], ⟨rfl, rfl, rfl, by decide +kernel, rfl, by decide +kernel, by decide +kernel⟩, rfl, rfl, fun _ _ _ _ _ _ us hl => match us, hl with | [_, _], _ => rfl, by decide +kernel⟩
theorem tx__law_size : TextOk tbl.fns (csT.map (·.1)) "_law_size" (top 17) fi__law_size := ⟨["term", "pair", "part"], ["term"], ⟨rfl, rfl, rfl, by decide +kernel, rfl, by decide +kernel, by decide +kernel⟩, rfl, rfl, fun _ _ _ _ _ _ us hl => match us, hl with | [_], _ => rfl, by decide +kernel⟩
theorem tx__law_found : TextOk tbl.fns (csT.map (·.1)) "_law_found" (top 18) fi__law_found := ⟨["term", "found", "pair", "part"], ["term"], ⟨rfl, rfl, rfl, by decide +kernel, rfl, by decide +kernel, by decide +kernel⟩, rfl, rfl, fun _ _ _ _ _ _ us hl => match us, hl with | [_], _ => rfl, by decide +kernel⟩
theorem tx__law_ways : TextOk tbl.fns (csT.map (·.1)) "_law_ways" (top 19) fi__law_ways := ⟨["term", "ways", "k", "way"], ["term"], ⟨rfl, rfl, rfl, by decide +kernel, rfl, by decide +kernel, by decide +kernel⟩, rfl, rfl, fun _ _ _ _ _ _ us hl => match us, hl with | [_], _ => rfl, by decide +kernel⟩
theorem tx__law_put : TextOk tbl.fns (csT.map (·.1)) "_law_put" (top 20) fi__law_put := ⟨["term", "way", "part", "row"], ["term", "way", "part"], ⟨rfl, rfl, rfl, by decide +kernel, rfl, by decide +kernel, by decide +kernel⟩, rfl, rfl, fun _ _ _ _ _ _ us hl => match us, hl with | [_, _, _], _ => rfl, by decide +kernel⟩
theorem tx__law_once : TextOk tbl.fns (csT.map (·.1)) "_law_once" (top 21) fi__law_once := ⟨["row", "found", "item"], ["row"], ⟨rfl, rfl, rfl, by decide +kernel, rfl, by decide +kernel, by decide +kernel⟩, rfl, rfl, fun _ _ _ _ _ _ us hl => match us, hl with | [_], _ => rfl, by decide +kernel⟩
theorem tx__law_added : TextOk tbl.fns (csT.map (·.1)) "_law_added" (top 22) fi__law_added := ⟨["one", "other", "sign", "total", "pair", "parts", "u"], ["one", "other", "sign"], ⟨rfl, rfl, rfl, by decide +kernel, rfl, by decide +kernel, by decide +kernel⟩, rfl, rfl, fun _ _ _ _ _ _ us hl => match us, hl with | [_, _, _], _ => rfl, by decide +kernel⟩
theorem tx_law : TextOk tbl.fns (csT.map (·.1)) "law" (top 23) fi_law := ⟨["script", "pool", "words", "table", "word", "term", "due", "ways", "way", "part", "one", "other", "sign", "n", "k"], ["script"], ⟨rfl, rfl, rfl, by decide +kernel, rfl, by decide +kernel, by decide +kernel⟩, rfl, rfl, fun _ _ _ _ _ _ us hl => match us, hl with | [_], _ => rfl, by decide +kernel⟩
theorem tx : tbl.Tx tbl.fns (csT.map (·.1)) := .cons tx_integer (.cons tx_added (.cons tx_built (.cons tx_leaf (.cons tx_symbolic (.cons tx_size (.cons tx_unknowns_in (.cons tx_replaced (.cons tx__law_pool (.cons tx__law_take (.cons tx__law_whole (.cons tx__law_sum (.cons tx__law_given (.cons tx__law_term (.cons tx__law_due (.cons tx__law_size (.cons tx__law_found (.cons tx__law_ways (.cons tx__law_put (.cons tx__law_once (.cons tx__law_added (.cons tx_law (.nil))))))))))))))))))))))
end OwnLaw
/-! the pool of numbers: it stands in every law -/
namespace OwnLaw
open PySem L2 Own
structure Pool where
  cells : List Int
  i : Nat
  b : Int
  s : Int
  hb : 0 ≤ b
def Pool.toW (p : Pool) : W := .lst [.lst (p.cells.map W.int), .int p.i, .int p.b, .int p.s]
theorem Pool.np (p : Pool) : p.toW.pure = false := (rfl)
def TakeOk (c : Fn) : Prop := ∀ (p : Pool) (m : Int), 0 < m → m < 1073741824 → ∃ (d : Nat) (q : Pool), c.call "_law_take" [p.toW, .int m] = .ok (.int d) [q.toW, .int m] ∧ (d : Int) < m
theorem mod_nat {a m : Int} (h : 0 < m) : ∃ d : Nat, a % m = d ∧ (d : Int) < m := ⟨(a % m).toNat, (Int.toNat_of_nonneg (Int.emod_nonneg a (by omega))).symm, by
  rw [Int.toNat_of_nonneg (Int.emod_nonneg a (by omega))]; exact Int.emod_lt_of_pos a h⟩
theorem take_b (c : Fn) (p : Pool) (m : Int) (h0 : 0 < p.b) (hm : 0 < m) (hm2 : m < 1073741824) : ∃ (d : Nat) (q : Pool), Own.run c fi__law_take [p.toW, .int m] = .ok (.int d) [q.toW, .int m] ∧ (d : Int) < m := by
  obtain ⟨d, e, hd⟩ := mod_nat (a := p.b) hm
  refine ⟨d, ⟨p.cells, p.i, p.b / m, p.s, Int.ediv_nonneg p.hb (by omega)⟩, ?_, hd⟩
  rw [run_eq rfl (by simp [Sb.asn, Sm.asn, Tg.slots, fi__law_take, Pool.np])]
  simp [fi__law_take, Pool.toW, b_mod, b_fdiv, h0, hm, hm2, e]
theorem opq {o : BOp} {k : Int} (h : ∀ a : Int, ∃ b : Int, binW o (.int a) (.int k) = some (.int b)) : ∃ f : Int → Int, ∀ a : Int, binW o (.int a) (.int k) = some (.int (f a)) :=
  ⟨fun a => (h a).choose, fun a => (h a).choose_spec⟩
theorem mulOk_r (x y : Int) (h : -(2 ^ 64) < y ∧ y < 2 ^ 64) : mulOk x y = true := by
  unfold mulOk
  exact decide_eq_true (.inr h)
theorem mulOk_l (x y : Int) (h : -(2 ^ 64) < x ∧ x < 2 ^ 64) : mulOk x y = true := by
  unfold mulOk
  exact decide_eq_true (.inl h)
theorem take_run (c : Fn) (hb : ∀ (p : Pool) (m : Int), 0 < p.b → 0 < m → m < 1073741824 → ∃ (d : Nat) (q : Pool), c.call "_law_take" [p.toW, .int m] = .ok (.int d) [q.toW, .int m] ∧ (d : Int) < m)
    (p : Pool) (m : Int) (hm : 0 < m) (hm2 : m < 1073741824) : ∃ (d : Nat) (q : Pool), Own.run c fi__law_take [p.toW, .int m] = .ok (.int d) [q.toW, .int m] ∧ (d : Int) < m := by
  by_cases h0 : 0 < p.b
  · exact take_b c p m h0 hm hm2
  obtain ⟨m1, e1⟩ := opq (o := .mul) (k := 48271) fun a => ⟨_, b_mul (mulOk_r _ _ (by decide))⟩
  obtain ⟨m2, e2⟩ := opq (o := .mul) (k := 69621) fun a => ⟨_, b_mul (mulOk_r _ _ (by decide))⟩
  obtain ⟨m3, e3⟩ := opq (o := .mul) (k := 613) fun a => ⟨_, b_mul (mulOk_r _ _ (by decide))⟩
  obtain ⟨m4, e4⟩ := opq (o := .mul) (k := 7919) fun a => ⟨_, b_mul (mulOk_r _ _ (by decide))⟩
  obtain ⟨f1, e5, r5⟩ : ∃ f : Int → Int, (∀ a : Int, binW .mod (.int a) (.int 2147483647) = some (.int (f a))) ∧ ∀ a b, mulOk (f a) b = true :=
    ⟨fun a => a % 2147483647, fun a => b_mod (by omega), fun a b => mulOk_l _ _ ⟨by show _ < a % 2147483647; omega, by show a % 2147483647 < _; omega⟩⟩
  obtain ⟨f2, e6⟩ := opq (o := .mod) (k := 1000000007) fun a => ⟨_, b_mod (by omega)⟩
  obtain ⟨f3, e7⟩ := opq (o := .fdiv) (k := 3) fun a => ⟨_, b_fdiv (by omega) (by omega)⟩
  obtain ⟨k, e8, hk⟩ : ∃ k : Int, binW .pow (.int 10) (.int 18) = some (.int k) ∧ 2 ≤ k := ⟨_, b_pow (by decide), by decide⟩
  have go : ∀ (x : Int) (b : Bool), (if b then p.cells[p.i]? = some x else x = 0 ∧ p.cells[p.i]? = none) → ∃ (d : Nat) (q : Pool), Own.run c fi__law_take [p.toW, .int m] = .ok (.int d) [q.toW, .int m] ∧ (d : Int) < m := by
    intro x b hx
    by_cases hbig : k ≤ x
    · obtain ⟨d, q, hq, hd⟩ := hb ⟨p.cells, p.i + 1, x / 2, p.s, Int.ediv_nonneg (by omega) (by omega)⟩ m (by show 0 < x / 2; omega) hm hm2
      refine ⟨d, q, ?_, hd⟩
      have bx : binW .fdiv (.int x) (.int 2) = some (.int (x / 2)) := b_fdiv (by omega) (by omega)
      have hqn : q.toW.pure = false := q.np
      simp only [Pool.toW] at hq hqn
      push_cast at hq
      cases b with
      | true =>
        obtain ⟨hi, hx⟩ := List.getElem?_eq_some_iff.mp hx
        rw [run_eq rfl (by simp [Sb.asn, Sm.asn, Tg.slots, fi__law_take, Pool.np])]
        simp [fi__law_take, Pool.toW, h0, hi, hx, e8, hbig, bx, hq, hqn]
      | false =>
        have hi : ¬ p.i < p.cells.length := by simpa using hx.2
        obtain ⟨rfl, hx⟩ := hx
        omega
    · obtain ⟨d, e, hd⟩ := mod_nat (a := f3 (f2 (f1 (m1 p.s + m2 x + m3 (p.i + 1)) * f1 (m1 p.s + m2 x + m3 (p.i + 1)) + m4 (f1 (m1 p.s + m2 x + m3 (p.i + 1))) + 104729))) hm
      refine ⟨d, ⟨p.cells, p.i + 1, p.b, f1 (m1 p.s + m2 x + m3 (p.i + 1)), p.hb⟩, ?_, hd⟩
      have bm : ∀ a, binW .mod (.int a) (.int m) = some (.int (a % m)) := fun a => b_mod hm
      have bb : ∀ a, binW .mul (.int (f1 a)) (.int (f1 a)) = some (.int (f1 a * f1 a)) := fun a => b_mul (r5 _ _)
      cases b with
      | true =>
        obtain ⟨hi, hx⟩ := List.getElem?_eq_some_iff.mp hx
        rw [run_eq rfl (by simp [Sb.asn, Sm.asn, Tg.slots, fi__law_take, Pool.np])]
        simp [fi__law_take, Pool.toW, h0, hi, hx, e8, hbig, e1, e2, e3, e4, e5, e6, e7, bm, bb, e]
      | false =>
        have hi : ¬ p.i < p.cells.length := by simpa using hx.2
        obtain ⟨rfl, hx⟩ := hx
        rw [run_eq rfl (by simp [Sb.asn, Sm.asn, Tg.slots, fi__law_take, Pool.np])]
        simp [fi__law_take, Pool.toW, h0, hi, hx, e8, hbig, e1, e2, e3, e4, e5, e6, e7, bm, bb, e]
  cases hx : p.cells[p.i]? with
  | some x => exact go x true hx
  | none => exact go 0 false ⟨rfl, hx⟩
/-- take, at any level but the lowest two -/
theorem take_at {D : Pg} {cst : Str → Option W} (hD : D "_law_take" = some fi__law_take) (k : Nat) : TakeOk ⟨sem D cst (k + 2), cst⟩ := by
  intro p m hm hm2
  show ∃ (d : Nat) (q : Pool), sem D cst (k + 2) "_law_take" [p.toW, .int m] = _ ∧ _
  rw [sem_eq hD]
  refine take_run _ (fun p m h0 hm hm2 => ?_) p m hm hm2
  show ∃ (d : Nat) (q : Pool), sem D cst (k + 1) "_law_take" [p.toW, .int m] = _ ∧ _
  rw [sem_eq hD]
  exact take_b _ p m h0 hm hm2
end OwnLaw

/-! drawn words: they stand in many laws -/
namespace OwnLaw
open PySem L2 Own
/-- a word -/
abbrev Wrd := {x : Str // PyData.strOk x = true}
/-- a sign -/
abbrev Sgn := {x : Str // x.length = 1 ∧ PyData.strOk x = true}
def wsW (ws : List Wrd) : List W := ws.map fun w => .str w.1
def rowW (ws : List Sgn) : List W := ws.map fun w => .str w.1
theorem wsW_len {ws : List Wrd} : (wsW ws).length = ws.length := by simp [wsW]
theorem rowW_len {ws : List Sgn} : (rowW ws).length = ws.length := by simp [rowW]
theorem wsW_p {ws : List Wrd} : pureL (wsW ws) = true := pl_map fun _ => rfl
theorem rowW_p {ws : List Sgn} : pureL (rowW ws) = true := pl_map fun _ => rfl
theorem strOk_append {a b : Str} : PyData.strOk (a ++ b) = (PyData.strOk a && PyData.strOk b) := by
  simp [PyData.strOk, Str.cps_append]
theorem strOk_tl {a : Str} : PyData.strOk a = true ↔ ∀ c ∈ TL.tl a, c < 0x110000 := by
  unfold PyData.strOk
  rw [Array.all_eq_true_iff_forall_mem]
  simp [TL.tl]
@[simp] theorem strOk_ofString (s : String) : PyData.strOk (Str.ofString s) = true := by
  rw [strOk_tl, TL.tl_ofString]
  intro c hc
  obtain ⟨x, _, rfl⟩ := List.mem_map.mp hc
  have h := x.valid
  simp only [UInt32.isValidChar, Nat.isValidChar] at h
  show x.val.toNat < _
  omega
theorem strOk_join : ∀ {rows : List Str}, (∀ x ∈ rows, PyData.strOk x = true) → PyData.strOk (Txt.join "" rows) = true := by
  intro rows h
  rw [TL.join_eq]
  induction rows with
  | nil => decide +kernel
  | cons x r ih =>
    cases r with
    | nil => exact h x (by simp)
    | cons y r =>
      show PyData.strOk (x ++ _ ++ Str.join "" (y :: r)) = true
      rw [strOk_append, strOk_append, h x (by simp), ih fun z hz => h z (List.mem_cons_of_mem _ hz)]
      decide +kernel
theorem sgn_of {z : Str} {n : Nat} (hz : z.length = n) (hn : n ≤ sizeLine) (ok : PyData.strOk z = true) {d : Nat} (hd : (d : Int) < n) : ∃ s : Sgn, idxW (.str z) (.int d) = some (.str s.1) := by
  have hd : d < z.cps.toList.length := by
    have : z.cps.toList.length = n := by rw [← hz]; simp [Str.length]
    omega
  refine ⟨⟨⟨#[z.cps.toList[d]]⟩, rfl, ?_⟩, ?_⟩
  · rw [strOk_tl] at ok ⊢
    intro c hc
    have : c = z.cps.toList[d] := by simpa [TL.tl] using hc
    exact ok c (this ▸ List.getElem_mem hd)
  · rw [Own.ix_str (by omega)]
    have : atI z.cps.toList (d : Int) = some z.cps.toList[d] := by
      have hd' : d < z.cps.size := by simpa using hd
      unfold atI ixN
      simp [hd']
    rw [this]; rfl
theorem gt_ne {S : SW} {i j : Nat} {x : Option W} (h : j ≠ i) : gt (S.set j x) i = gt S i := by rw [gt_set, if_neg fun z => h z.1]
theorem gt_eq {S : SW} {i : Nat} {x : Option W} (h : i < S.length) : gt (S.set i x) i = x := by rw [gt_set, if_pos ⟨rfl, h⟩]
theorem set_none {S : SW} {j : Nat} {x : Option W} (h : S[j]? = some none) : (S.set j x).set j none = S := by
  rw [List.set_set]
  apply List.ext_getElem?
  intro i
  rw [List.getElem?_set]
  split
  · rename_i e; subst e
    split
    · exact h.symm
    · rename_i hl; rw [List.getElem?_eq_none (by omega)]
  · rfl
/-- signs one after another, by the pool in slot 0 -/
theorem signs_lc {c : Fn} (hT : TakeOk c) {others : Str} (ho : others.length = 37) (hok : PyData.strOk others = true) {j n : Nat} {S : SW} {p : Pool} (hj0 : j ≠ 0) (hj3 : j ≠ 3) (hn : n ≤ sizeLine) (h0 : gt S 0 = some p.toW) (h3 : gt S 3 = some (.str others)) (hS : S[j]? = some none) :
    (lcR c [j] (.one j) .nil (.idx (.var 3) (.call "_law_take" (.cons (.var 0) (.cons (.int 37) .nil)))) (rngW 0 n) S).sat fun ys S' => ∃ (row : List Sgn) (q : Pool), ys = rowW row ∧ row.length = n ∧ S' = S.set 0 (some q.toW) := by
  have hl : 3 < S.length := by
    refine Nat.lt_of_not_le fun z => ?_
    unfold gt at h3
    rw [List.getElem?_eq_none z] at h3; cases h3
  have hS0 : S = S.set 0 (some p.toW) := by
    apply List.ext_getElem?
    intro i
    rw [List.getElem?_set]
    split
    · rename_i e; subst e
      unfold gt at h0
      cases q : S[0]? with
      | none => rw [List.getElem?_eq_none_iff] at q; omega
      | some x =>
        rw [q] at h0
        have h0 : x = some p.toW := h0
        rw [h0, if_pos (by omega)]
    · rfl
  refine sat_imp (lcR_rng (I := fun i acc S' => ∃ (row : List Sgn) (q : Pool), acc = rowW row ∧ row.length = i ∧ S' = S.set 0 (some q.toW)) hn ⟨[], p, rfl, rfl, hS0⟩ ?_) fun a S h => h
  rintro i acc _ hi ⟨row, q, rfl, hr, rfl⟩
  obtain ⟨d, q2, e, hd⟩ := hT q 37 (by omega) (by omega)
  obtain ⟨s, hs⟩ := sgn_of (z := others) (n := 37) ho (by decide) hok hd
  have g1 : ∀ x : Option W, gt ((S.set 0 (some q.toW)).set j x) 0 = some q.toW := fun x => by rw [gt_ne hj0, gt_eq (by omega)]
  have g3 : ∀ x : Option W, gt ((S.set 0 (some q.toW)).set j x) 3 = some (.str others) := fun x => by rw [gt_ne hj3, gt_ne (by omega), h3]
  have g4 : ∀ (x y : Option W), gt ((((S.set 0 (some q.toW)).set j x)).set 0 y) 3 = some (.str others) := fun x y => by rw [gt_ne (by omega), gt_ne hj3, gt_ne (by omega), h3]
  have hz : ∀ x : Option W, ((((S.set 0 (some q.toW)).set j x).set 0 (some q2.toW)).set j none) = S.set 0 (some q2.toW) := fun x => by
    have e1 : ((S.set 0 (some q.toW)).set j x).set 0 (some q2.toW) = (S.set 0 (some q2.toW)).set j x := by rw [List.set_comm _ _ hj0, List.set_set]
    rw [e1, set_none]
    rw [List.getElem?_set_ne (by omega)]; exact hS
  refine ⟨some (.str s.1), S.set 0 (some q2.toW), ?_, row ++ [s], q2, by simp [rowW], by simp [hr], rfl⟩
  unfold turnR
  simp [g1, g3, g4, hz, e, hs, Pool.np]
/-! ### the def -/
def lettersS : Str := Str.ofString "abcdefghijklmnopqrstuvwxyz"
def othersS : Str := Str.ofString "abcdefghijklmnopqrstuvwxyz0123456789_"
def barred : List Str := [Str.ofString "get", Str.ofString "set", Str.ofString "plus", Str.ofString "minus", Str.ofString "new", Str.ofString "read", Str.ofString "write", Str.ofString "put"]
theorem letter_of {d : Nat} (hd : (d : Int) < 26) : ∃ s : Sgn, idxW (.str (Str.ofString "abcdefghijklmnopqrstuvwxyz")) (.int d) = some (.str s.1) := sgn_of (n := 26) (by decide +kernel) (by decide) (by decide +kernel) hd
def wSt (n size at_ alike : Nat) (row : List Sgn) (q : Pool) (ws : List Wrd) (r10 r11 r12 r13 r14 : Option W) : SW :=
  [some q.toW, some (.int n), some (.str (Str.ofString "abcdefghijklmnopqrstuvwxyz")), some (.str (Str.ofString "abcdefghijklmnopqrstuvwxyz0123456789_")), some (.tup (barred.map W.str)), some (.int size), some (.int at_), some (.int alike), some (.lst (rowW row)), some (.lst (wsW ws)), r10, r11, r12, r13, r14]
theorem b_row {s : Sgn} {row : List Sgn} (h : row.length ≤ 100) : binW .add (.lst [.str s.1]) (.lst (rowW row)) = some (.lst (rowW (s :: row))) := by
  rw [b_lsts rfl rowW_p (by
    have := line_big
    simp [rowW]; omega)]
  rfl
theorem put_row {row : List Sgn} {a : Int} (h0 : 0 ≤ a) (h1 : a < row.length) (s : Sgn) : ∃ row' : List Sgn, row'.length = row.length ∧ putR (some (.lst (rowW row))) (.int a) (.str s.1) = some (.lst (rowW row')) := by
  obtain ⟨k, rfl⟩ : ∃ k : Nat, a = k := ⟨a.toNat, by omega⟩
  refine ⟨row.set k s, by simp, ?_⟩
  rw [put_lst, ixN_nat (by rw [rowW_len]; omega)]
  simp [rowW, List.map_set]
theorem strs_row {row : List Sgn} : strsW (rowW row) = some (row.map (·.1)) := by
  induction row with
  | nil => rfl
  | cons s r ih => simp only [rowW, List.map_cons, strsW] at ih ⊢; rw [ih]; rfl
theorem join_row {row : List Sgn} (h : row.length ≤ 100) : joinW "" (.lst (rowW row)) = some (.str (Txt.join "" (row.map (·.1)))) := by
  unfold joinW
  simp only [seqW, Option.bind, strs_row]
  have e : ((row.map (·.1)).map (·.length)).sum = row.length := by
    induction row with
    | nil => rfl
    | cons s r ih => simp only [List.map_cons, List.sum_cons, ih (by simp at h; omega), s.2.1, List.length_cons]; omega
  rw [if_pos]
  rw [e, List.length_map]
  show row.length + row.length * (Str.ofString "").length ≤ _
  rw [show (Str.ofString "").length = 0 by decide +kernel]
  omega
theorem in_strs {x : Str} {xs : List Str} : inW (.str x) (.lst (xs.map W.str)) = some (decide (x ∈ xs)) := by
  unfold inW
  simp only [dctW, seqW]
  rw [if_pos (by simp [flatW, List.all_map, Function.comp_def])]
  congr 1
  induction xs with
  | nil => rfl
  | cons y r ih =>
    have he : eqS (.str y) (.str x) = (y == x) := rfl
    simp only [List.map_cons, List.any_cons, ih, he, List.mem_cons]
    by_cases e : y = x
    · subst e; simp
    · have h' : ¬ x = y := fun z => e z.symm
      simp [e, h']
theorem in_tstrs {x : Str} {xs : List Str} : inW (.str x) (.tup (xs.map W.str)) = some (decide (x ∈ xs)) := in_strs (x := x) (xs := xs)
theorem wsW_eq {ws : List Wrd} : wsW ws = (ws.map (·.1)).map W.str := by simp [wsW]
/-- the words that are tried behind the first -/
def numS (i : Nat) : Str := Str.ofString (toString (i : Int))
theorem numS_tl {i : Nat} : TL.tl (numS i) = TL.numL i := TL.tl_num i
def candS (i k : Nat) : Str := Str.ofString "w" ++ numS i ++ Str.ofString "_" ++ numS k
theorem cand_tl {i k : Nat} : TL.tl (candS i k) = 119 :: (TL.numL i ++ 95 :: TL.numL k) := by
  unfold candS
  rw [TL.tl_append, TL.tl_append, TL.tl_append, numS_tl, numS_tl, show TL.tl (Str.ofString "w") = [119] by decide +kernel, show TL.tl (Str.ofString "_") = [95] by decide +kernel]
  simp
theorem cand_ok {i k : Nat} : PyData.strOk (candS i k) = true := by
  rw [strOk_tl, cand_tl]
  intro c hc
  simp only [List.mem_cons, List.mem_append] at hc
  rcases hc with rfl | hc | rfl | hc
  · decide
  · have := TL.numL_digits _ c hc; omega
  · decide
  · have := TL.numL_digits _ c hc; omega
theorem cut95 : ∀ {a b x y : List Nat}, 95 ∉ a → 95 ∉ b → a ++ 95 :: x = b ++ 95 :: y → a = b
  | [], [], _, _, _, _, _ => rfl
  | [], b :: bs, _, _, _, h, e => by simp at e; simp at h; omega
  | a :: as, [], _, _, h, _, e => by simp at e; simp at h; omega
  | a :: as, b :: bs, x, y, h1, h2, e => by
    simp only [List.cons_append, List.cons.injEq] at e
    rw [e.1, cut95 (fun z => h1 (List.mem_cons_of_mem _ z)) (fun z => h2 (List.mem_cons_of_mem _ z)) e.2]
theorem cand_inj {i j k : Nat} (h : candS i k = candS j k) : i = j := by
  have h := congrArg TL.tl h
  rw [cand_tl, cand_tl] at h
  simp only [List.cons.injEq, true_and] at h
  have := cut95 (TL.numL_free (by omega)) (TL.numL_free (by omega)) h
  rw [← TL.numL_val i, this, TL.numL_val]
theorem cand_bar {i k : Nat} : candS i k ∉ barred := by
  intro h
  have h2 : 95 ∈ TL.tl (candS i k) := by rw [cand_tl]; simp
  have : ∀ x ∈ barred, 95 ∉ TL.tl x := by decide +kernel
  exact this _ h h2
/-- a list without doubles is no longer than one that holds it -/
theorem nodup_le {α : Type} [DecidableEq α] : ∀ {xs ys : List α}, xs.Nodup → (∀ x ∈ xs, x ∈ ys) → xs.length ≤ ys.length
  | [], _, _, _ => Nat.zero_le _
  | x :: xs, ys, hn, h => by
    have hx : x ∈ ys := h x (by simp)
    have := nodup_le (ys := ys.erase x) (List.nodup_cons.mp hn).2 fun z hz => by
      refine (List.mem_erase_of_ne ?_).mpr (h z (List.mem_cons_of_mem _ hz))
      rintro rfl
      exact (List.nodup_cons.mp hn).1 hz
    rw [List.length_erase_of_mem hx] at this
    have : 0 < ys.length := List.length_pos_of_mem hx
    simp only [List.length_cons]; omega
theorem cand_str {i : Nat} (h : i ≤ 100) : b1W .str (.int (i : Int)) = some (.str (numS i)) := by
  have h1 : (i : Int).natAbs = i := by simp
  have h2 : Nat.log2 i ≤ i := Nat.log2_le_self i
  have h3 : (i : Int).natAbs.log2 < 1920 := by rw [h1]; omega
  show (if (i : Int).natAbs.log2 < 1920 then _ else _) = _
  rw [if_pos h3]; rfl
theorem num_len {i : Nat} (h : i ≤ 100) : (numS i).length ≤ 10 := by
  rw [TL.len_tl, numS_tl]
  revert h i
  decide +kernel
end OwnLaw

/-! dicts from words to values of one kind -/
namespace OwnLaw
open PySem L2 Own
abbrev En (α : Type) := List (Wrd × α)
section
variable {α : Type} {f : α → W} {e : En α} {x y : Wrd} {t : α}
def En.toW (f : α → W) (e : En α) : W := .dict (e.map fun p => .inr p.1.1) (e.map fun p => f p.2)
def En.get : En α → Wrd → Option α
  | [], _ => none | p :: r, x => if p.1 = x then some p.2 else En.get r x
def En.keys (e : En α) : List Wrd := e.map (·.1)
def En.put : En α → Wrd → α → En α
  | [], x, t => [(x, t)] | p :: r, x, t => if p.1 = x then (x, t) :: r else p :: En.put r x t
@[simp] theorem En.np : (En.toW f e).pure = false := (rfl)
@[simp] theorem En.ld : isLD (some (En.toW f e)) = true := (rfl)
theorem En.dgt_ : dgt (e.map fun p => .inr p.1.1) (e.map fun p => f p.2) (.inr x.1) = (En.get e x).map f := by
  induction e with
  | nil => rfl
  | cons p r ih =>
    simp only [List.map_cons, Own.dgt, En.get, Sum.inr.injEq, Subtype.ext_iff]
    split
    · rfl
    · exact ih
theorem En.ix : idxW (En.toW f e) (.str x.1) = (En.get e x).map f := En.dgt_
theorem En.keys_ks : (e.map fun p => (.inr p.1.1 : Key)) = (En.keys e).map fun x => .inr x.1 := by simp [En.keys]
theorem En.get_of (h : x ∈ En.keys e) : ∃ t, En.get e x = some t := by
  induction e with
  | nil => simp [En.keys] at h
  | cons p r ih =>
    simp only [En.get]
    split
    · exact ⟨_, rfl⟩
    · rename_i n
      simp only [En.keys, List.map_cons, List.mem_cons] at h
      exact ih (h.resolve_left fun z => n z.symm)
theorem En.mem_of (h : En.get e x = some t) : (x, t) ∈ e := by
  induction e with
  | nil => simp [En.get] at h
  | cons p r ih =>
    simp only [En.get] at h
    split at h
    · rename_i hp; cases h; subst hp; exact List.mem_cons_self
    · exact List.mem_cons_of_mem _ (ih h)
theorem En.put_keys : En.keys (En.put e x t) = if x ∈ En.keys e then En.keys e else En.keys e ++ [x] := by
  induction e with
  | nil => simp [En.put, En.keys]
  | cons p r ih =>
    simp only [En.put]
    by_cases h : p.1 = x
    · simp [h, En.keys]
    · have h' : ¬ x = p.1 := fun z => h z.symm
      rw [if_neg h]
      simp only [En.keys, List.map_cons, List.mem_cons, h', false_or] at ih ⊢
      rw [ih]
      split
      · rename_i h2; simp only [h2, if_true]
      · rename_i h2; simp only [h2, if_false, List.cons_append]
theorem En.put_mem {q : Wrd × α} (h : q ∈ En.put e x t) : q = (x, t) ∨ q ∈ e := by
  induction e with
  | nil => simp only [En.put, List.mem_singleton] at h; exact .inl h
  | cons p r ih =>
    simp only [En.put] at h
    split at h
    · rcases List.mem_cons.mp h with h | h
      · exact .inl h
      · exact .inr (List.mem_cons_of_mem _ h)
    · rcases List.mem_cons.mp h with h | h
      · exact .inr (h ▸ List.mem_cons_self)
      · exact (ih h).imp id (List.mem_cons_of_mem _)
theorem En.put_not : ∀ {e : En α}, x ∉ En.keys e → En.put e x t = e ++ [(x, t)]
  | [], _ => rfl
  | p :: r, h => by
    simp only [En.keys, List.map_cons, List.mem_cons, not_or] at h
    rw [En.put, if_neg fun z => h.1 z.symm, En.put_not h.2]; rfl
theorem En.dset_not {w : W} : ∀ {e : En α}, x ∉ En.keys e → Own.dset (e.map fun p => .inr p.1.1) (e.map fun p => f p.2) (.inr x.1) w = e.map fun p => f p.2
  | [], _ => rfl
  | p :: r, h => by
    simp only [En.keys, List.map_cons, List.mem_cons, not_or] at h
    have h1 : ¬ (Sum.inr p.1.1 : Key) = .inr x.1 := fun z => h.1 (Subtype.ext (Sum.inr.inj z)).symm
    simp only [List.map_cons, Own.dset, if_neg h1]
    rw [En.dset_not h.2]
theorem En.dset_in : ∀ {e : En α}, (En.keys e).Nodup → x ∈ En.keys e → Own.dset (e.map fun p => .inr p.1.1) (e.map fun p => f p.2) (.inr x.1) (f t) = (En.put e x t).map fun p => f p.2
  | [], _, h => by simp [En.keys] at h
  | p :: r, hn, h => by
    simp only [En.keys, List.map_cons, List.nodup_cons] at hn
    simp only [List.map_cons, Own.dset, En.put]
    by_cases hp : p.1 = x
    · subst hp
      rw [if_pos rfl, if_pos rfl, En.dset_not hn.1]; rfl
    · have h1 : ¬ (Sum.inr p.1.1 : Key) = .inr x.1 := fun z => hp (Subtype.ext (Sum.inr.inj z))
      simp only [En.keys, List.map_cons, List.mem_cons] at h
      rw [if_neg h1, if_neg hp, En.dset_in hn.2 (h.resolve_left fun z => hp z.symm)]; rfl
theorem En.putR_ (pp : ∀ a, (f a).pure = true) (hn : (En.keys e).Nodup) (h : e.length ≤ 100) : putR (some (En.toW f e)) (.str x.1) (f t) = some (En.toW f (En.put e x t)) := by
  have hp : pureL (e.map fun p => f p.2) = true := pl_map fun p => pp p.2
  have hl : e.length < sizeLine := by have := line_big; omega
  have hk : hasK (e.map fun p => .inr p.1.1) (.inr x.1) = decide (x ∈ En.keys e) := by
    rw [Bool.eq_iff_iff, hasK_iff, decide_eq_true_eq, En.keys_ks, List.mem_map]
    exact ⟨fun ⟨y, h1, h2⟩ => by rw [← Subtype.ext (Sum.inr.inj h2)]; exact h1, fun h => ⟨x, h, rfl⟩⟩
  unfold En.toW putR
  simp only [dkey, Option.bind, hp, pp, Bool.true_and, List.length_map, hl, decide_true, if_true, hk]
  by_cases hm : x ∈ En.keys e
  · have h2 := En.dset_in (t := t) (f := f) hn hm
    have h3 : (En.put e x t).map (fun p => (.inr p.1.1 : Key)) = e.map fun p => .inr p.1.1 := by rw [En.keys_ks, En.keys_ks, En.put_keys, if_pos hm]
    simp only [hm, decide_true, if_true, h2, h3]
  · simp only [hm, decide_false, Bool.false_eq_true, if_false, En.put_not hm, List.map_append, List.map_cons, List.map_nil]
end
end OwnLaw

/-! the values of law_k33 -/
namespace OwnLaw
open PySem L2 Own
mutual
inductive Tm where
  | int (n : Int) | name (x : Wrd) | addr (n : Int) | mta (x : Wrd) | map (es : Te) | node (c : Wrd) (ts : Tl)
inductive Tl where | nil | cons (t : Tm) (r : Tl)
inductive Te where | nil | cons (x : Wrd) (t : Tm) (r : Te)
end
mutual
inductive Sy where
  | sum (ps : List (Int × Int)) (n : Int) | name (x : Wrd) | addr (n : Int) | unk (n : Int) | map (es : Se) | node (c : Wrd) (ts : Sl)
inductive Sl where | nil | cons (t : Sy) (r : Sl)
inductive Se where | nil | cons (x : Wrd) (t : Sy) (r : Se)
end
def Tl.toL : Tl → List Tm | .nil => [] | .cons t r => t :: r.toL
def Te.toL : Te → List (Wrd × Tm) | .nil => [] | .cons x t r => (x, t) :: r.toL
def Sl.toL : Sl → List Sy | .nil => [] | .cons t r => t :: r.toL
def Se.toL : Se → List (Wrd × Sy) | .nil => [] | .cons x t r => (x, t) :: r.toL
def ppW (p : Int × Int) : W := .tup [.int p.1, .int p.2]
mutual
def Tm.toW : Tm → W
  | .int n => .tup [.str "int", .int n] | .name x => .tup [.str "name", .str x.1] | .addr n => .tup [.str "addr", .int n] | .mta x => .tup [.str "meta", .str x.1]
  | .map es => .tup [.str "map", .tup es.toWs] | .node c ts => .tup [.str "node", .str c.1, .tup ts.toWs]
def Tl.toWs : Tl → List W | .nil => [] | .cons t r => t.toW :: r.toWs
def Te.toWs : Te → List W | .nil => [] | .cons x t r => .tup [.str x.1, t.toW] :: r.toWs
end
mutual
def Sy.toW : Sy → W
  | .sum ps n => .tup [.str "sum", .tup (ps.map ppW), .int n] | .name x => .tup [.str "name", .str x.1] | .addr n => .tup [.str "addr", .int n] | .unk n => .tup [.str "unknown", .int n]
  | .map es => .tup [.str "map", .non, .tup es.toWs] | .node c ts => .tup [.str "node", .str c.1, .tup ts.toWs]
def Sl.toWs : Sl → List W | .nil => [] | .cons t r => t.toW :: r.toWs
def Se.toWs : Se → List W | .nil => [] | .cons x t r => .tup [.tup [.str "name", .str x.1], t.toW] :: r.toWs
end
def teW (p : Wrd × Tm) : W := .tup [.str p.1.1, p.2.toW]
def seW (p : Wrd × Sy) : W := .tup [.tup [.str "name", .str p.1.1], p.2.toW]
theorem Tl.ws : ∀ r : Tl, r.toWs = r.toL.map Tm.toW | .nil => rfl | .cons t r => by rw [Tl.toWs, Tl.toL, Tl.ws r]; rfl
theorem Te.ws : ∀ r : Te, r.toWs = r.toL.map teW | .nil => rfl | .cons x t r => by rw [Te.toWs, Te.toL, Te.ws r]; rfl
theorem Sl.ws : ∀ r : Sl, r.toWs = r.toL.map Sy.toW | .nil => rfl | .cons t r => by rw [Sl.toWs, Sl.toL, Sl.ws r]; rfl
theorem Se.ws : ∀ r : Se, r.toWs = r.toL.map seW | .nil => rfl | .cons x t r => by rw [Se.toWs, Se.toL, Se.ws r]; rfl
section
variable {n : Int} {x : Wrd} {es : Te} {ts : Tl} {ss : Sl} {se : Se} {ps : List (Int × Int)}
@[simp] theorem Tm.w_int : (Tm.int n).toW = .tup [.str (Str.ofString "int"), .int n] := by unfold Tm.toW; rfl
@[simp] theorem Tm.w_name : (Tm.name x).toW = .tup [.str (Str.ofString "name"), .str x.1] := by unfold Tm.toW; rfl
@[simp] theorem Tm.w_addr : (Tm.addr n).toW = .tup [.str (Str.ofString "addr"), .int n] := by unfold Tm.toW; rfl
@[simp] theorem Tm.w_mta : (Tm.mta x).toW = .tup [.str (Str.ofString "meta"), .str x.1] := by unfold Tm.toW; rfl
@[simp] theorem Tm.w_map : (Tm.map es).toW = .tup [.str (Str.ofString "map"), .tup (es.toL.map teW)] := by unfold Tm.toW; rw [Te.ws]
@[simp] theorem Tm.w_node : (Tm.node x ts).toW = .tup [.str (Str.ofString "node"), .str x.1, .tup (ts.toL.map Tm.toW)] := by unfold Tm.toW; rw [Tl.ws]
@[simp] theorem Sy.w_sum : (Sy.sum ps n).toW = .tup [.str (Str.ofString "sum"), .tup (ps.map ppW), .int n] := by unfold Sy.toW; rfl
@[simp] theorem Sy.w_name : (Sy.name x).toW = .tup [.str (Str.ofString "name"), .str x.1] := by unfold Sy.toW; rfl
@[simp] theorem Sy.w_addr : (Sy.addr n).toW = .tup [.str (Str.ofString "addr"), .int n] := by unfold Sy.toW; rfl
@[simp] theorem Sy.w_unk : (Sy.unk n).toW = .tup [.str (Str.ofString "unknown"), .int n] := by unfold Sy.toW; rfl
@[simp] theorem Sy.w_map : (Sy.map se).toW = .tup [.str (Str.ofString "map"), .non, .tup (se.toL.map seW)] := by unfold Sy.toW; rw [Se.ws]
@[simp] theorem Sy.w_node : (Sy.node x ss).toW = .tup [.str (Str.ofString "node"), .str x.1, .tup (ss.toL.map Sy.toW)] := by unfold Sy.toW; rw [Sl.ws]
end
@[simp] theorem pl_pps {ps : List (Int × Int)} : pureL (ps.map ppW) = true := pl_map fun _ => rfl
mutual
theorem Tm.pp0 : ∀ t : Tm, t.toW.pure = true
  | .int n => by simp | .name x => by simp | .addr n => by simp | .mta x => by simp
  | .map es => by unfold Tm.toW; simp [Te.pps es]
  | .node c ts => by unfold Tm.toW; simp [Tl.pps ts]
theorem Tl.pps : ∀ t : Tl, pureL t.toWs = true | .nil => rfl | .cons t r => by unfold Tl.toWs; simp [Tm.pp0 t, Tl.pps r]
theorem Te.pps : ∀ t : Te, pureL t.toWs = true | .nil => rfl | .cons x t r => by unfold Te.toWs; simp [Tm.pp0 t, Te.pps r]
end
mutual
theorem Sy.pp0 : ∀ t : Sy, t.toW.pure = true
  | .sum ps n => by simp | .name x => by simp | .addr n => by simp | .unk x => by simp
  | .map es => by unfold Sy.toW; simp [Se.pps es]
  | .node c ts => by unfold Sy.toW; simp [Sl.pps ts]
theorem Sl.pps : ∀ t : Sl, pureL t.toWs = true | .nil => rfl | .cons t r => by unfold Sl.toWs; simp [Sy.pp0 t, Sl.pps r]
theorem Se.pps : ∀ t : Se, pureL t.toWs = true | .nil => rfl | .cons x t r => by unfold Se.toWs; simp [Sy.pp0 t, Se.pps r]
end
@[simp] theorem Tm.pp (t : Tm) : t.toW.pure = true := Tm.pp0 t
@[simp] theorem Sy.pp (t : Sy) : t.toW.pure = true := Sy.pp0 t
@[simp] theorem teW_pp (p : Wrd × Tm) : (teW p).pure = true := by simp [teW]
@[simp] theorem seW_pp (p : Wrd × Sy) : (seW p).pure = true := by simp [seW]
@[simp] theorem pl_tms {l : List Tm} : pureL (l.map Tm.toW) = true := pl_map Tm.pp
@[simp] theorem pl_tes {l : List (Wrd × Tm)} : pureL (l.map teW) = true := pl_map teW_pp
@[simp] theorem pl_sys {l : List Sy} : pureL (l.map Sy.toW) = true := pl_map Sy.pp
@[simp] theorem pl_ses {l : List (Wrd × Sy)} : pureL (l.map seW) = true := pl_map seW_pp
/-! what the law makes of a term -/
abbrev Tbl := En Sy
def tblAt (e : Tbl) (x : Wrd) : Sy := (En.get e x).getD (.addr 0)
mutual
def Tm.sy (e : Tbl) : Tm → Sy
  | .int n => .sum [] n | .name x => .name x | .addr n => .addr n | .mta x => tblAt e x | .map es => .map (es.sy e) | .node c ts => .node c (ts.sy e)
def Tl.sy (e : Tbl) : Tl → Sl | .nil => .nil | .cons t r => .cons (t.sy e) (r.sy e)
def Te.sy (e : Tbl) : Te → Se | .nil => .nil | .cons x t r => .cons x (t.sy e) (r.sy e)
end
theorem Tl.sy_toL (e : Tbl) : ∀ r : Tl, (r.sy e).toL = r.toL.map (Tm.sy e) | .nil => rfl | .cons t r => by rw [Tl.sy, Sl.toL, Tl.toL, Tl.sy_toL e r]; rfl
theorem Te.sy_toL (e : Tbl) : ∀ r : Te, (r.sy e).toL = r.toL.map fun p => (p.1, p.2.sy e) | .nil => rfl | .cons x t r => by rw [Te.sy, Se.toL, Te.toL, Te.sy_toL e r]; rfl
/-! how deep, how large; whose metavariables are bound; no node, no map with too many parts -/
mutual
def Tm.ok (ks : List Wrd) : Nat → Tm → Prop
  | _, .int _ => True | _, .name _ => True | _, .addr _ => True | _, .mta x => x ∈ ks
  | 0, .map _ => False | 0, .node _ _ => False
  | d + 1, .map es => es.toL.length ≤ 10 ∧ es.ok ks d | d + 1, .node _ ts => ts.toL.length ≤ 3 ∧ ts.ok ks d
def Tl.ok (ks : List Wrd) : Nat → Tl → Prop | _, .nil => True | d, .cons t r => t.ok ks d ∧ r.ok ks d
def Te.ok (ks : List Wrd) : Nat → Te → Prop | _, .nil => True | d, .cons _ t r => t.ok ks d ∧ r.ok ks d
end
theorem Tl.ok_iff {ks : List Wrd} {d : Nat} : ∀ r : Tl, r.ok ks d ↔ ∀ t ∈ r.toL, t.ok ks d
  | .nil => by simp [Tl.ok, Tl.toL] | .cons t r => by simp [Tl.ok, Tl.toL, Tl.ok_iff r]
theorem Te.ok_iff {ks : List Wrd} {d : Nat} : ∀ r : Te, r.ok ks d ↔ ∀ p ∈ r.toL, p.2.ok ks d
  | .nil => by simp [Te.ok, Te.toL] | .cons x t r => by simp [Te.ok, Te.toL, Te.ok_iff r]
end OwnLaw

/-! what law_k33 draws -/
namespace OwnLaw
open PySem L2 Own
def WholeOk (c : Fn) : Prop := ∀ p : Pool, (c.call "_law_whole" [p.toW]).sat fun w ws => ∃ (v : Int) (q : Pool), w = .int v ∧ ws = [q.toW]
def SumOk (c : Fn) : Prop := ∀ p : Pool, (c.call "_law_sum" [p.toW]).sat fun w ws => ∃ (ps : List (Int × Int)) (n : Int) (q : Pool), w = (Sy.sum ps n).toW ∧ ps.length ≤ 3 ∧ (∀ p ∈ ps, 0 ≤ p.1 ∧ p.1 < 41) ∧ ws = [q.toW]
/-- what a metavariable may stand for -/
def Sy.plain : Sy → Prop
  | .sum ps _ => ps.length ≤ 3 ∧ ∀ p ∈ ps, 0 ≤ p.1 ∧ p.1 < 41 | .name _ => True | .addr _ => True | .unk n => 0 ≤ n ∧ n < 41 | .map _ => False | .node _ _ => False
def GivenOk (c : Fn) : Prop := ∀ p : Pool, (c.call "_law_given" [p.toW]).sat fun w ws => ∃ (s : Sy) (q : Pool), w = s.toW ∧ s.plain ∧ ws = [q.toW]
def TermOk (d : Nat) (c : Fn) : Prop := ∀ (p : Pool) (ks : List Wrd), ks ≠ [] → ks.length ≤ 60 → (c.call "_law_term" [p.toW, .lst (wsW ks), .int d]).sat fun w ws => ∃ (t : Tm) (q : Pool), w = t.toW ∧ t.ok ks d ∧ ws = [q.toW, .lst (wsW ks), .int d]
theorem whole_run {c : Fn} (hT : TakeOk c) (p : Pool) : (Own.run c fi__law_whole [p.toW]).sat fun w ws => ∃ (v : Int) (q : Pool), w = .int v ∧ ws = [q.toW] := by
  obtain ⟨d, q, e, h⟩ := hT p 3 (by omega) (by omega)
  refine run_to (by rfl) (by simp [fi__law_whole, Sb.asn, Sm.asn, Tg.slots, Pool.np]) fun P hP _ => ?_
  by_cases hd : d = 0
  · obtain ⟨d1, q1, e1, h1⟩ := hT q 2000001 (by omega) (by omega)
    simp [fi__law_whole, Pool.np, e, hd, e1]
    exact hP _ _ _ rfl ⟨_, _, rfl, rfl⟩
  · obtain ⟨d1, q1, e1, h1⟩ := hT q 9 (by omega) (by omega)
    simp [fi__law_whole, Pool.np, e, hd, e1]
    exact hP _ _ _ rfl ⟨_, _, rfl, rfl⟩
theorem sum_run {c : Fn} (hT : TakeOk c) (hW : WholeOk c) (p : Pool) : (Own.run c fi__law_sum [p.toW]).sat fun w ws => ∃ (ps : List (Int × Int)) (n : Int) (q : Pool), w = (Sy.sum ps n).toW ∧ ps.length ≤ 3 ∧ (∀ p ∈ ps, 0 ≤ p.1 ∧ p.1 < 41) ∧ ws = [q.toW] := by
  obtain ⟨d, q, e, h⟩ := hT p 4 (by omega) (by omega)
  have s1 : small62 (d : Int) = true := small_of (by omega) (by omega)
  refine run_to (by rfl) (by simp [fi__law_sum, Sb.asn, Sm.asn, Tg.slots, Pool.np]) fun P hP _ => ?_
  simp [fi__law_sum, Pool.np, e, s1]
  refine sat_nx (P := fun S => ∃ (q : Pool) (ps : List (Int × Int)) (r2 r3 : Option W), S = [some q.toW, some (.lst (ps.map ppW)), r2, r3] ∧ ps.length ≤ 3 ∧ ∀ p ∈ ps, 0 ≤ p.1 ∧ p.1 < 41)
    (foR_rngP (n := d) (fun i S => ∃ (q : Pool) (ps : List (Int × Int)) (r2 r3 : Option W), S = [some q.toW, some (.lst (ps.map ppW)), r2, r3] ∧ ps.length ≤ i ∧ ∀ p ∈ ps, 0 ≤ p.1 ∧ p.1 < 41) ⟨q, [], none, none, rfl, by simp, by simp⟩ ?_ ?_) ?_
  · rintro i S P' hi ⟨q, ps, r2, r3, rfl, hl, hps⟩ hn - - -
    refine ⟨_, rfl, ?_⟩
    obtain ⟨d1, q1, e1, h1⟩ := hT q 7 (by omega) (by omega)
    obtain ⟨d2, q2, e2, h2⟩ := hT q1 10 (by omega) (by omega)
    have m1 : binW .mul (.int 10) (.int i) = some (.int (10 * i)) := b_mul (mulOk_l _ _ (by decide))
    have hl2 : ps.length < 1000 := by omega
    by_cases hd : (d1 : Int) - 3 = 0
    · simp [Pool.np, e1, hd]
      exact hn _ ⟨q1, ps, _, _, rfl, by omega, hps⟩
    · simp [Pool.np, e1, hd, m1, e2, hl2]
      exact hn _ ⟨q2, ps ++ [((10 * i + d2 : Int), (d1 - 3 : Int))], some (.int i), some (.int ((d1 : Int) - 3)), by simp [ppW], by simp; omega, by
        intro p hp
        rcases List.mem_append.mp hp with hp | hp
        · exact hps p hp
        · simp at hp; subst hp; simp only; omega⟩
  · rintro S ⟨q, ps, r2, r3, rfl, hl, hps⟩
    exact ⟨rfl, q, ps, r2, r3, rfl, by omega, hps⟩
  · rintro S ⟨q, ps, r2, r3, rfl, hl, hps⟩
    obtain ⟨_, _, e1, v, q1, rfl, rfl⟩ := hW q
    simp [Pool.np, e1, b_tuple pl_pps]
    exact hP _ _ _ rfl ⟨ps, v, q1, by simp, hl, hps, rfl⟩
theorem app_len {a b : Str} : (a ++ b).length = a.length + b.length := by rw [TL.len_tl, TL.len_tl, TL.len_tl, TL.tl_append, List.length_append]
theorem numS_ok {i : Nat} : PyData.strOk (numS i) = true := strOk_ofString _
/-- a sign and a number -/
theorem sign_num {x : String} {i : Nat} (h : i ≤ 100) (hx : (Str.ofString x).length ≤ 10) : ∃ w : Wrd, binW .add (.str (Str.ofString x)) (.str (numS i)) = some (.str w.1) :=
  ⟨⟨Str.ofString x ++ numS i, by rw [strOk_append, strOk_ofString, numS_ok]; rfl⟩, b_strs (by have := num_len (i := i) h; have := line_big; omega)⟩
theorem given_run {c : Fn} (hT : TakeOk c) (hS : SumOk c) (p : Pool) : (Own.run c fi__law_given [p.toW]).sat fun w ws => ∃ (s : Sy) (q : Pool), w = s.toW ∧ s.plain ∧ ws = [q.toW] := by
  obtain ⟨d, q, e, h⟩ := hT p 4 (by omega) (by omega)
  refine run_to (by rfl) (by simp [fi__law_given, Sb.asn, Sm.asn, Tg.slots, Pool.np]) fun P hP _ => ?_
  have : d = 0 ∨ d = 1 ∨ d = 2 ∨ d = 3 := by omega
  rcases this with rfl | rfl | rfl | rfl
  · obtain ⟨_, _, e1, ps, n, q1, rfl, h1, h2, rfl⟩ := hS q
    simp at e1
    simp [fi__law_given, Pool.np, e, e1]
    exact hP _ _ _ rfl ⟨.sum ps n, q1, by simp, ⟨h1, h2⟩, rfl⟩
  · obtain ⟨d1, q1, e1, h1⟩ := hT q 30 (by omega) (by omega)
    obtain ⟨w, hw⟩ := sign_num (x := "n") (i := d1) (by omega) (by decide +kernel)
    simp [fi__law_given, Pool.np, e, e1, cand_str (i := d1) (by omega), hw]
    exact hP _ _ _ rfl ⟨.name w, q1, by simp, True.intro, rfl⟩
  · obtain ⟨d1, q1, e1, h1⟩ := hT q 50 (by omega) (by omega)
    simp [fi__law_given, Pool.np, e, e1]
    exact hP _ _ _ rfl ⟨.addr d1, q1, by simp, True.intro, rfl⟩
  · obtain ⟨d1, q1, e1, h1⟩ := hT q 41 (by omega) (by omega)
    simp [fi__law_given, Pool.np, e, e1]
    exact hP _ _ _ rfl ⟨.unk d1, q1, by simp, ⟨by omega, by omega⟩, rfl⟩
theorem nameS_lc {c : Fn} (hT : TakeOk c) {S : SW} {p : Pool} (h0 : gt S 0 = some p.toW) (h6 : S[6]? = some none) :
    (lcR c [6] (.one 6) (.cons (.cmp .eq (.call "_law_take" (.cons (.var 0) (.cons (.int 4) .nil))) (.int 0)) .nil) (.bin .add (.str "a") (.b1 .str (.var 6))) (rngW 0 10) S).sat fun ys S' => ∃ (l : List Wrd) (q : Pool), ys = wsW l ∧ l.length ≤ 10 ∧ S' = S.set 0 (some q.toW) := by
  have hl : 6 < S.length := (List.getElem?_eq_some_iff.mp h6).1
  have hS0 : S = S.set 0 (some p.toW) := by
    apply List.ext_getElem?
    intro i
    rw [List.getElem?_set]
    split
    · rename_i e; subst e
      unfold gt at h0
      cases q : S[0]? with
      | none => rw [List.getElem?_eq_none_iff] at q; omega
      | some x =>
        rw [q] at h0
        have h0 : x = some p.toW := h0
        rw [h0, if_pos (by omega)]
    · rfl
  refine sat_imp (lcR_rng (n := 10) (I := fun i acc S' => ∃ (l : List Wrd) (q : Pool), acc = wsW l ∧ l.length ≤ i ∧ S' = S.set 0 (some q.toW)) (by decide) ⟨[], p, rfl, by simp, hS0⟩ ?_) fun a S h => h
  rintro i acc _ hi ⟨l, q, rfl, hr, rfl⟩
  obtain ⟨d, q2, e, hd⟩ := hT q 4 (by omega) (by omega)
  obtain ⟨w, hw⟩ := sign_num (x := "a") (i := i) (by omega) (by decide +kernel)
  have g1 : ∀ x : Option W, gt ((S.set 0 (some q.toW)).set 6 x) 0 = some q.toW := fun x => by rw [gt_ne (by decide), gt_eq (by omega)]
  have g2 : ∀ (x y : Option W), gt (((S.set 0 (some q.toW)).set 6 x).set 0 y) 6 = x := fun x y => by rw [gt_ne (by decide), gt_eq (by simpa using hl)]
  have hz : ∀ x : Option W, ((((S.set 0 (some q.toW)).set 6 x).set 0 (some q2.toW)).set 6 none) = S.set 0 (some q2.toW) := fun x => by
    have e1 : ((S.set 0 (some q.toW)).set 6 x).set 0 (some q2.toW) = (S.set 0 (some q2.toW)).set 6 x := by rw [List.set_comm _ _ (show (6 : Nat) ≠ 0 by decide), List.set_set]
    rw [e1, set_none]
    rw [List.getElem?_set_ne (by omega)]; exact h6
  by_cases hd0 : d = 0
  · refine ⟨some (.str w.1), S.set 0 (some q2.toW), ?_, l ++ [w], q2, by simp [wsW], by simp; omega, rfl⟩
    simp [turnR_eq, g1, g2, hz, e, hd0, Pool.np, cand_str (i := i) (by omega), hw]
  · refine ⟨none, S.set 0 (some q2.toW), ?_, l, q2, by simp, by omega, rfl⟩
    simp [turnR_eq, g1, g2, hz, e, hd0, Pool.np]
theorem tl_of : ∀ l : List Tm, ∃ r : Tl, r.toL = l
  | [] => ⟨.nil, rfl⟩ | t :: l => by obtain ⟨r, e⟩ := tl_of l; exact ⟨.cons t r, by rw [Tl.toL, e]⟩
theorem te_of : ∀ l : List (Wrd × Tm), ∃ r : Te, r.toL = l
  | [] => ⟨.nil, rfl⟩ | (x, t) :: l => by obtain ⟨r, e⟩ := te_of l; exact ⟨.cons x t r, by rw [Te.toL, e]⟩
theorem ws_at {ns : List Wrd} {d : Nat} (h : (d : Int) < ns.length) : ∃ x : Wrd, (wsW ns)[d]? = some (.str x.1) ∧ x ∈ ns := by
  have h : d < ns.length := by omega
  exact ⟨ns[d], by simp [wsW, h], List.getElem_mem h⟩
theorem strs_ws {ns : List Wrd} : strsW (wsW ns) = some (ns.map (·.1)) := by
  induction ns with
  | nil => rfl
  | cons s r ih => simp only [wsW, List.map_cons, strsW] at ih ⊢; rw [ih]; rfl
theorem wrds_of : ∀ {l : List Str}, (∀ x ∈ l, PyData.strOk x = true) → ∃ l' : List Wrd, l'.map (·.1) = l
  | [], _ => ⟨[], rfl⟩
  | x :: l, h => by
    obtain ⟨l', e⟩ := wrds_of fun z hz => h z (List.mem_cons_of_mem _ hz)
    exact ⟨⟨x, h x (by simp)⟩ :: l', by simp [e]⟩
theorem sort_lst {l : List Wrd} (h : l.length ≤ 60) : ∃ l' : List Wrd, b1W .sorted (.lst (wsW l)) = some (.lst (wsW l')) ∧ l'.length = l.length := by
  cases l with
  | nil => exact ⟨[], rfl, rfl⟩
  | cons x r =>
    have hp := sortS_perm ((x :: r).map (·.1))
    obtain ⟨l', e⟩ := wrds_of (l := sortS ((x :: r).map (·.1))) fun y hy => by
      obtain ⟨z, _, rfl⟩ := List.mem_map.mp (hp.mem_iff.mp hy)
      exact z.2
    refine ⟨l', ?_, ?_⟩
    · simp only [b1W]
      unfold sortW
      simp only [dctW, lstW, Option.bind]
      have hi : intsW (wsW (x :: r)) = none := rfl
      rw [hi, if_pos (by rw [wsW_len]; omega), strs_ws]
      rw [Option.map_some, ← e]
      simp [wsW]
    · have := congrArg List.length e
      rw [List.length_map] at this
      rw [this, hp.length_eq, List.length_map]
theorem term_run {c : Fn} {d : Nat} (hT : TakeOk c) (hW : WholeOk c) (hR : ∀ d', d = d' + 1 → TermOk d' c) (p : Pool) (ks : List Wrd) (k0 : ks ≠ []) (k1 : ks.length ≤ 60) :
    (Own.run c fi__law_term [p.toW, .lst (wsW ks), .int d]).sat fun w ws => ∃ (t : Tm) (q : Pool), w = t.toW ∧ t.ok ks d ∧ ws = [q.toW, .lst (wsW ks), .int d] := by
  obtain ⟨a, q, e, h⟩ := hT p 8 (by omega) (by omega)
  refine run_to (by rfl) (by simp [fi__law_term, Sb.asn, Sm.asn, Tg.slots, Pool.np]) fun P hP _ => ?_
  by_cases h1 : (a : Int) < 2 ∨ (d : Int) < 1
  · obtain ⟨_, _, e1, v, q1, rfl, rfl⟩ := hW q
    obtain ⟨b, q2, e2, h2⟩ := hT q1 9 (by omega) (by omega)
    obtain ⟨w, hw⟩ := sign_num (x := "k") (i := b) (by omega) (by decide +kernel)
    obtain ⟨b3, q3, e3, h3⟩ := hT q2 2 (by omega) (by omega)
    have cs := cand_str (i := b) (by omega)
    have fin : ∀ (t : Tm), t.ok ks d → (∀ S : SW, gt S 0 = some q3.toW → gt S 1 = some (.lst (wsW ks)) → P (.rt t.toW) S) := fun t ht S g0 g1 =>
      hP _ _ [q3.toW, .lst (wsW ks), .int d] (by simp [Pool.np, g0, g1]) ⟨t, q3, rfl, ht, rfl⟩
    have : b3 = 0 ∨ b3 = 1 := by omega
    by_cases h1a : (a : Int) < 2
    · rcases this with rfl | rfl
      · simp [fi__law_term, Pool.np, e, h1a, e1, e2, cs, hw, e3]
        have := fin (.int v) (by cases d <;> simp [Tm.ok])
        simp at this
        exact this _ rfl rfl
      · simp [fi__law_term, Pool.np, e, h1a, e1, e2, cs, hw, e3]
        have := fin (.name w) (by cases d <;> simp [Tm.ok])
        simp at this
        exact this _ rfl rfl
    · have h1b : (d : Int) < 1 := h1.resolve_left h1a
      rcases this with rfl | rfl
      · simp [fi__law_term, Pool.np, e, h1a, h1b, e1, e2, cs, hw, e3]
        have := fin (.int v) (by cases d <;> simp [Tm.ok])
        simp at this
        exact this _ rfl rfl
      · simp [fi__law_term, Pool.np, e, h1a, h1b, e1, e2, cs, hw, e3]
        have := fin (.name w) (by cases d <;> simp [Tm.ok])
        simp at this
        exact this _ rfl rfl
  · obtain ⟨d', rfl⟩ : ∃ d', d = d' + 1 := ⟨d - 1, by omega⟩
    have hR := hR d' rfl
    have h1a : ¬ (a : Int) < 2 := fun z => h1 (.inl z)
    have h1b : ¬ ((d' : Int) + 1) < 1 := by omega
    have h1c : ¬ (d' : Int) < 0 := by omega
    have fin : ∀ (t : Tm) (q3 : Pool), t.ok ks (d' + 1) → (∀ S : SW, gt S 0 = some q3.toW → gt S 1 = some (.lst (wsW ks)) → P (.rt t.toW) S) := fun t q3 ht S g0 g1 =>
      hP _ _ [q3.toW, .lst (wsW ks), .int (d' + 1 : Nat)] (by simp [Pool.np, g0, g1]) ⟨t, q3, rfl, ht, rfl⟩
    have hk0 : 0 < ks.length := List.length_pos_iff.mpr k0
    have ha : a = 2 ∨ a = 3 ∨ a = 4 ∨ a = 5 ∨ 5 < a := by omega
    have mt : ∀ b : Nat, b = a → (b : Int) < 5 → ¬ (b : Int) = 2 → (exb c fi__law_term.body (start0 fi__law_term [p.toW, .lst (wsW ks), .int (d' + 1 : Nat)])).sat P := fun b hb hb5 hb2 => by
      subst hb
      obtain ⟨b1, q1, e1, g1⟩ := hT q ks.length (by omega) (by omega)
      obtain ⟨x, hx, hm⟩ := ws_at g1
      simp [fi__law_term, Pool.np, e, h1a, h1b, h1c, hb5, hb2, wsW_len, e1, hx]
      have := fin (.mta x) q1 (by simp [Tm.ok, hm])
      simp at this
      exact this _ rfl rfl
    rcases ha with rfl | rfl | rfl | rfl | ha
    · obtain ⟨b1, q1, e1, g1⟩ := hT q 12 (by omega) (by omega)
      simp [fi__law_term, Pool.np, e, h1b, h1c, e1]
      have := fin (.addr b1) q1 (by simp [Tm.ok])
      simp at this
      exact this _ rfl rfl
    · exact mt 3 rfl (by omega) (by omega)
    · exact mt 4 rfl (by omega) (by omega)
    · -- a map
      obtain ⟨ys, _, e1, l, q1, rfl, hl, rfl⟩ := nameS_lc hT (S := [some q.toW, some (.lst (wsW ks)), some (.int ((d' : Int) + 1)), some (.int 5), none, none, none, none]) (p := q) rfl rfl
      obtain ⟨l', e2, hl'⟩ := sort_lst (l := l) (by omega)
      have s10 : small62 10 = true := by decide
      simp at e1
      simp [fi__law_term, Pool.np, e, h1b, h1c, s10, e1, e2, wsW_p]
      rw [if_pos (by decide +kernel)]
      have key := lcR_map (c := c) (own := [7]) (tg := .one 7) (cs := .nil) (e := .tup (.cons (.var 7) (.cons (.call "_law_term" (.cons (.var 0) (.cons (.var 1) (.cons (.bin .sub (.var 2) (.int 1)) .nil)))) .nil)))
        (f := fun w : Wrd => W.str w.1) (xs := l') (S := [some q1.toW, some (.lst (wsW ks)), some (.int ((d' : Int) + 1)), some (.int 5), some (.lst (wsW l')), none, none, none]) (I := fun pre acc S => ∃ (es : List (Wrd × Tm)) (q : Pool), acc = es.map teW ∧ es.length = pre.length ∧ (∀ p ∈ es, p.2.ok ks d') ∧ S = [some q.toW, some (.lst (wsW ks)), some (.int ((d' : Int) + 1)), some (.int 5), some (.lst (wsW l')), none, none, none]) (by have := line_big; omega) ⟨[], q1, rfl, rfl, by simp, rfl⟩ (by
          rintro pre x post acc S - - ⟨es, q, rfl, hes, hok, rfl⟩
          obtain ⟨_, _, e3, t, q2, rfl, ht, rfl⟩ := hR q ks k0 k1
          refine ⟨some (teW (x, t)), [some q2.toW, some (.lst (wsW ks)), some (.int ((d' : Int) + 1)), some (.int 5), some (.lst (wsW l')), none, none, none], ?_, es ++ [(x, t)], q2, by simp, by simp [hes], ?_, rfl⟩
          · simp [turnR_eq, Pool.np, e3, teW]
          · intro p hp
            rcases List.mem_append.mp hp with hp | hp
            · exact hok p hp
            · simp at hp; subst hp; exact ht)
      obtain ⟨ys, _, e3, es, q2, rfl, hes, hok, rfl⟩ := key
      have e3' : lcR c [7] (.one 7) .nil (.tup (.cons (.var 7) (.cons (.call "_law_term" (.cons (.var 0) (.cons (.var 1) (.cons (.bin .sub (.var 2) (.int 1)) .nil)))) .nil))) (wsW l') _ = _ := e3
      simp [e3', b_tuple pl_tes]
      obtain ⟨r, hr⟩ := te_of es
      have := fin (.map r) q2 (by simp only [Tm.ok, Te.ok_iff, hr]; exact ⟨by omega, hok⟩)
      simp [hr] at this
      exact this _ rfl rfl
    · -- a node
      have n2 : ¬ (a : Int) = 2 := by omega
      have n5 : ¬ (a : Int) < 5 := by omega
      have n5' : ¬ (a : Int) = 5 := by omega
      obtain ⟨b, q1, e1, g1⟩ := hT q 4 (by omega) (by omega)
      have s1 : small62 (b : Int) = true := small_of (by omega) (by omega)
      obtain ⟨w, hw⟩ := sign_num (x := "c") (i := b) (by omega) (by decide +kernel)
      have key := lcR_rng (c := c) (own := [6]) (tg := .one 6) (cs := .nil) (e := .call "_law_term" (.cons (.var 0) (.cons (.var 1) (.cons (.bin .sub (.var 2) (.int 1)) .nil))))
        (n := b) (S := [some q1.toW, some (.lst (wsW ks)), some (.int ((d' : Int) + 1)), some (.int a), none, some (.int b), none, none]) (I := fun i acc S => ∃ (ts : List Tm) (q : Pool), acc = ts.map Tm.toW ∧ ts.length = i ∧ (∀ t ∈ ts, t.ok ks d') ∧ S = [some q.toW, some (.lst (wsW ks)), some (.int ((d' : Int) + 1)), some (.int a), none, some (.int b), none, none]) (by have := line_big; omega) ⟨[], q1, rfl, rfl, by simp, rfl⟩ (by
          rintro i acc S - ⟨ts, q, rfl, hts, hok, rfl⟩
          obtain ⟨_, _, e3, t, q2, rfl, ht, rfl⟩ := hR q ks k0 k1
          refine ⟨some t.toW, [some q2.toW, some (.lst (wsW ks)), some (.int ((d' : Int) + 1)), some (.int a), none, some (.int b), none, none], ?_, ts ++ [t], q2, by simp, by simp [hts], ?_, rfl⟩
          · simp [turnR_eq, Pool.np, e3]
          · intro p hp
            rcases List.mem_append.mp hp with hp | hp
            · exact hok p hp
            · simp at hp; subst hp; exact ht)
      obtain ⟨ys, _, e3, ts, q2, rfl, hts, hok, rfl⟩ := key
      obtain ⟨r, hr⟩ := tl_of ts
      simp [fi__law_term, Pool.np, e, h1a, h1b, h1c, n2, n5, n5', e1, s1, cand_str (i := b) (by omega), hw, e3, b_tuple pl_tms]
      have := fin (.node w r) q2 (by simp only [Tm.ok, Tl.ok_iff, hr]; exact ⟨by omega, hok⟩)
      simp [hr] at this
      exact this _ rfl rfl
theorem term_at {D : Pg} {cst : Str → Option W} (h1 : D "_law_take" = some fi__law_take) (h2 : D "_law_whole" = some fi__law_whole) (h3 : D "_law_term" = some fi__law_term) : ∀ (d k : Nat), TermOk d ⟨sem D cst (k + d + 4), cst⟩ := by
  have hW : ∀ k, WholeOk ⟨sem D cst (k + 3), cst⟩ := fun k p => by
    show (sem D cst (k + 3) "_law_whole" _).sat _
    rw [sem_eq h2]
    exact whole_run (take_at h1 k) p
  intro d
  induction d with
  | zero =>
    intro k p ks k0 k1
    show (sem D cst (k + 4) "_law_term" _).sat _
    rw [sem_eq h3]
    exact term_run (d := 0) (take_at h1 (k + 1)) (hW k) (fun d' h => by omega) p ks k0 k1
  | succ d ih =>
    intro k p ks k0 k1
    show (sem D cst (k + d + 4 + 1) "_law_term" _).sat _
    rw [sem_eq h3]
    exact term_run (d := d + 1) (take_at h1 (k + d + 2)) (hW (k + d + 1)) (fun d' h => by cases h; exact ih k) p ks k0 k1
end OwnLaw

/-! what is due of a term; the machine that makes it -/
namespace OwnLaw
open PySem L2 Own
abbrev Tbl.W (e : Tbl) : Own.W := En.toW Sy.toW e
theorem tbl_ix {e : Tbl} {x : Wrd} (h : x ∈ En.keys e) : idxW (Tbl.W e) (.str x.1) = some (tblAt e x).toW := by
  obtain ⟨t, ht⟩ := En.get_of h
  rw [En.ix, ht]
  simp [tblAt, ht]
def DueOk (d : Nat) (c : Fn) : Prop := ∀ (t : Tm) (e : Tbl), t.ok (En.keys e) d → c.call "_law_due" [t.toW, Tbl.W e] = .ok (t.sy e).toW [t.toW, Tbl.W e]
theorem due_run {c : Fn} {d : Nat} (hR : ∀ d', d = d' + 1 → DueOk d' c) (t : Tm) (e : Tbl) (ok : t.ok (En.keys e) d) : Own.run c fi__law_due [t.toW, Tbl.W e] = .ok (t.sy e).toW [t.toW, Tbl.W e] := by
  rw [run_eq rfl (by simp [Sb.asn, Sm.asn, Tg.slots, fi__law_due])]
  cases t with
  | int n => simp [fi__law_due, Tm.sy]
  | name x => simp [fi__law_due, Tm.sy]
  | addr n => simp [fi__law_due, Tm.sy]
  | mta x =>
    have hx : x ∈ En.keys e := by cases d <;> simpa [Tm.ok] using ok
    simp [fi__law_due, Tm.sy, tbl_ix hx]
  | map es =>
    cases d with
    | zero => simp [Tm.ok] at ok
    | succ d =>
      simp only [Tm.ok, Te.ok_iff] at ok
      have hR := hR d rfl
      obtain ⟨ys, S', e1, h1, h2⟩ := lcR_map (c := c) (own := [2]) (tg := .one 2) (cs := .nil) (e := .tup (.cons (.tup (.cons (.str "name") (.cons (.idx (.var 2) (.int 0)) .nil))) (.cons (.call "_law_due" (.cons (.idx (.var 2) (.int 1)) (.cons (.var 1) .nil))) .nil)))
        (f := teW) (xs := es.toL) (S := [some (Tm.map es).toW, some (Tbl.W e), none, none]) (I := fun pre acc S => acc = pre.map (fun p => seW (p.1, p.2.sy e)) ∧ S = [some (Tm.map es).toW, some (Tbl.W e), none, none]) (by have := line_big; omega) ⟨rfl, rfl⟩ (by
          rintro pre x post acc S hx - ⟨rfl, rfl⟩
          have hc := hR x.2 e (ok.2 x (by rw [hx]; simp))
          refine ⟨some (seW (x.1, x.2.sy e)), _, ?_, by simp, rfl⟩
          simp [turnR_eq, teW, hc, seW])
      subst h1 h2
      simp at e1
      simp [fi__law_due, Tm.sy, e1, b_tuple (pl_map fun _ => seW_pp _), Te.sy_toL, Function.comp_def]
  | node x ts =>
    cases d with
    | zero => simp [Tm.ok] at ok
    | succ d =>
      simp only [Tm.ok, Tl.ok_iff] at ok
      have hR := hR d rfl
      obtain ⟨ys, S', e1, h1, h2⟩ := lcR_map (c := c) (own := [3]) (tg := .one 3) (cs := .nil) (e := .call "_law_due" (.cons (.var 3) (.cons (.var 1) .nil)))
        (f := Tm.toW) (xs := ts.toL) (S := [some (Tm.node x ts).toW, some (Tbl.W e), none, none]) (I := fun pre acc S => acc = pre.map (fun p => (p.sy e).toW) ∧ S = [some (Tm.node x ts).toW, some (Tbl.W e), none, none]) (by have := line_big; omega) ⟨rfl, rfl⟩ (by
          rintro pre x post acc S hx - ⟨rfl, rfl⟩
          have hc := hR x e (ok.2 x (by rw [hx]; simp))
          refine ⟨some (x.sy e).toW, _, ?_, by simp, rfl⟩
          simp [turnR_eq, hc])
      subst h1 h2
      simp at e1
      simp [fi__law_due, Tm.sy, e1, b_tuple (pl_map fun _ => Sy.pp _), Tl.sy_toL, Function.comp_def]
theorem due_at {D : Pg} {cst : Str → Option W} (hD : D "_law_due" = some fi__law_due) : ∀ (d k : Nat), DueOk d ⟨sem D cst (k + d + 1), cst⟩ := by
  intro d
  induction d with
  | zero =>
    intro k t e ok
    show sem D cst (k + 1) "_law_due" _ = _
    rw [sem_eq hD]
    exact due_run (d := 0) (fun d' h => by omega) t e ok
  | succ d ih =>
    intro k t e ok
    show sem D cst (k + d + 1 + 1) "_law_due" _ = _
    rw [sem_eq hD]
    exact due_run (d := d + 1) (fun d' h => by cases h; exact ih k) t e ok
/-! ### the machine's parts -/
def Tm.leaf : Tm → Prop | .map _ => False | .node _ _ => False | _ => True
theorem integer_run {c : Fn} (n : Int) : Own.run c fi_integer [.int n] = .ok (Sy.sum [] n).toW [.int n] := by
  rw [run_eq rfl (by simp [Sb.asn, Sm.asn, Tg.slots, fi_integer])]
  simp [fi_integer]
theorem leaf_run {c : Fn} (hI : ∀ n : Int, c.call "integer" [.int n] = .ok (Sy.sum [] n).toW [.int n]) (t : Tm) (e : Tbl) {d : Nat} (ok : t.ok (En.keys e) d) (hl : t.leaf) : Own.run c fi_leaf [t.toW, Tbl.W e] = .ok (t.sy e).toW [t.toW, Tbl.W e] := by
  rw [run_eq rfl (by simp [Sb.asn, Sm.asn, Tg.slots, fi_leaf])]
  cases t with
  | int n =>
    have := hI n
    simp at this
    simp [fi_leaf, Tm.sy, this]
  | name x => simp [fi_leaf, Tm.sy]
  | addr n => simp [fi_leaf, Tm.sy]
  | mta x =>
    have hx : x ∈ En.keys e := by cases d <;> simpa [Tm.ok] using ok
    simp [fi_leaf, Tm.sy, tbl_ix hx]
  | map es => exact hl.elim
  | node x ts => exact hl.elim
def slOf : List Sy → Sl | [] => .nil | t :: r => .cons t (slOf r)
def seOf : List (Wrd × Sy) → Se | [] => .nil | p :: r => .cons p.1 p.2 (seOf r)
@[simp] theorem slOf_toL : ∀ l : List Sy, (slOf l).toL = l | [] => rfl | t :: r => by rw [slOf, Sl.toL, slOf_toL r]
@[simp] theorem seOf_toL : ∀ l : List (Wrd × Sy), (seOf l).toL = l | [] => rfl | t :: r => by rw [seOf, Se.toL, seOf_toL r]
theorem toL_slOf : ∀ r : Sl, slOf r.toL = r | .nil => rfl | .cons t r => by rw [Sl.toL, slOf, toL_slOf r]
theorem toL_seOf : ∀ r : Se, seOf r.toL = r | .nil => rfl | .cons x t r => by rw [Se.toL, seOf, toL_seOf r]
/-- made, with the last ones put together -/
theorem built_node {c : Fn} (pre inner : List Sy) (x : Wrd) (hl : pre.length + inner.length + 1 ≤ sizeLine) : Own.run c fi_built [.lst ((pre ++ inner).map Sy.toW), .tup [.str "node", .str x.1, .int inner.length]] =
    .ok .non [.lst ((pre ++ [Sy.node x (slOf inner)]).map Sy.toW), .tup [.str "node", .str x.1, .int inner.length]] := by
  have i1 : ((pre.length : Int) + (inner.length : Int) - (inner.length : Int)) = (pre.length : Int) := by omega
  have f1 : slW (.lst ((pre ++ inner).map Sy.toW)) (some (pre.length : Int)) none = some (.lst (inner.map Sy.toW)) := by
    rw [sl_from pl_sys]; simp
  have f2 : delTW (some (.lst ((pre ++ inner).map Sy.toW))) (.int (pre.length : Int)) = some (.lst (pre.map Sy.toW)) := by
    rw [delT_nat pl_sys]; simp
  have h1 : (pre.map Sy.toW).length < sizeLine := by simp; omega
  rw [run_eq rfl (by simp [Sb.asn, Sm.asn, Tg.slots, fi_built])]
  simp at f1 f2 h1
  simp [fi_built, pl_cons, pureL_append, i1, f1, f2, b_tuple pl_sys, appO_some, h1]
theorem built_map {c : Fn} (pre : List Sy) (inner : List (Wrd × Sy)) (hl : pre.length + inner.length + 1 ≤ sizeLine) : Own.run c fi_built [.lst ((pre ++ inner.map (·.2)).map Sy.toW), .tup [.str "map", .tup (wsW (inner.map (·.1))), .int inner.length]] =
    .ok .non [.lst ((pre ++ [Sy.map (seOf inner)]).map Sy.toW), .tup [.str "map", .tup (wsW (inner.map (·.1))), .int inner.length]] := by
  have i1 : ((pre.length : Int) + (inner.length : Int) - (inner.length : Int)) = (pre.length : Int) := by omega
  have f1 : slW (.lst ((pre ++ inner.map (·.2)).map Sy.toW)) (some (pre.length : Int)) none = some (.lst ((inner.map (·.2)).map Sy.toW)) := by
    rw [sl_from pl_sys]; simp
  have f2 : delTW (some (.lst ((pre ++ inner.map (·.2)).map Sy.toW))) (.int (pre.length : Int)) = some (.lst (pre.map Sy.toW)) := by
    rw [delT_nat pl_sys]; simp
  have h1 : (pre.map Sy.toW).length < sizeLine := by simp; omega
  have s1 : small62 (inner.length : Int) = true := small_of (by omega) (by have : sizeLine = 16777216 := rfl; omega)
  have key : ∀ S0 : SW, S0 = [some (.lst (pre.map Sy.toW)), some (.tup [.str "map", .tup (wsW (inner.map (·.1))), .int inner.length]), some (.str "map"), some (.tup (wsW (inner.map (·.1)))), some (.int inner.length), some (.lst ((inner.map (·.2)).map Sy.toW)), none, none] →
      lcR c [7] (.one 7) .nil (.tup (.cons (.tup (.cons (.str "name") (.cons (.idx (.var 3) (.var 7)) .nil))) (.cons (.idx (.var 5) (.var 7)) .nil))) (rngW 0 (inner.length : Int)) S0 = .ok (inner.map seW) S0 := by
    rintro S0 rfl
    obtain ⟨ys, S', e1, h1, h2⟩ := lcR_rng (c := c) (own := [7]) (tg := .one 7) (cs := .nil) (e := .tup (.cons (.tup (.cons (.str "name") (.cons (.idx (.var 3) (.var 7)) .nil))) (.cons (.idx (.var 5) (.var 7)) .nil))) (n := inner.length)
      (S := [some (.lst (pre.map Sy.toW)), some (.tup [.str "map", .tup (wsW (inner.map (·.1))), .int inner.length]), some (.str "map"), some (.tup (wsW (inner.map (·.1)))), some (.int inner.length), some (.lst ((inner.map (·.2)).map Sy.toW)), none, none])
      (I := fun i acc S => acc = (inner.take i).map seW ∧ S = [some (.lst (pre.map Sy.toW)), some (.tup [.str "map", .tup (wsW (inner.map (·.1))), .int inner.length]), some (.str "map"), some (.tup (wsW (inner.map (·.1)))), some (.int inner.length), some (.lst ((inner.map (·.2)).map Sy.toW)), none, none]) (by omega) ⟨by simp, rfl⟩ (by
        rintro i acc S hi ⟨rfl, rfl⟩
        refine ⟨some (seW inner[i]), _, ?_, by rw [List.take_succ_eq_append_getElem hi, List.map_append]; rfl, rfl⟩
        have g1 : (wsW (inner.map (·.1)))[i]? = some (.str inner[i].1.1) := by simp [wsW, hi]
        simp [turnR_eq, g1, hi, seW])
    rw [e1, h1, h2]
    simp
  have key := key _ rfl
  rw [run_eq rfl (by simp [Sb.asn, Sm.asn, Tg.slots, fi_built, wsW_p])]
  simp at f1 f2 h1 key
  simp [fi_built, pl_cons, pureL_append, i1, f1, f2, appO_some, h1, wsW_p, s1, key, b_tuple pl_ses, pl_map (fun p : Wrd × Sy => Sy.pp p.2)]
/-! ### the machine -/
inductive It33 where | term (t : Tm) | bnode (x : Wrd) (n : Nat) | bmap (ns : List Wrd)
def It33.toW : It33 → W
  | .term t => .tup [.str "term", t.toW] | .bnode x n => .tup [.str "build", .tup [.str "node", .str x.1, .int n]] | .bmap ns => .tup [.str "build", .tup [.str "map", .tup (wsW ns), .int ns.length]]
theorem It33.pp (i : It33) : i.toW.pure = true := by cases i <;> simp [It33.toW, wsW_p]
mutual
def Tm.wt : Tm → Nat
  | .map es => 2 + es.wt | .node _ ts => 2 + ts.wt | _ => 1
def Tl.wt : Tl → Nat | .nil => 0 | .cons t r => t.wt + r.wt
def Te.wt : Te → Nat | .nil => 0 | .cons _ t r => t.wt + r.wt
end
def It33.wt : It33 → Nat | .term t => t.wt | _ => 1
theorem Tl.wt_sum : ∀ r : Tl, r.wt = (r.toL.map Tm.wt).sum | .nil => rfl | .cons t r => by rw [Tl.wt, Tl.toL, Tl.wt_sum r]; simp
theorem Te.wt_sum : ∀ r : Te, r.wt = (r.toL.map fun p => p.2.wt).sum | .nil => rfl | .cons x t r => by rw [Te.wt, Te.toL, Te.wt_sum r]; simp
theorem Tm.wt_pos (t : Tm) : 1 ≤ t.wt := by cases t <;> simp only [Tm.wt] <;> omega
/-- the stack, its top first: what it leads to -/
def run33 (e : Tbl) : List It33 → List Sy → List Sy
  | [], m => m
  | .term t :: r, m => run33 e r (m ++ [t.sy e])
  | .bnode x n :: r, m => run33 e r (m.take (m.length - n) ++ [.node x (slOf (m.drop (m.length - n)))])
  | .bmap ns :: r, m => run33 e r (m.take (m.length - ns.length) ++ [.map (seOf (ns.zip (m.drop (m.length - ns.length))))])
def ok33 (e : Tbl) : List It33 → List Sy → Prop
  | [], _ => True
  | .term t :: r, m => (∃ d, t.ok (En.keys e) d) ∧ ok33 e r (m ++ [t.sy e])
  | .bnode x n :: r, m => n ≤ m.length ∧ ok33 e r (m.take (m.length - n) ++ [.node x (slOf (m.drop (m.length - n)))])
  | .bmap ns :: r, m => ns.length ≤ m.length ∧ ok33 e r (m.take (m.length - ns.length) ++ [.map (seOf (ns.zip (m.drop (m.length - ns.length))))])
theorem run_terms {e : Tbl} {r : List It33} : ∀ (ts : List Tm) (m : List Sy), run33 e (ts.map It33.term ++ r) m = run33 e r (m ++ ts.map (Tm.sy e))
  | [], m => by simp
  | t :: ts, m => by simp only [List.map_cons, List.cons_append, run33, run_terms ts, List.append_assoc, List.singleton_append, List.nil_append]
theorem ok_terms {e : Tbl} {r : List It33} : ∀ (ts : List Tm) (m : List Sy), (∀ t ∈ ts, ∃ d, t.ok (En.keys e) d) → ok33 e r (m ++ ts.map (Tm.sy e)) → ok33 e (ts.map It33.term ++ r) m
  | [], m, _, h => by simpa using h
  | t :: ts, m, h1, h2 => by
    simp only [List.map_cons, List.cons_append, ok33]
    exact ⟨h1 t (by simp), ok_terms ts _ (fun t ht => h1 t (by simp [ht])) (by simpa using h2)⟩
theorem zip_fst_snd {α β : Type} : ∀ l : List (α × β), (l.map (·.1)).zip (l.map (·.2)) = l
  | [] => rfl | p :: l => by simp [zip_fst_snd l]
structure Sym33 (c : Fn) : Prop where
  leaf : ∀ (t : Tm) (e : Tbl) (d : Nat), t.ok (En.keys e) d → t.leaf → c.call "leaf" [t.toW, Tbl.W e] = .ok (t.sy e).toW [t.toW, Tbl.W e]
  node : ∀ (pre inner : List Sy) (x : Wrd), pre.length + inner.length + 1 ≤ sizeLine → c.call "built" [.lst ((pre ++ inner).map Sy.toW), .tup [.str "node", .str x.1, .int inner.length]] = .ok .non [.lst ((pre ++ [Sy.node x (slOf inner)]).map Sy.toW), .tup [.str "node", .str x.1, .int inner.length]]
  map : ∀ (pre : List Sy) (inner : List (Wrd × Sy)), pre.length + inner.length + 1 ≤ sizeLine → c.call "built" [.lst ((pre ++ inner.map (·.2)).map Sy.toW), .tup [.str "map", .tup (wsW (inner.map (·.1))), .int inner.length]] =
    .ok .non [.lst ((pre ++ [Sy.map (seOf inner)]).map Sy.toW), .tup [.str "map", .tup (wsW (inner.map (·.1))), .int inner.length]]
def wtS (st : List It33) : Nat := (st.map It33.wt).sum
theorem wtS_len : ∀ st : List It33, st.length ≤ wtS st
  | [] => by simp [wtS] | i :: st => by
    have := wtS_len st
    have h1 : 1 ≤ i.wt := by cases i <;> simp only [It33.wt] <;> first | exact Tm.wt_pos _ | omega
    simp [wtS] at this ⊢; omega
theorem wtS_terms (ts : List Tm) (i : It33) (rest : List It33) : wtS (ts.map It33.term ++ i :: rest) = (ts.map Tm.wt).sum + i.wt + wtS rest := by
  have h : (It33.wt ∘ It33.term) = Tm.wt := rfl
  simp [wtS, h]; omega
theorem pl_its {l : List It33} : pureL (l.map It33.toW) = true := pl_map It33.pp
/-- the state of the machine -/
def sySt (t0 : Tm) (e : Tbl) (m : List Sy) (st : List It33) (r4 r5 r6 r7 r8 : Option W) : SW := [some t0.toW, some (Tbl.W e), some (.lst (m.map Sy.toW)), some (.lst (st.reverse.map It33.toW)), r4, r5, r6, r7, r8]
theorem symbolic_run {c : Fn} (h : Sym33 c) (t0 : Tm) (e : Tbl) {d : Nat} (ok : t0.ok (En.keys e) d) (hw : t0.wt ≤ 4000000) : (Own.run c fi_symbolic [t0.toW, Tbl.W e]).sat fun w ws => w = (t0.sy e).toW ∧ ws = [t0.toW, Tbl.W e] := by
  have hsl : sizeLine = 16777216 := rfl
  refine run_to (by rfl) (by simp [fi_symbolic, Sb.asn, Sm.asn, Tg.slots]) fun P hP _ => ?_
  simp [fi_symbolic]
  refine sat_nx (P := fun S => ∃ r4 r5 r6 r7 r8, S = sySt t0 e [t0.sy e] [] r4 r5 r6 r7 r8)
    (whR_satP (fun w S => ∃ m st r4 r5 r6 r7 r8, S = sySt t0 e m st r4 r5 r6 r7 r8 ∧ ok33 e st m ∧ run33 e st m = [t0.sy e] ∧ wtS st = w ∧ m.length + wtS st ≤ 4000000) (m := t0.wt) ⟨[], [.term t0], none, none, none, none, none, rfl, ⟨⟨d, ok⟩, True.intro⟩, rfl, by simp [wtS, It33.wt], by simp [wtS, It33.wt]; omega⟩ (by show t0.wt < 1000000000000000000; omega) ?_) ?_
  · rintro w S ⟨m, st, r4, r5, r6, r7, r8, rfl, hok, hrun, hwt, hlen⟩
    cases st with
    | nil =>
      simp only [run33] at hrun
      subst hrun
      exact .inl ⟨_, by simp [sySt], rfl, r4, r5, r6, r7, r8, rfl⟩
    | cons top rest =>
      refine .inr ⟨sySt t0 e m (top :: rest) r4 r5 r6 r7 r8, by simp [sySt], fun P' hn _ _ _ => ?_⟩
      have hln := wtS_len (top :: rest)
      have hcons : wtS (top :: rest) = top.wt + wtS rest := by simp [wtS]
      have hln2 := wtS_len rest
      have hrl : rest.length < sizeLine := by simp at hln; omega
      have hml : m.length < sizeLine := by omega
      have done : ∀ m' st' (q4 q5 q6 q7 q8 : Option W), ok33 e st' m' → run33 e st' m' = [t0.sy e] → wtS st' < w → m'.length + wtS st' ≤ 4000000 → P' .nx (sySt t0 e m' st' q4 q5 q6 q7 q8) := fun m' st' q4 q5 q6 q7 q8 a b c' d' => hn _ _ c' ⟨m', st', q4, q5, q6, q7, q8, rfl, a, b, rfl, d'⟩
      cases top with
      | bnode x n =>
        simp only [ok33, run33] at hok hrun
        simp only [It33.wt] at hcons
        have hb := h.node (m.take (m.length - n)) (m.drop (m.length - n)) x (by simp; omega)
        rw [List.take_append_drop, show (m.drop (m.length - n)).length = n by simp; omega] at hb
        have fin := done _ rest (some (.str "build")) (some (.tup [.str "node", .str x.1, .int n])) r6 r7 r8 hok.2 hrun (by omega) (by simp; omega)
        simp [sySt] at fin hb
        simp [sySt, It33.toW, hb]
        exact fin
      | bmap ns =>
        simp only [ok33, run33] at hok hrun
        simp only [It33.wt] at hcons
        have hb := h.map (m.take (m.length - ns.length)) (ns.zip (m.drop (m.length - ns.length))) (by simp; omega)
        have z1 : (ns.zip (m.drop (m.length - ns.length))).map (·.1) = ns := List.map_fst_zip (by simp; omega)
        have z2 : (ns.zip (m.drop (m.length - ns.length))).map (·.2) = m.drop (m.length - ns.length) := List.map_snd_zip (by simp; omega)
        rw [z1, z2, List.take_append_drop, show (ns.zip (m.drop (m.length - ns.length))).length = ns.length by simp; omega] at hb
        have fin := done _ rest (some (.str "build")) (some (.tup [.str "map", .tup (wsW ns), .int ns.length])) r6 r7 r8 hok.2 hrun (by omega) (by simp; omega)
        simp [sySt] at fin hb
        simp [sySt, It33.toW, hb, wsW_p]
        exact fin
      | term t =>
        simp only [ok33, run33] at hok hrun
        simp only [It33.wt] at hcons
        obtain ⟨⟨d', ok'⟩, hok⟩ := hok
        have wp := Tm.wt_pos t
        have leafcase : t.leaf → P' .nx (sySt t0 e (m ++ [t.sy e]) rest (some (.str "term")) (some t.toW) r6 r7 r8) := fun _ => done _ rest _ _ _ _ _ hok hrun (by omega) (by simp; omega)
        cases t with
        | int n =>
          have f1 := h.leaf _ e d' ok' True.intro
          have fin := leafcase True.intro
          simp [sySt] at fin f1
          simp [sySt, It33.toW, f1, appO_some, hml]
          exact fin
        | name n =>
          have f1 := h.leaf _ e d' ok' True.intro
          have fin := leafcase True.intro
          simp [sySt] at fin f1
          simp [sySt, It33.toW, f1, appO_some, hml]
          exact fin
        | addr n =>
          have f1 := h.leaf _ e d' ok' True.intro
          have fin := leafcase True.intro
          simp [sySt] at fin f1
          simp [sySt, It33.toW, f1, appO_some, hml]
          exact fin
        | mta n =>
          have f1 := h.leaf _ e d' ok' True.intro
          have fin := leafcase True.intro
          simp [sySt] at fin f1
          simp [sySt, It33.toW, f1, appO_some, hml]
          exact fin
        | node x ts =>
          obtain ⟨d2, rfl⟩ : ∃ d2, d' = d2 + 1 := by
            cases d' with
            | zero => simp [Tm.ok] at ok'
            | succ d2 => exact ⟨d2, rfl⟩
          simp only [Tm.ok, Tl.ok_iff] at ok'
          have hrl2 : rest.length + 1 + ts.toL.length < sizeLine := by omega
          have fin : ∀ r6, P' .nx (sySt t0 e m (ts.toL.map It33.term ++ .bnode x ts.toL.length :: rest) (some (.str "term")) (some (Tm.node x ts).toW) r6 r7 r8) := fun r6 => by
            refine done _ _ _ _ _ _ _ ?_ ?_ ?_ ?_
            · refine ok_terms _ _ (fun t ht => ⟨d2, ok'.2 t ht⟩) ?_
              simp only [ok33, Tm.sy] at hok ⊢
              rw [← toL_slOf (ts.sy e), Tl.sy_toL] at hok
              simp
              exact hok
            · rw [run_terms]
              simp only [run33, Tm.sy] at hrun ⊢
              rw [← toL_slOf (ts.sy e), Tl.sy_toL] at hrun
              simp
              exact hrun
            · rw [wtS_terms]
              simp only [Tm.wt, Tl.wt_sum] at hcons
              simp only [It33.wt]
              omega
            · rw [wtS_terms]
              simp only [Tm.wt, Tl.wt_sum] at hcons
              simp only [It33.wt]
              omega
          have lr : lrevW (.tup (ts.toL.map Tm.toW)) = some (.lst (ts.toL.map Tm.toW).reverse) := lrev_tup pl_tms (by simp; omega)
          simp [sySt, It33.toW, appO_some, hrl, lr]
          rw [← List.map_reverse (f := Tm.toW)]
          have base : ((rest.map It33.toW).reverse ++ [W.tup [.str "build", .tup [.str "node", .str x.1, .int ts.toL.length]]]).length = rest.length + 1 := by simp
          refine foR_mapP (fun pre S => ∃ r6, S = [some t0.toW, some (Tbl.W e), some (.lst (m.map Sy.toW)), some (.lst ((rest.map It33.toW).reverse ++ [W.tup [.str "build", .tup [.str "node", .str x.1, .int ts.toL.length]]] ++ pre.map fun t => It33.toW (.term t))), some (.str "term"), some (Tm.node x ts).toW, r6, r7, r8]) ⟨r6, by simp⟩ ?_ ?_
          · rintro pre y post S P3 hx ⟨r6, rfl⟩ hn3 - - -
            have hlx : pre.length + 1 ≤ ts.toL.length := by
              have := congrArg List.length hx
              simp at this; omega
            refine ⟨_, rfl, ?_⟩
            have fin3 := hn3 _ ⟨some y.toW, rfl⟩
            have al : (rest.map It33.toW).reverse.length + ([W.tup [.str "build", .tup [.str "node", .str x.1, .int ts.toL.length]]] ++ pre.map fun t => It33.toW (.term t)).length < sizeLine := by simp; omega
            simp [It33.toW] at fin3 al
            simp [appO_some, It33.toW, al]
            exact fin3
          · rintro S ⟨r6, rfl⟩
            have := fin r6
            simp [sySt, It33.toW, Function.comp_def] at this
            simp [It33.toW]
            exact this
        | map es =>
          obtain ⟨d2, rfl⟩ : ∃ d2, d' = d2 + 1 := by
            cases d' with
            | zero => simp [Tm.ok] at ok'
            | succ d2 => exact ⟨d2, rfl⟩
          simp only [Tm.ok, Te.ok_iff] at ok'
          have hwte : (es.toL.map fun p => p.2.wt) = (es.toL.map (·.2)).map Tm.wt := by simp
          have hrl2 : rest.length + 1 + es.toL.length < sizeLine := by omega
          have fin : ∀ r6 r8, P' .nx (sySt t0 e m ((es.toL.map (·.2)).map It33.term ++ .bmap (es.toL.map (·.1)) :: rest) (some (.str "term")) (some (Tm.map es).toW) r6 (some (.tup (wsW (es.toL.map (·.1))))) r8) := fun r6 r8 => by
            have hsy : es.toL.map (fun p => (p.1, p.2.sy e)) = (es.toL.map (·.1)).zip ((es.toL.map (·.2)).map (Tm.sy e)) := by
              have := zip_fst_snd (es.toL.map (fun p => (p.1, p.2.sy e)))
              rw [← this]; simp [Function.comp_def]
            refine done _ _ _ _ _ _ _ ?_ ?_ ?_ ?_
            · refine ok_terms _ _ (fun t ht => ?_) ?_
              · obtain ⟨p, hp, rfl⟩ := List.mem_map.mp ht
                exact ⟨d2, ok'.2 p hp⟩
              · simp only [ok33, Tm.sy] at hok ⊢
                rw [← toL_seOf (es.sy e), Te.sy_toL, hsy] at hok
                simp at hok ⊢
                exact hok
            · rw [run_terms]
              simp only [run33, Tm.sy] at hrun ⊢
              rw [← toL_seOf (es.sy e), Te.sy_toL, hsy] at hrun
              simp at hrun ⊢
              exact hrun
            · rw [wtS_terms]
              simp only [Tm.wt, Te.wt_sum, hwte] at hcons
              simp only [It33.wt]
              omega
            · rw [wtS_terms]
              simp only [Tm.wt, Te.wt_sum, hwte] at hcons
              simp only [It33.wt]
              omega
          have lr : lrevW (.tup (es.toL.map teW)) = some (.lst (es.toL.map teW).reverse) := lrev_tup pl_tes (by simp; omega)
          obtain ⟨ys, S', e1, h1, h2⟩ := lcR_map (c := c) (own := [8, 6]) (tg := .many [8, 6]) (cs := .nil) (e := .var 8) (f := teW) (xs := es.toL)
            (S := [some t0.toW, some (Tbl.W e), some (.lst (m.map Sy.toW)), some (.lst (rest.map It33.toW).reverse), some (.str "term"), some (Tm.map es).toW, none, r7, none])
            (I := fun pre acc S => acc = pre.map (fun p => W.str p.1.1) ∧ S = [some t0.toW, some (Tbl.W e), some (.lst (m.map Sy.toW)), some (.lst (rest.map It33.toW).reverse), some (.str "term"), some (Tm.map es).toW, none, r7, none]) (by omega) ⟨rfl, rfl⟩ (by
              rintro pre x post acc S hx - ⟨rfl, rfl⟩
              refine ⟨some (.str x.1.1), _, ?_, by simp, rfl⟩
              simp [turnR_eq, teW])
          subst h1 h2
          have nm : (es.toL.map fun p => W.str p.1.1) = wsW (es.toL.map (·.1)) := by simp [wsW]
          rw [nm] at e1
          simp at e1
          simp [sySt, It33.toW, appO_some, hrl, lr, e1, b_tuple wsW_p, wsW_p, wsW_len]
          rw [← List.map_reverse (f := teW)]
          refine foR_mapP (fun pre S => ∃ r6 r8, S = [some t0.toW, some (Tbl.W e), some (.lst (m.map Sy.toW)), some (.lst ((rest.map It33.toW).reverse ++ [W.tup [.str "build", .tup [.str "map", .tup (wsW (es.toL.map (·.1))), .int es.toL.length]]] ++ pre.map fun p => It33.toW (.term p.2))), some (.str "term"), some (Tm.map es).toW, r6, some (.tup (wsW (es.toL.map (·.1)))), r8]) ⟨r6, r8, by simp⟩ ?_ ?_
          · rintro pre y post S P3 hx ⟨r6, r8, rfl⟩ hn3 - - -
            have hlx : pre.length + 1 ≤ es.toL.length := by
              have := congrArg List.length hx
              simp at this; omega
            refine ⟨_, rfl, ?_⟩
            have fin3 := hn3 _ ⟨some y.2.toW, some (.str y.1.1), rfl⟩
            have al : (rest.map It33.toW).reverse.length + ([W.tup [.str "build", .tup [.str "map", .tup (wsW (es.toL.map (·.1))), .int es.toL.length]]] ++ pre.map fun p => It33.toW (.term p.2)).length < sizeLine := by simp; omega
            simp [It33.toW] at fin3 al
            simp [appO_some, It33.toW, al]
            exact fin3
          · rintro S ⟨r6, r8, rfl⟩
            have := fin r6 r8
            simp [sySt, It33.toW, Function.comp_def] at this
            simp [It33.toW]
            exact this
  · rintro S ⟨r4, r5, r6, r7, r8, rfl⟩
    simp [sySt]
    exact hP _ _ _ (by simp) ⟨rfl, rfl⟩
end OwnLaw

/-! sizes, unknowns -/
namespace OwnLaw
open PySem L2 Own
mutual
def Sy.sz : Sy → Nat
  | .map es => 1 + es.sz | .node _ ts => 1 + ts.sz | _ => 1
def Sl.sz : Sl → Nat | .nil => 0 | .cons t r => t.sz + r.sz
def Se.sz : Se → Nat | .nil => 0 | .cons _ t r => 1 + t.sz + r.sz
end
mutual
def Sy.ids : Sy → List Int
  | .sum ps _ => ps.map (·.1) | .unk n => [n] | .map es => es.ids | .node _ ts => ts.ids | _ => []
def Sl.ids : Sl → List Int | .nil => [] | .cons t r => t.ids ++ r.ids
def Se.ids : Se → List Int | .nil => [] | .cons _ t r => t.ids ++ r.ids
end
mutual
def Sy.ok : Nat → Sy → Prop
  | _, .sum ps _ => ps.length ≤ 3 ∧ ∀ p ∈ ps, 0 ≤ p.1 ∧ p.1 < 41 | _, .name _ => True | _, .addr _ => True | _, .unk n => 0 ≤ n ∧ n < 41
  | 0, .map _ => False | 0, .node _ _ => False
  | d + 1, .map es => es.toL.length ≤ 10 ∧ es.ok d | d + 1, .node _ ts => ts.toL.length ≤ 3 ∧ ts.ok d
def Sl.ok : Nat → Sl → Prop | _, .nil => True | d, .cons t r => t.ok d ∧ r.ok d
def Se.ok : Nat → Se → Prop | _, .nil => True | d, .cons _ t r => t.ok d ∧ r.ok d
end
theorem Sl.ok_iff {d : Nat} : ∀ r : Sl, r.ok d ↔ ∀ t ∈ r.toL, t.ok d
  | .nil => by simp [Sl.ok, Sl.toL] | .cons t r => by simp [Sl.ok, Sl.toL, Sl.ok_iff r]
theorem Se.ok_iff {d : Nat} : ∀ r : Se, r.ok d ↔ ∀ p ∈ r.toL, p.2.ok d
  | .nil => by simp [Se.ok, Se.toL] | .cons x t r => by simp [Se.ok, Se.toL, Se.ok_iff r]
theorem Sl.sz_sum : ∀ r : Sl, r.sz = (r.toL.map Sy.sz).sum | .nil => rfl | .cons t r => by rw [Sl.sz, Sl.toL, Sl.sz_sum r]; simp
theorem Se.sz_sum : ∀ r : Se, r.sz = (r.toL.map fun p => 1 + p.2.sz).sum | .nil => rfl | .cons x t r => by rw [Se.sz, Se.toL, Se.sz_sum r]; simp
theorem Sl.ids_flat : ∀ r : Sl, r.ids = r.toL.flatMap Sy.ids | .nil => rfl | .cons t r => by rw [Sl.ids, Sl.toL, Sl.ids_flat r]; simp
theorem Se.ids_flat : ∀ r : Se, r.ids = r.toL.flatMap fun p => p.2.ids | .nil => rfl | .cons x t r => by rw [Se.ids, Se.toL, Se.ids_flat r]; simp
theorem Sy.sz_pos (t : Sy) : 1 ≤ t.sz := by cases t <;> simp only [Sy.sz] <;> omega
theorem Sy.plain_ok {s : Sy} (h : s.plain) (d : Nat) : s.ok d := by
  cases s <;> cases d <;> first | exact h | exact h.elim | exact True.intro
/-! of a term -/
theorem sum_le {l : List Nat} {b : Nat} (h : ∀ x ∈ l, x ≤ b) : l.sum ≤ l.length * b := by
  induction l with
  | nil => simp
  | cons x r ih =>
    have h1 := h x (by simp)
    have h2 := ih fun y hy => h y (by simp [hy])
    simp only [List.sum_cons, List.length_cons, Nat.add_mul, Nat.one_mul]; omega
def bd : Nat → Nat | 0 => 1 | d + 1 => 2 + 10 * (1 + bd d)
theorem Tm.wt_le {ks : List Wrd} : ∀ (d : Nat) (t : Tm), t.ok ks d → t.wt ≤ bd d
  | 0, t, h => by cases t <;> simp_all [Tm.ok, Tm.wt, bd]
  | d + 1, t, h => by
    cases t with
    | map es =>
      simp only [Tm.ok, Te.ok_iff] at h
      have := sum_le (l := es.toL.map fun p => p.2.wt) (b := bd d) (by
        intro x hx
        obtain ⟨p, hp, rfl⟩ := List.mem_map.mp hx
        exact Tm.wt_le d _ (h.2 p hp))
      rw [List.length_map] at this
      have h3 : es.toL.length * bd d ≤ 10 * bd d := Nat.mul_le_mul_right _ h.1
      simp only [Tm.wt, Te.wt_sum, bd]; omega
    | node x ts =>
      simp only [Tm.ok, Tl.ok_iff] at h
      have := sum_le (l := ts.toL.map Tm.wt) (b := bd d) (by
        intro x hx
        obtain ⟨p, hp, rfl⟩ := List.mem_map.mp hx
        exact Tm.wt_le d _ (h.2 p hp))
      rw [List.length_map] at this
      have h3 : ts.toL.length * bd d ≤ 10 * bd d := Nat.mul_le_mul_right _ (by omega)
      simp only [Tm.wt, Tl.wt_sum, bd]; omega
    | _ => simp [Tm.wt, bd]; omega
theorem Sy.sz_le : ∀ (d : Nat) (t : Sy), t.ok d → t.sz ≤ bd d
  | 0, t, h => by cases t <;> simp_all [Sy.ok, Sy.sz, bd]
  | d + 1, t, h => by
    cases t with
    | map es =>
      simp only [Sy.ok, Se.ok_iff] at h
      have := sum_le (l := es.toL.map fun p => 1 + p.2.sz) (b := 1 + bd d) (by
        intro x hx
        obtain ⟨p, hp, rfl⟩ := List.mem_map.mp hx
        have := Sy.sz_le d _ (h.2 p hp)
        omega)
      rw [List.length_map] at this
      have h3 : es.toL.length * (1 + bd d) ≤ 10 * (1 + bd d) := Nat.mul_le_mul_right _ h.1
      simp only [Sy.sz, Se.sz_sum, bd]; omega
    | node x ts =>
      simp only [Sy.ok, Sl.ok_iff] at h
      have := sum_le (l := ts.toL.map Sy.sz) (b := bd d) (by
        intro x hx
        obtain ⟨p, hp, rfl⟩ := List.mem_map.mp hx
        exact Sy.sz_le d _ (h.2 p hp))
      rw [List.length_map] at this
      have h3 : ts.toL.length * bd d ≤ 10 * bd d := Nat.mul_le_mul_right _ (by omega)
      simp only [Sy.sz, Sl.sz_sum, bd]; omega
    | _ => simp [Sy.sz, bd]; omega
/-- what is due is as good as the term -/
theorem Tm.sy_ok {e : Tbl} (he : ∀ p ∈ e, p.2.plain) : ∀ (d : Nat) (t : Tm), t.ok (En.keys e) d → (t.sy e).ok d := by
  have mt : ∀ (d : Nat) (x : Wrd), x ∈ En.keys e → (tblAt e x).ok d := fun d x hx => by
    obtain ⟨t, ht⟩ := En.get_of hx
    have : tblAt e x = t := by simp [tblAt, ht]
    rw [this]
    exact Sy.plain_ok (he _ (En.mem_of ht)) d
  intro d
  induction d with
  | zero =>
    intro t h
    cases t with
    | map es => simp [Tm.ok] at h
    | node x ts => simp [Tm.ok] at h
    | mta x => exact mt 0 x (by simpa [Tm.ok] using h)
    | _ => simp [Tm.sy, Sy.ok]
  | succ d ih =>
    intro t h
    cases t with
    | map es =>
      simp only [Tm.ok, Te.ok_iff] at h
      simp only [Tm.sy, Sy.ok, Se.ok_iff, Te.sy_toL, List.length_map]
      refine ⟨h.1, fun p hp => ?_⟩
      obtain ⟨q, hq, rfl⟩ := List.mem_map.mp hp
      exact ih _ (h.2 q hq)
    | node x ts =>
      simp only [Tm.ok, Tl.ok_iff] at h
      simp only [Tm.sy, Sy.ok, Sl.ok_iff, Tl.sy_toL, List.length_map]
      refine ⟨h.1, fun p hp => ?_⟩
      obtain ⟨q, hq, rfl⟩ := List.mem_map.mp hp
      exact ih _ (h.2 q hq)
    | mta x => exact mt _ x (by simpa [Tm.ok] using h)
    | _ => simp [Tm.sy, Sy.ok]
/-! ### size -/
theorem ints_map {α : Type} {f : α → Int} : ∀ xs : List α, intsW (xs.map fun x => W.int (f x)) = some (xs.map f)
  | [] => rfl
  | x :: r => by simp only [List.map_cons, intsW, ints_map r]; rfl
theorem sum_fn {α : Type} {f : α → Int} {xs : List α} : b1W .sum (.lst (xs.map fun x => W.int (f x))) = some (.int (xs.map f).sum) := by
  show ((intsW _).map _) = _
  rw [ints_map]; rfl
def LSizeOk (d : Nat) (c : Fn) : Prop := ∀ s : Sy, s.ok d → c.call "_law_size" [s.toW] = .ok (.int s.sz) [s.toW]
theorem natsum {α : Type} {f : α → Nat} : ∀ xs : List α, (xs.map fun x => (f x : Int)).sum = (((xs.map f).sum : Nat) : Int)
  | [] => rfl
  | x :: r => by simp [natsum r]
theorem lsize_run {c : Fn} {d : Nat} (hR : ∀ d', d = d' + 1 → LSizeOk d' c) (s : Sy) (ok : s.ok d) : Own.run c fi__law_size [s.toW] = .ok (.int s.sz) [s.toW] := by
  rw [run_eq rfl (by simp [Sb.asn, Sm.asn, Tg.slots, fi__law_size])]
  cases s with
  | map es =>
    cases d with
    | zero => simp [Sy.ok] at ok
    | succ d =>
      simp only [Sy.ok, Se.ok_iff] at ok
      have hR := hR d rfl
      obtain ⟨ys, S', e1, h1, h2⟩ := lcR_map (c := c) (own := [1]) (tg := .one 1) (cs := .nil) (e := .bin .add (.int 1) (.call "_law_size" (.cons (.idx (.var 1) (.int 1)) .nil)))
        (f := seW) (xs := es.toL) (S := [some (Sy.map es).toW, none, none]) (I := fun pre acc S => acc = pre.map (fun p => W.int (((1 + p.2.sz : Nat) : Int))) ∧ S = [some (Sy.map es).toW, none, none]) (by have := line_big; omega) ⟨rfl, rfl⟩ (by
          rintro pre x post acc S hx - ⟨rfl, rfl⟩
          have hc := hR x.2 (ok.2 x (by rw [hx]; simp))
          refine ⟨some (.int ((1 + x.2.sz : Nat) : Int)), _, ?_, by simp, rfl⟩
          simp [turnR_eq, seW, hc])
      subst h1 h2
      have hs := sum_fn (xs := es.toL) (f := fun p => ((1 + p.2.sz : Nat) : Int))
      rw [natsum, ← Se.sz_sum] at hs
      simp at e1 hs
      simp [fi__law_size, e1, hs, Sy.sz]
  | node x ts =>
    cases d with
    | zero => simp [Sy.ok] at ok
    | succ d =>
      simp only [Sy.ok, Sl.ok_iff] at ok
      have hR := hR d rfl
      obtain ⟨ys, S', e1, h1, h2⟩ := lcR_map (c := c) (own := [2]) (tg := .one 2) (cs := .nil) (e := .call "_law_size" (.cons (.var 2) .nil))
        (f := Sy.toW) (xs := ts.toL) (S := [some (Sy.node x ts).toW, none, none]) (I := fun pre acc S => acc = pre.map (fun p => W.int ((p.sz : Nat) : Int)) ∧ S = [some (Sy.node x ts).toW, none, none]) (by have := line_big; omega) ⟨rfl, rfl⟩ (by
          rintro pre x post acc S hx - ⟨rfl, rfl⟩
          have hc := hR x (ok.2 x (by rw [hx]; simp))
          refine ⟨some (.int ((x.sz : Nat) : Int)), _, ?_, by simp, rfl⟩
          simp [turnR_eq, hc])
      subst h1 h2
      have hs := sum_fn (xs := ts.toL) (f := fun p => ((p.sz : Nat) : Int))
      rw [natsum, ← Sl.sz_sum] at hs
      simp at e1 hs
      simp [fi__law_size, e1, hs, Sy.sz]
  | _ => simp [fi__law_size, Sy.sz]
/-- the program's stack of parts -/
def szS (st : List Sy) : Nat := (st.map Sy.sz).sum
theorem szS_len : ∀ st : List Sy, st.length ≤ szS st
  | [] => by simp [szS] | i :: st => by
    have := szS_len st
    have h1 := i.sz_pos
    simp [szS] at this ⊢; omega
theorem szS_app {a b : List Sy} : szS (a ++ b) = szS a + szS b := by simp [szS]
theorem szS_rev {a : List Sy} : szS a.reverse = szS a := by simp [szS, List.map_reverse, List.sum_reverse]
theorem size_run {c : Fn} (s : Sy) {d : Nat} (ok : s.ok d) (hw : s.sz ≤ 4000000) : (Own.run c fi_size [s.toW]).sat fun w ws => w = .int s.sz ∧ ws = [s.toW] := by
  have hsl : sizeLine = 16777216 := rfl
  refine run_to (by rfl) (by simp [fi_size, Sb.asn, Sm.asn, Tg.slots]) fun P hP _ => ?_
  simp [fi_size]
  refine sat_nx (P := fun S => ∃ r2 r3 r4 r5, S = [some s.toW, some (.int s.sz), r2, r3, r4, r5])
    (whR_satP (fun w S => ∃ (n : Nat) (st : List Sy) (r3 r4 r5 : Option W), S = [some s.toW, some (.int n), some (.lst (st.map Sy.toW).reverse), r3, r4, r5] ∧ n + szS st = s.sz ∧ szS st = w ∧ ∀ t ∈ st, ∃ d, t.ok d) (m := s.sz) ⟨0, [s], none, none, none, by simp, by simp [szS], by simp [szS], by simp; exact ⟨d, ok⟩⟩ (by show s.sz < 1000000000000000000; omega) ?_) ?_
  · rintro w S ⟨n, st, r3, r4, r5, rfl, hn, hwt, hok⟩
    cases st with
    | nil =>
      simp [szS] at hn
      exact .inl ⟨[some s.toW, some (.int n), some (.lst []), r3, r4, r5], by simp, rfl, _, r3, r4, r5, by rw [hn]⟩
    | cons top rest =>
      refine .inr ⟨[some s.toW, some (.int n), some (.lst ((top :: rest).map Sy.toW).reverse), r3, r4, r5], by simp, fun P' hn2 _ _ _ => ?_⟩
      have hcons : szS (top :: rest) = top.sz + szS rest := by simp [szS]
      have hln := szS_len rest
      have hpos := top.sz_pos
      obtain ⟨d', ok'⟩ := hok top (by simp)
      have done : ∀ (n' : Nat) (st' : List Sy) (q3 q4 q5 : Option W), n' + szS st' = s.sz → n < n' → (∀ t ∈ st', ∃ d, t.ok d) → P' .nx [some s.toW, some (.int n'), some (.lst (st'.map Sy.toW).reverse), q3, q4, q5] := fun n' st' q3 q4 q5 a b c' => hn2 _ _ (by omega) ⟨n', st', q3, q4, q5, rfl, a, rfl, c'⟩
      have hrest : ∀ t ∈ rest, ∃ d, t.ok d := fun t ht => hok t (by simp [ht])
      cases top with
      | sum ps k =>
        have fin := done (n + 1) rest (some (Sy.sum ps k).toW) r4 r5 (by simp only [Sy.sz] at hcons; omega) (by omega) hrest
        simp at fin
        simp [augW]
        exact fin
      | name x =>
        have fin := done (n + 1) rest (some (Sy.name x).toW) r4 r5 (by simp only [Sy.sz] at hcons; omega) (by omega) hrest
        simp at fin
        simp [augW]
        exact fin
      | addr k =>
        have fin := done (n + 1) rest (some (Sy.addr k).toW) r4 r5 (by simp only [Sy.sz] at hcons; omega) (by omega) hrest
        simp at fin
        simp [augW]
        exact fin
      | unk k =>
        have fin := done (n + 1) rest (some (Sy.unk k).toW) r4 r5 (by simp only [Sy.sz] at hcons; omega) (by omega) hrest
        simp at fin
        simp [augW]
        exact fin
      | node x ts =>
        obtain ⟨d2, rfl⟩ : ∃ d2, d' = d2 + 1 := by
          cases d' with
          | zero => simp [Sy.ok] at ok'
          | succ d2 => exact ⟨d2, rfl⟩
        simp only [Sy.ok, Sl.ok_iff] at ok'
        have fin := done (n + 1) (ts.toL.reverse ++ rest) (some (Sy.node x ts).toW) r4 r5 (by
          simp only [Sy.sz, Sl.sz_sum] at hcons
          rw [szS_app, szS_rev]
          unfold szS at hcons hn ⊢
          omega) (by omega) (by
          intro t ht
          rcases List.mem_append.mp ht with ht | ht
          · exact ⟨d2, ok'.2 t (by simpa using ht)⟩
          · exact hrest t ht)
        have al : (rest.map Sy.toW).reverse.length + (ts.toL.map Sy.toW).length ≤ sizeLine := by simp; omega
        simp at fin al
        simp [extO_some, al]
        exact fin
      | map es =>
        obtain ⟨d2, rfl⟩ : ∃ d2, d' = d2 + 1 := by
          cases d' with
          | zero => simp [Sy.ok] at ok'
          | succ d2 => exact ⟨d2, rfl⟩
        simp only [Sy.ok, Se.ok_iff] at ok'
        have hz : (es.toL.map fun p => 1 + p.2.sz).sum = es.toL.length + ((es.toL.map (·.2)).map Sy.sz).sum := by
          generalize es.toL = l
          induction l with
          | nil => rfl
          | cons p r ih => simp at ih ⊢; omega
        have fin := done (n + 1 + es.toL.length) ((es.toL.map (·.2)).reverse ++ rest) (some (Sy.map es).toW) r4 r5 (by
          simp only [Sy.sz, Se.sz_sum, hz] at hcons
          rw [szS_app, szS_rev]
          unfold szS at hcons hn ⊢
          omega) (by omega) (by
          intro t ht
          rcases List.mem_append.mp ht with ht | ht
          · rw [List.mem_reverse] at ht
            obtain ⟨p, hp, rfl⟩ := List.mem_map.mp ht
            exact ⟨d2, ok'.2 p hp⟩
          · exact hrest t ht)
        have al : (rest.map Sy.toW).reverse.length + (es.toL.map fun p => p.2.toW).length ≤ sizeLine := by simp; omega
        obtain ⟨ys, S', e1, h1, h2⟩ := lcR_map (c := c) (own := [4, 5]) (tg := .many [4, 5]) (cs := .nil) (e := .var 5) (f := seW) (xs := es.toL)
          (S := [some s.toW, some (.int ((n : Int) + 1 + es.toL.length)), some (.lst (rest.map Sy.toW).reverse), some (Sy.map es).toW, none, none])
          (I := fun pre acc S => acc = pre.map (fun p => p.2.toW) ∧ S = [some s.toW, some (.int ((n : Int) + 1 + es.toL.length)), some (.lst (rest.map Sy.toW).reverse), some (Sy.map es).toW, none, none]) (by omega) ⟨rfl, rfl⟩ (by
            rintro pre x post acc S hx - ⟨rfl, rfl⟩
            refine ⟨some x.2.toW, _, ?_, by simp, rfl⟩
            simp [turnR_eq, seW])
        subst h1 h2
        simp [Function.comp_def] at fin al e1
        simp [extO_some, al, e1, pl_map (fun p : Wrd × Sy => Sy.pp p.2)]
        exact fin
  · rintro S ⟨r2, r3, r4, r5, rfl⟩
    simp
    exact hP _ _ _ (by simp) ⟨rfl, rfl⟩
end OwnLaw

/-! unknowns -/
namespace OwnLaw
open PySem L2 Own
def tD (ks : List Int) : W := .dict (ks.map .inl) (ks.map fun _ => .bl true)
@[simp] theorem tD_np {ks : List Int} : (tD ks).pure = false := (rfl)
@[simp] theorem tD_ld {ks : List Int} : isLD (some (tD ks)) = true := (rfl)
def addK (ks : List Int) (u : Int) : List Int := if u ∈ ks then ks else ks ++ [u]
theorem addK_mem {ks : List Int} {u v : Int} : v ∈ addK ks u ↔ v ∈ ks ∨ v = u := by
  unfold addK
  split
  · rename_i h
    exact ⟨.inl, fun z => z.elim id fun e => e ▸ h⟩
  · simp
theorem addK_nodup {ks : List Int} {u : Int} (h : ks.Nodup) : (addK ks u).Nodup := by
  unfold addK
  split
  · exact h
  · rename_i hn
    rw [List.nodup_append]
    exact ⟨h, by simp, fun a ha b hb e => by simp at hb; subst hb; subst e; exact hn ha⟩
theorem put_tD {ks : List Int} {u : Int} (h : ks.length ≤ 41) : putR (some (tD ks)) (.int u) (.bl true) = some (tD (addK ks u)) := by
  have hp : pureL (ks.map fun _ => W.bl true) = true := pl_map fun _ => rfl
  have hl : ks.length < sizeLine := by have := line_big; omega
  have hk : hasK (ks.map .inl) (.inl u) = decide (u ∈ ks) := by
    rw [Bool.eq_iff_iff, hasK_iff, decide_eq_true_eq, List.mem_map]
    exact ⟨fun ⟨y, h1, h2⟩ => by rw [← Sum.inl.inj h2]; exact h1, fun h => ⟨u, h, rfl⟩⟩
  have hd : ∀ l : List Int, Own.dset (l.map .inl) (l.map fun _ => W.bl true) (.inl u) (.bl true) = l.map fun _ => W.bl true := by
    intro l
    induction l with
    | nil => rfl
    | cons x r ih => simp only [List.map_cons, Own.dset, ih]; split <;> rfl
  unfold tD putR addK
  simp only [dkey, Option.bind, hp, W.pure, Bool.true_and, List.length_map, hl, decide_true, if_true, hk]
  by_cases hm : u ∈ ks
  · simp only [hm, decide_true, if_true, hd]
  · simp only [hm, decide_false, Bool.false_eq_true, if_false, List.map_append, List.map_cons, List.map_nil]
theorem ids_rng : ∀ (d : Nat) (s : Sy), s.ok d → ∀ u ∈ s.ids, 0 ≤ u ∧ u < 41
  | d, .sum ps n, h => by
    have h : ps.length ≤ 3 ∧ ∀ p ∈ ps, 0 ≤ p.1 ∧ p.1 < 41 := by cases d <;> simpa [Sy.ok] using h
    intro u hu
    obtain ⟨p, hp, rfl⟩ := List.mem_map.mp (by simpa only [Sy.ids] using hu)
    exact h.2 p hp
  | d, .name x, h => by simp [Sy.ids]
  | d, .addr n, h => by simp [Sy.ids]
  | d, .unk n, h => by
    have h : 0 ≤ n ∧ n < 41 := by cases d <;> simpa [Sy.ok] using h
    simp [Sy.ids, h]
  | 0, .map es, h => by simp [Sy.ok] at h
  | 0, .node x ts, h => by simp [Sy.ok] at h
  | d + 1, .map es, h => by
    simp only [Sy.ok, Se.ok_iff] at h
    intro u hu
    simp only [Sy.ids, Se.ids_flat, List.mem_flatMap] at hu
    obtain ⟨p, hp, hu⟩ := hu
    exact ids_rng d _ (h.2 p hp) u hu
  | d + 1, .node x ts, h => by
    simp only [Sy.ok, Sl.ok_iff] at h
    intro u hu
    simp only [Sy.ids, Sl.ids_flat, List.mem_flatMap] at hu
    obtain ⟨p, hp, hu⟩ := hu
    exact ids_rng d _ (h.2 p hp) u hu
theorem few41 {ks : List Int} (hn : ks.Nodup) (h : ∀ u ∈ ks, 0 ≤ u ∧ u < 41) : ks.length ≤ 41 := by
  have := nodup_le (ys := (List.range 41).map Int.ofNat) hn fun u hu => by
    obtain ⟨h1, h2⟩ := h u hu
    exact List.mem_map.mpr ⟨u.toNat, by simp; omega, by simp; omega⟩
  simpa using this
theorem flat_len {α β : Type} {l : List α} {f : α → List β} {g : α → Nat} (h : ∀ x ∈ l, (f x).length ≤ 3 * g x) : (l.flatMap f).length ≤ 3 * (l.map g).sum := by
  induction l with
  | nil => simp
  | cons x r ih =>
    have h1 := h x (by simp)
    have h2 := ih fun y hy => h y (by simp [hy])
    simp only [List.flatMap_cons, List.length_append, List.map_cons, List.sum_cons]; omega
theorem ids_len : ∀ (d : Nat) (s : Sy), s.ok d → s.ids.length ≤ 3 * s.sz
  | d, .sum ps n, h => by
    have h : ps.length ≤ 3 ∧ ∀ p ∈ ps, 0 ≤ p.1 ∧ p.1 < 41 := by cases d <;> simpa [Sy.ok] using h
    simp [Sy.ids, Sy.sz, h.1]
  | d, .name x, h => by simp [Sy.ids]
  | d, .addr n, h => by simp [Sy.ids]
  | d, .unk n, h => by simp [Sy.ids, Sy.sz]
  | 0, .map es, h => by simp [Sy.ok] at h
  | 0, .node x ts, h => by simp [Sy.ok] at h
  | d + 1, .map es, h => by
    simp only [Sy.ok, Se.ok_iff] at h
    have := flat_len (l := es.toL) (f := fun p => p.2.ids) (g := fun p => 1 + p.2.sz) fun p hp => by
      have := ids_len d _ (h.2 p hp); omega
    simp only [Sy.ids, Se.ids_flat, Sy.sz, Se.sz_sum]; omega
  | d + 1, .node x ts, h => by
    simp only [Sy.ok, Sl.ok_iff] at h
    have := flat_len (l := ts.toL) (f := Sy.ids) (g := Sy.sz) fun p hp => ids_len d _ (h.2 p hp)
    simp only [Sy.ids, Sl.ids_flat, Sy.sz, Sl.sz_sum]; omega
/-! ### the law's list -/
def LFoundOk (d : Nat) (c : Fn) : Prop := ∀ s : Sy, s.ok d → s.sz ≤ 4000000 → c.call "_law_found" [s.toW] = .ok (.lst (s.ids.map .int)) [s.toW]
theorem b_ints {a b : List Int} (h : a.length + b.length ≤ sizeLine) : binW .add (.lst (a.map W.int)) (.lst (b.map W.int)) = some (.lst ((a ++ b).map W.int)) := by
  rw [b_lsts pl_int pl_int (by simpa using h)]; simp
theorem lfound_run {c : Fn} {d : Nat} (hR : ∀ d', d = d' + 1 → LFoundOk d' c) (s : Sy) (ok : s.ok d) (hz : s.sz ≤ 4000000) : (Own.run c fi__law_found [s.toW]).sat fun w ws => w = .lst (s.ids.map .int) ∧ ws = [s.toW] := by
  have hsl : sizeLine = 16777216 := rfl
  have hil := ids_len d s ok
  refine run_to (by rfl) (by simp [fi__law_found, Sb.asn, Sm.asn, Tg.slots]) fun P hP _ => ?_
  cases s with
  | sum ps n =>
    have hps : ps.length ≤ 3 := by
      have : ps.length ≤ 3 ∧ ∀ p ∈ ps, 0 ≤ p.1 ∧ p.1 < 41 := by cases d <;> simpa [Sy.ok] using ok
      exact this.1
    obtain ⟨ys, S', e1, h1, h2⟩ := lcR_map (c := c) (own := [2]) (tg := .one 2) (cs := .nil) (e := .idx (.var 2) (.int 0))
      (f := ppW) (xs := ps) (S := [some (Sy.sum ps n).toW, none, none, none]) (I := fun pre acc S => acc = pre.map (fun p => W.int p.1) ∧ S = [some (Sy.sum ps n).toW, none, none, none]) (by omega) ⟨rfl, rfl⟩ (by
        rintro pre x post acc S hx - ⟨rfl, rfl⟩
        refine ⟨some (.int x.1), _, ?_, by simp, rfl⟩
        simp [turnR_eq, ppW])
    subst h1 h2
    simp at e1
    simp [fi__law_found, e1]
    refine hP _ _ [_] ?_ ⟨?_, rfl⟩ <;> simp [Sy.ids]
  | name x =>
    simp [fi__law_found]
    refine hP _ _ [_] ?_ ⟨?_, rfl⟩ <;> simp [Sy.ids]
  | addr n =>
    simp [fi__law_found]
    refine hP _ _ [_] ?_ ⟨?_, rfl⟩ <;> simp [Sy.ids]
  | unk n =>
    simp [fi__law_found]
    refine hP _ _ [_] ?_ ⟨?_, rfl⟩ <;> simp [Sy.ids]
  | map es =>
    cases d with
    | zero => simp [Sy.ok] at ok
    | succ d =>
      simp only [Sy.ok, Se.ok_iff] at ok
      have hR := hR d rfl
      simp only [Sy.ids, Se.ids_flat] at hil
      simp only [Sy.sz, Se.sz_sum] at hz hil
      simp [fi__law_found]
      refine sat_nx (P := fun S => ∃ r2, S = [some (Sy.map es).toW, some (.lst ((es.toL.flatMap fun p => p.2.ids).map .int)), r2, none])
        (foR_mapP (fun pre S => ∃ r2, S = [some (Sy.map es).toW, some (.lst ((pre.flatMap fun p => p.2.ids).map .int)), r2, none]) ⟨none, by simp⟩ ?_ fun S h => ⟨rfl, h⟩) ?_
      · rintro pre x post S P' hx ⟨r2, rfl⟩ hn - - -
        refine ⟨_, rfl, ?_⟩
        have hin : x ∈ es.toL := by rw [hx]; simp
        have hsum := congrArg (fun l => (l.map fun p : Wrd × Sy => 1 + p.2.sz).sum) hx
        simp at hsum
        have hc := hR x.2 (ok.2 x hin) (by omega)
        have l1 := flat_len (l := pre) (f := fun p => p.2.ids) (g := fun p => 1 + p.2.sz) fun p hp => by
          have := ids_len d _ (ok.2 p (by rw [hx]; simp [hp])); omega
        have l2 := ids_len d _ (ok.2 x hin)
        have b := b_ints (a := pre.flatMap fun p => p.2.ids) (b := x.2.ids) (by omega)
        have fin := hn _ ⟨some (seW x), rfl⟩
        simp [seW] at fin b
        simp [seW, hc, b]
        exact fin
      · rintro S ⟨r2, rfl⟩
        simp
        refine hP _ _ [_] ?_ ⟨?_, rfl⟩ <;> simp [Sy.ids, Se.ids_flat]
  | node x ts =>
    cases d with
    | zero => simp [Sy.ok] at ok
    | succ d =>
      simp only [Sy.ok, Sl.ok_iff] at ok
      have hR := hR d rfl
      simp only [Sy.ids, Sl.ids_flat] at hil
      simp only [Sy.sz, Sl.sz_sum] at hz hil
      simp [fi__law_found]
      refine sat_nx (P := fun S => ∃ r3, S = [some (Sy.node x ts).toW, some (.lst ((ts.toL.flatMap Sy.ids).map .int)), none, r3])
        (foR_mapP (fun pre S => ∃ r3, S = [some (Sy.node x ts).toW, some (.lst ((pre.flatMap Sy.ids).map .int)), none, r3]) ⟨none, by simp⟩ ?_ fun S h => ⟨rfl, h⟩) ?_
      · rintro pre y post S P' hx ⟨r3, rfl⟩ hn - - -
        refine ⟨_, rfl, ?_⟩
        have hin : y ∈ ts.toL := by rw [hx]; simp
        have hsum := congrArg (fun l => (l.map Sy.sz).sum) hx
        simp at hsum
        have hc := hR y (ok.2 y hin) (by omega)
        have l1 := flat_len (l := pre) (f := Sy.ids) (g := Sy.sz) fun p hp => ids_len d _ (ok.2 p (by rw [hx]; simp [hp]))
        have l2 := ids_len d _ (ok.2 y hin)
        have b := b_ints (a := pre.flatMap Sy.ids) (b := y.ids) (by omega)
        have fin := hn _ ⟨some y.toW, rfl⟩
        simp at fin b
        simp [hc, b]
        exact fin
      · rintro S ⟨r3, rfl⟩
        simp
        refine hP _ _ [_] ?_ ⟨?_, rfl⟩ <;> simp [Sy.ids, Sl.ids_flat]
/-! ### once -/
theorem in_ints {u : Int} {xs : List Int} : inW (.int u) (.lst (xs.map W.int)) = some (decide (u ∈ xs)) := by
  unfold inW
  simp only [dctW, seqW]
  rw [if_pos (by simp [List.all_map, Function.comp_def])]
  congr 1
  induction xs with
  | nil => rfl
  | cons y r ih =>
    have he : eqS (.int y) (.int u) = (y == u) := rfl
    simp only [List.map_cons, List.any_cons, ih, he, List.mem_cons]
    by_cases e : y = u
    · subst e; simp
    · have h' : ¬ u = y := fun z => e z.symm
      simp [e, h']
theorem sort_ints {xs : List Int} : b1W .sorted (.lst (xs.map W.int)) = some (.lst ((sortI xs).map W.int)) := by
  simp only [b1W]
  unfold sortW
  have h : intsW (xs.map W.int) = some xs := by
    have := ints_map (f := id) xs
    simpa using this
  simp only [dctW, lstW, Option.bind, h]
theorem sort_tD {ks : List Int} (h : ks.length ≤ 41) : b1W .sorted (tD ks) = some (.lst ((sortI ks).map W.int)) := by
  have hk : ∀ ks : List Int, kintsW (ks.map .inl) = some ks := by
    intro ks
    induction ks with
    | nil => rfl
    | cons x r ih => simp only [List.map_cons, kintsW, ih, Option.map]
  simp only [b1W]
  unfold sortW tD
  simp only [dctW, hk]
  rw [if_pos (by simp; omega)]
theorem once_run {c : Fn} (xs : List Int) (hx : ∀ u ∈ xs, 0 ≤ u ∧ u < 41) : (Own.run c fi__law_once [.lst (xs.map W.int)]).sat fun w ws => ∃ r : List Int, w = .lst (r.map W.int) ∧ ws = [.lst (xs.map W.int)] ∧ r.Nodup ∧ r.Pairwise (· ≤ ·) ∧ ∀ u, u ∈ r ↔ u ∈ xs := by
  refine run_to (by rfl) (by simp [fi__law_once, Sb.asn, Sm.asn, Tg.slots]) fun P hP _ => ?_
  simp [fi__law_once, sort_ints]
  have hs : (sortI xs).Pairwise (· ≤ ·) := PySem.W.sortI_rises xs
  have hp : (sortI xs).Perm xs := PySem.W.sortI_perm xs
  refine sat_nx (P := fun S => ∃ (r : List Int) (r2 : Option W), S = [some (.lst (xs.map W.int)), some (.lst (r.map W.int)), r2] ∧ r.Nodup ∧ r.Pairwise (· ≤ ·) ∧ ∀ u, u ∈ r ↔ u ∈ xs)
    (foR_mapP (fun pre S => ∃ (r : List Int) (r2 : Option W), S = [some (.lst (xs.map W.int)), some (.lst (r.map W.int)), r2] ∧ r.Nodup ∧ r.Pairwise (· ≤ ·) ∧ ∀ u, u ∈ r ↔ u ∈ pre) ⟨[], none, rfl, List.nodup_nil, List.Pairwise.nil, by simp⟩ ?_ ?_) ?_
  · rintro pre y post S P' hy ⟨r, r2, rfl, h1, h2, h3⟩ hn - - -
    refine ⟨_, rfl, ?_⟩
    have hry : ∀ u ∈ r, u ≤ y := fun u hu => by
      rw [hy] at hs
      exact (List.pairwise_append.mp hs).2.2 u ((h3 u).mp hu) y (by simp)
    have hrl : r.length ≤ 41 := few41 h1 fun u hu => hx u (hp.mem_iff.mp (by rw [hy]; exact List.mem_append_left _ ((h3 u).mp hu)))
    by_cases hm : y ∈ r
    · have i1 := in_ints (u := y) (xs := r)
      simp [hm] at i1
      simp [i1]
      refine hn _ ⟨r, _, rfl, h1, h2, fun u => ?_⟩
      rw [h3, List.mem_append, List.mem_singleton]
      exact ⟨.inl, fun z => z.elim id fun e => e ▸ (h3 y).mp hm⟩
    · have i1 := in_ints (u := y) (xs := r)
      simp [hm] at i1
      have hl2 : r.length < 1000 := by omega
      simp [i1, hl2]
      refine hn _ ⟨r ++ [y], some (.int y), by simp, ?_, ?_, fun u => ?_⟩
      · rw [List.nodup_append]
        exact ⟨h1, by simp, fun a ha b hb e => by simp at hb; subst hb; subst e; exact hm ha⟩
      · rw [List.pairwise_append]
        exact ⟨h2, by simp, fun a ha b hb => by simp at hb; subst hb; exact hry a ha⟩
      · rw [List.mem_append, List.mem_append, h3]
  · rintro S ⟨r, r2, rfl, h1, h2, h3⟩
    exact ⟨rfl, r, r2, rfl, h1, h2, fun u => (h3 u).trans hp.mem_iff⟩
  · rintro S ⟨r, r2, rfl, h1, h2, h3⟩
    simp
    exact hP _ _ _ rfl ⟨r, rfl, rfl, h1, h2, h3⟩
end OwnLaw

/-! the program's unknowns -/
namespace OwnLaw
open PySem L2 Own
@[simp] theorem isnot_non : cmpW .isnot .non .non = some false := (rfl)
theorem unknowns_run {c : Fn} (s : Sy) {d : Nat} (ok : s.ok d) (hw : s.sz ≤ 4000000) : (Own.run c fi_unknowns_in [s.toW]).sat fun w ws => ∃ ks : List Int, w = .lst ((sortI ks).map .int) ∧ ws = [s.toW] ∧ ks.Nodup ∧ ∀ u, u ∈ ks ↔ u ∈ s.ids := by
  have hsl : sizeLine = 16777216 := rfl
  have rng := ids_rng d s ok
  refine run_to (by rfl) (by simp [fi_unknowns_in, Sb.asn, Sm.asn, Tg.slots]) fun P hP _ => ?_
  simp [fi_unknowns_in]
  refine sat_nx (P := fun S => ∃ (ks : List Int) (r2 r3 r4 r5 r6 r7 : Option W), S = [some s.toW, some (tD ks), r2, r3, r4, r5, r6, r7] ∧ ks.Nodup ∧ ∀ u, u ∈ ks ↔ u ∈ s.ids)
    (whR_satP (fun w S => ∃ (ks : List Int) (st : List Sy) (r3 r4 r5 r6 r7 : Option W), S = [some s.toW, some (tD ks), some (.lst (st.map Sy.toW).reverse), r3, r4, r5, r6, r7] ∧ ks.Nodup ∧ (∀ u, (u ∈ ks ∨ ∃ t ∈ st, u ∈ t.ids) ↔ u ∈ s.ids) ∧ szS st = w ∧ szS st ≤ 4000000 ∧ ∀ t ∈ st, ∃ d, t.ok d) (m := s.sz) ⟨[], [s], none, none, none, none, none, by simp [tD], List.nodup_nil, by simp, by simp [szS], by simp [szS]; omega, by simp; exact ⟨d, ok⟩⟩ (by show s.sz < 1000000000000000000; omega) ?_) ?_
  · rintro w S ⟨ks, st, r3, r4, r5, r6, r7, rfl, hnd, hmem, hwt, hle, hok⟩
    have kr : ∀ u ∈ ks, 0 ≤ u ∧ u < 41 := fun u hu => rng u ((hmem u).mp (.inl hu))
    have kl := few41 hnd kr
    cases st with
    | nil =>
      exact .inl ⟨[some s.toW, some (tD ks), some (.lst []), r3, r4, r5, r6, r7], by simp, rfl, ks, _, r3, r4, r5, r6, r7, rfl, hnd, fun u => by rw [← hmem]; simp⟩
    | cons top rest =>
      refine .inr ⟨[some s.toW, some (tD ks), some (.lst ((top :: rest).map Sy.toW).reverse), r3, r4, r5, r6, r7], by simp, fun P' hn2 _ _ _ => ?_⟩
      have hcons : szS (top :: rest) = top.sz + szS rest := by simp [szS]
      have hln := szS_len rest
      have hpos := top.sz_pos
      obtain ⟨d', ok'⟩ := hok top (by simp)
      have hrest : ∀ t ∈ rest, ∃ d, t.ok d := fun t ht => hok t (by simp [ht])
      have done : ∀ (ks' : List Int) (st' : List Sy) (q3 q4 q5 q6 q7 : Option W), ks'.Nodup → (∀ u, (u ∈ ks' ∨ ∃ t ∈ st', u ∈ t.ids) ↔ u ∈ s.ids) → szS st' < w → (∀ t ∈ st', ∃ d, t.ok d) → P' .nx [some s.toW, some (tD ks'), some (.lst (st'.map Sy.toW).reverse), q3, q4, q5, q6, q7] := fun ks' st' q3 q4 q5 q6 q7 a b c' d' => hn2 _ _ c' ⟨ks', st', q3, q4, q5, q6, q7, rfl, a, b, rfl, by omega, d'⟩
      have none_ : top.ids = [] → P' .nx [some s.toW, some (tD ks), some (.lst (rest.map Sy.toW).reverse), some top.toW, r4, r5, r6, r7] := fun h0 => done ks rest _ _ _ _ _ hnd (fun u => by
        rw [← hmem]; simp [h0]) (by omega) hrest
      cases top with
      | name x =>
        have fin := none_ rfl
        simp at fin
        simp
        exact fin
      | addr k =>
        have fin := none_ rfl
        simp at fin
        simp
        exact fin
      | unk k =>
        have fin := done (addK ks k) rest (some (Sy.unk k).toW) r4 r5 r6 r7 (addK_nodup hnd) (fun u => by
          rw [← hmem, addK_mem]
          simp [Sy.ids, or_assoc]) (by omega) hrest
        have p1 := put_tD (ks := ks) (u := k) kl
        simp at fin
        simp [p1]
        exact fin
      | sum ps k =>
        simp
        refine foR_mapP (fun pre S => ∃ (ks' : List Int) (r4 r5 : Option W), S = [some s.toW, some (tD ks'), some (.lst (rest.map Sy.toW).reverse), some (Sy.sum ps k).toW, r4, r5, r6, r7] ∧ ks'.Nodup ∧ ∀ u, u ∈ ks' ↔ u ∈ ks ∨ u ∈ pre.map (·.1)) ⟨ks, r4, r5, by simp, hnd, by simp⟩ ?_ ?_
        · rintro pre x post S P3 hx ⟨ks', r4, r5, rfl, h1, h2⟩ hn3 - - -
          refine ⟨_, rfl, ?_⟩
          have hid : ∀ u ∈ (pre ++ [x]).map (·.1), u ∈ s.ids := fun u hu => by
            rw [← hmem]
            refine .inr ⟨_, List.mem_cons_self, ?_⟩
            simp only [Sy.ids, hx]
            simp at hu ⊢
            rcases hu with ⟨b, hb⟩ | hu
            · exact .inl ⟨b, hb⟩
            · exact .inr (.inl hu)
          have kl' := few41 h1 fun u hu => by
            rcases (h2 u).mp hu with z | z
            · exact kr u z
            · exact rng u (hid u (by rw [List.map_append]; exact List.mem_append_left _ z))
          have p1 := put_tD (ks := ks') (u := x.1) kl'
          have fin := hn3 _ ⟨addK ks' x.1, some (.int x.1), some (.int x.2), rfl, addK_nodup h1, fun u => by
            rw [addK_mem, h2]; simp [or_assoc]⟩
          simp at fin
          simp [ppW, p1]
          exact fin
        · rintro S ⟨ks', r4, r5, rfl, h1, h2⟩
          exact done ks' rest _ _ _ _ _ h1 (fun u => by
            rw [h2, ← hmem]; simp [Sy.ids, or_assoc]) (by omega) hrest
      | node x ts =>
        obtain ⟨d2, rfl⟩ : ∃ d2, d' = d2 + 1 := by
          cases d' with
          | zero => simp [Sy.ok] at ok'
          | succ d2 => exact ⟨d2, rfl⟩
        simp only [Sy.ok, Sl.ok_iff] at ok'
        have fin := done ks (ts.toL.reverse ++ rest) (some (Sy.node x ts).toW) r4 r5 r6 r7 hnd (fun u => by
          rw [← hmem]
          simp only [List.mem_append, List.mem_reverse, List.mem_cons, Sy.ids, Sl.ids_flat]
          constructor
          · rintro (h | ⟨t, h1 | h1, h2⟩)
            · exact .inl h
            · exact .inr ⟨_, .inl rfl, by simp only [Sy.ids, Sl.ids_flat]; exact List.mem_flatMap.mpr ⟨t, h1, h2⟩⟩
            · exact .inr ⟨t, .inr h1, h2⟩
          · rintro (h | ⟨t, rfl | h1, h2⟩)
            · exact .inl h
            · simp only [Sy.ids, Sl.ids_flat] at h2
              obtain ⟨t', h3, h4⟩ := List.mem_flatMap.mp h2
              exact .inr ⟨t', .inl h3, h4⟩
            · exact .inr ⟨t, .inr h1, h2⟩) (by
          simp only [Sy.sz, Sl.sz_sum] at hcons
          rw [szS_app, szS_rev]
          unfold szS at hcons hwt ⊢
          omega) (by
          intro t ht
          rcases List.mem_append.mp ht with ht | ht
          · exact ⟨d2, ok'.2 t (by simpa using ht)⟩
          · exact hrest t ht)
        have al : (rest.map Sy.toW).reverse.length + (ts.toL.map Sy.toW).length ≤ sizeLine := by simp; omega
        simp at fin al
        simp [extO_some, al]
        exact fin
      | map es =>
        obtain ⟨d2, rfl⟩ : ∃ d2, d' = d2 + 1 := by
          cases d' with
          | zero => simp [Sy.ok] at ok'
          | succ d2 => exact ⟨d2, rfl⟩
        simp only [Sy.ok, Se.ok_iff] at ok'
        simp
        let both : List (Wrd × Sy) → List Sy := fun l => l.flatMap fun p => [Sy.name p.1, p.2]
        have bsz : ∀ l, szS (both l) = (l.map fun p => 1 + p.2.sz).sum := by
          intro l
          induction l with
          | nil => rfl
          | cons p r ih =>
            have : both (p :: r) = [Sy.name p.1, p.2] ++ both r := rfl
            rw [this, szS_app, ih]
            simp [szS, Sy.sz]
        have blen : ∀ l, (both l).length = 2 * l.length := by
          intro l
          induction l with
          | nil => rfl
          | cons p r ih =>
            have : both (p :: r) = [Sy.name p.1, p.2] ++ both r := rfl
            rw [this, List.length_append, ih]
            simp; omega
        refine foR_mapP (fun pre S => ∃ (r6 r7 : Option W), S = [some s.toW, some (tD ks), some (.lst ((rest.map Sy.toW).reverse ++ (both pre).map Sy.toW)), some (Sy.map es).toW, r4, r5, r6, r7]) ⟨r6, r7, by simp [both]⟩ ?_ ?_
        · rintro pre x post S P3 hx ⟨r6, r7, rfl⟩ hn3 - - -
          refine ⟨_, rfl, ?_⟩
          have hlx : pre.length + 1 ≤ es.toL.length := by
            have := congrArg List.length hx
            simp at this; omega
          have fin := hn3 _ ⟨some (Sy.name x.1).toW, some x.2.toW, rfl⟩
          have a1 : (rest.map Sy.toW).reverse.length + ((both pre).map Sy.toW).length < sizeLine := by simp [blen]; omega
          have a2 : (rest.map Sy.toW).reverse.length + (((both pre).map Sy.toW) ++ [(Sy.name x.1).toW]).length < sizeLine := by simp [blen]; omega
          have bp : both (pre ++ [x]) = both pre ++ [Sy.name x.1, x.2] := by simp [both]
          rw [bp] at fin
          simp at fin a1 a2
          simp [seW, appO_some, a1, a2]
          exact fin
        · rintro S ⟨r6, r7, rfl⟩
          have fin := done ks ((both es.toL).reverse ++ rest) (some (Sy.map es).toW) r4 r5 r6 r7 hnd (fun u => by
            rw [← hmem]
            simp only [List.mem_append, List.mem_reverse, List.mem_cons]
            constructor
            · rintro (h | ⟨t, h1 | h1, h2⟩)
              · exact .inl h
              · obtain ⟨p, hp, h3⟩ := List.mem_flatMap.mp h1
                simp at h3
                rcases h3 with rfl | rfl
                · simp [Sy.ids] at h2
                · exact .inr ⟨_, .inl rfl, by simp only [Sy.ids, Se.ids_flat]; exact List.mem_flatMap.mpr ⟨p, hp, h2⟩⟩
              · exact .inr ⟨t, .inr h1, h2⟩
            · rintro (h | ⟨t, rfl | h1, h2⟩)
              · exact .inl h
              · simp only [Sy.ids, Se.ids_flat] at h2
                obtain ⟨p, h3, h4⟩ := List.mem_flatMap.mp h2
                exact .inr ⟨p.2, .inl (List.mem_flatMap.mpr ⟨p, h3, by simp⟩), h4⟩
              · exact .inr ⟨t, .inr h1, h2⟩) (by
            simp only [Sy.sz, Se.sz_sum] at hcons
            rw [szS_app, szS_rev, bsz]
            omega) (by
            intro t ht
            rcases List.mem_append.mp ht with ht | ht
            · rw [List.mem_reverse] at ht
              obtain ⟨p, hp, h3⟩ := List.mem_flatMap.mp ht
              simp at h3
              rcases h3 with rfl | rfl
              · exact ⟨0, by simp [Sy.ok]⟩
              · exact ⟨d2, ok'.2 p hp⟩
            · exact hrest t ht)
          simp at fin
          simp
          exact fin
  · rintro S ⟨ks, r2, r3, r4, r5, r6, r7, rfl, h1, h2⟩
    have kl := few41 h1 fun u hu => rng u ((h2 u).mp hu)
    simp [sort_tD kl]
    exact hP _ _ [s.toW] (by simp) ⟨ks, rfl, rfl, h1, h2⟩
end OwnLaw

/-! ways to parts -/
namespace OwnLaw
open PySem L2 Own
inductive Walk : Sy → List Nat → Prop
  | nil (s : Sy) : Walk s []
  | cons {x : Wrd} {ts : Sl} {k : Nat} {t : Sy} {w : List Nat} (h : ts.toL[k]? = some t) (hw : Walk t w) : Walk (.node x ts) (k :: w)
def wayW (w : List Nat) : W := .tup (w.map fun k : Nat => W.int (k : Int))
theorem nats_p {w : List Nat} : pureL (w.map fun k : Nat => W.int (k : Int)) = true := pl_map fun _ => rfl
@[simp] theorem wayW_p (w : List Nat) : (wayW w).pure = true := by simp [wayW, nats_p]
@[simp] theorem pl_ways {l : List (List Nat)} : pureL (l.map wayW) = true := pl_map wayW_p
theorem b_tups {xs ys : List W} (h1 : pureL xs = true) (h2 : pureL ys = true) (h3 : xs.length + ys.length ≤ sizeLine) : binW .add (.tup xs) (.tup ys) = some (.tup (xs ++ ys)) := by
  show (if _ then _ else _) = _
  rw [if_pos (by simp [h1, h2, h3])]
theorem way_cons {k : Nat} {w : List Nat} (h : w.length ≤ 100) : binW .add (.tup [.int (k : Int)]) (wayW w) = some (wayW (k :: w)) := by
  unfold wayW
  rw [b_tups rfl nats_p (by have := line_big; simp; omega)]
  rfl
def WaysOk (d : Nat) (c : Fn) : Prop := ∀ s : Sy, s.ok d → d ≤ 50 → s.sz ≤ 4000000 → (c.call "_law_ways" [s.toW]).sat fun w ws => ∃ L : List (List Nat), w = .lst (L.map wayW) ∧ ws = [s.toW] ∧ L ≠ [] ∧ L.length ≤ s.sz ∧ ∀ y ∈ L, Walk s y ∧ y.length ≤ d
theorem ways_run {c : Fn} {d : Nat} (hR : ∀ d', d = d' + 1 → WaysOk d' c) (s : Sy) (ok : s.ok d) (hd : d ≤ 50) (hz : s.sz ≤ 4000000) : (Own.run c fi__law_ways [s.toW]).sat fun w ws => ∃ L : List (List Nat), w = .lst (L.map wayW) ∧ ws = [s.toW] ∧ L ≠ [] ∧ L.length ≤ s.sz ∧ ∀ y ∈ L, Walk s y ∧ y.length ≤ d := by
  have hsl : sizeLine = 16777216 := rfl
  refine run_to (by rfl) (by simp [fi__law_ways, Sb.asn, Sm.asn, Tg.slots]) fun P hP _ => ?_
  have leaf : ∀ S, outs 0 [s.toW] S = some [s.toW] → P (.rt (.lst [.tup []])) S := fun S h => hP _ _ _ h ⟨[[]], rfl, rfl, by simp, s.sz_pos, by simp; exact Walk.nil s⟩
  cases s with
  | node x ts =>
    cases d with
    | zero => simp [Sy.ok] at ok
    | succ d =>
      simp only [Sy.ok, Sl.ok_iff] at ok
      have hR := hR d rfl
      have hz' : (Sy.node x ts).sz = 1 + (ts.toL.map Sy.sz).sum := by simp only [Sy.sz, Sl.sz_sum]
      have s1 : small62 (ts.toL.length : Int) = true := small_of (by omega) (by omega)
      simp [fi__law_ways, s1]
      refine sat_nx (P := fun S => ∃ (L : List (List Nat)) (r2 r3 : Option W), S = [some (Sy.node x ts).toW, some (.lst (L.map wayW)), r2, r3] ∧ L ≠ [] ∧ L.length ≤ (Sy.node x ts).sz ∧ ∀ y ∈ L, Walk (.node x ts) y ∧ y.length ≤ d + 1)
        (foR_rngP (fun i S => ∃ (L : List (List Nat)) (r2 r3 : Option W), S = [some (Sy.node x ts).toW, some (.lst (L.map wayW)), r2, r3] ∧ L ≠ [] ∧ L.length ≤ 1 + ((ts.toL.take i).map Sy.sz).sum ∧ ∀ y ∈ L, Walk (.node x ts) y ∧ y.length ≤ d + 1) ⟨[[]], none, none, by simp [wayW], by simp, by simp, by simp; exact Walk.nil _⟩ ?_ ?_) ?_
      · rintro i S P' hi ⟨L, r2, r3, rfl, h1, h2, h3⟩ hn - - -
        refine ⟨_, rfl, ?_⟩
        have hin : ts.toL[i] ∈ ts.toL := List.getElem_mem hi
        have hxi : ts.toL[i]? = some ts.toL[i] := by simp [hi]
        have htk : ((ts.toL.take (i + 1)).map Sy.sz).sum = ((ts.toL.take i).map Sy.sz).sum + ts.toL[i].sz := by
          rw [List.take_succ_eq_append_getElem hi, List.map_append, List.sum_append]
          simp only [List.map_cons, List.map_nil, List.sum_cons, List.sum_nil, Nat.add_zero]
        have hall : ((ts.toL.take (i + 1)).map Sy.sz).sum ≤ (ts.toL.map Sy.sz).sum := by
          have := congrArg (fun l => (l.map Sy.sz).sum) (List.take_append_drop (i + 1) ts.toL)
          simp only [List.map_append, List.sum_append] at this
          omega
        obtain ⟨_, _, e1, L', rfl, rfl, g1, g2, g3⟩ := hR ts.toL[i] (ok.2 _ hin) (by omega) (by omega)
        obtain ⟨ys, S', e2, k1, k2⟩ := lcR_map (c := c) (own := [3]) (tg := .one 3) (cs := .nil) (e := .bin .add (.tup (.cons (.var 2) .nil)) (.var 3)) (f := wayW) (xs := L')
          (S := [some (Sy.node x ts).toW, some (.lst (L.map wayW)), some (.int (i : Int)), none]) (I := fun pre acc S => acc = (pre.map fun w => i :: w).map wayW ∧ S = [some (Sy.node x ts).toW, some (.lst (L.map wayW)), some (.int (i : Int)), none]) (by omega) ⟨rfl, rfl⟩ (by
            rintro pre w post acc S hx - ⟨rfl, rfl⟩
            refine ⟨some (wayW (i :: w)), _, ?_, by simp, rfl⟩
            have hw := (g3 w (by rw [hx]; simp)).2
            have b := way_cons (k := i) (w := w) (by omega)
            simp [turnR_eq, b])
        subst k1 k2
        have b : binW .add (.lst (L.map wayW)) (.lst ((L'.map fun w => i :: w).map wayW)) = some (.lst ((L ++ L'.map fun w => i :: w).map wayW)) := by
          rw [b_lsts pl_ways pl_ways (by simp; omega)]; simp
        have fin := hn _ ⟨L ++ L'.map fun w => i :: w, some (.int i), r3, rfl, by simp [h1], by rw [List.length_append, List.length_map, htk]; omega, by
          intro y hy
          rcases List.mem_append.mp hy with hy | hy
          · exact h3 y hy
          · obtain ⟨w, hw, rfl⟩ := List.mem_map.mp hy
            exact ⟨.cons hxi (g3 w hw).1, by have := (g3 w hw).2; simp; omega⟩⟩
        simp at e2 b fin e1
        simp [hi, e1, e2, b]
        exact fin
      · rintro S ⟨L, r2, r3, rfl, h1, h2, h3⟩
        refine ⟨rfl, L, r2, r3, rfl, h1, ?_, h3⟩
        rw [List.take_length] at h2
        omega
      · rintro S ⟨L, r2, r3, rfl, h1, h2, h3⟩
        simp
        exact hP _ _ [(Sy.node x ts).toW] (by simp) ⟨L, rfl, rfl, h1, h2, h3⟩
  | sum ps n => simp at leaf; simp [fi__law_ways]; exact leaf _
  | name n => simp at leaf; simp [fi__law_ways]; exact leaf _
  | addr n => simp at leaf; simp [fi__law_ways]; exact leaf _
  | unk n => simp at leaf; simp [fi__law_ways]; exact leaf _
  | map es => simp at leaf; simp [fi__law_ways]; exact leaf _
/-! ### another part put there -/
def child (s : Sy) (k : Nat) : Sy := match s with | .node _ ts => ts.toL.getD k (.addr 0) | _ => .addr 0
def setC (s : Sy) (k : Nat) (a : Sy) : Sy := match s with | .node x ts => .node x (slOf (ts.toL.set k a)) | s => s
def putS : List Nat → Sy → Sy → Sy
  | [], _, p => p | k :: w, s, p => setC s k (putS w (child s k) p)
@[simp] theorem list_tup {xs : List W} (h : pureL xs = true) : b1W .list (.tup xs) = some (.lst xs) := if_pos h
def LPutOk (n : Nat) (c : Fn) : Prop := ∀ (d : Nat) (s : Sy) (w : List Nat) (p : Sy), s.ok d → Walk s w → w.length ≤ n → c.call "_law_put" [s.toW, wayW w, p.toW] = .ok (putS w s p).toW [s.toW, wayW w, p.toW]
theorem lput_run {c : Fn} {n : Nat} (hR : ∀ n', n = n' + 1 → LPutOk n' c) (d : Nat) (s : Sy) (w : List Nat) (p : Sy) (ok : s.ok d) (hw : Walk s w) (hn : w.length ≤ n) : Own.run c fi__law_put [s.toW, wayW w, p.toW] = .ok (putS w s p).toW [s.toW, wayW w, p.toW] := by
  rw [run_eq rfl (by simp [Sb.asn, Sm.asn, Tg.slots, fi__law_put])]
  cases hw with
  | nil => simp [fi__law_put, wayW, putS]
  | @cons x ts k t w h hw =>
    cases n with
    | zero => simp at hn
    | succ n =>
      cases d with
      | zero => simp [Sy.ok] at ok
      | succ d =>
        simp only [Sy.ok, Sl.ok_iff] at ok
        have hlt : k < ts.toL.length := (List.getElem?_eq_some_iff.mp h).1
        have hgt : ts.toL[k] = t := (List.getElem?_eq_some_iff.mp h).2
        have hc := hR n rfl d t w p (ok.2 t (by rw [← hgt]; exact List.getElem_mem hlt)) hw (by simpa using hn)
        have hch : child (.node x ts) k = t := by simp [child, h]
        have pt : putR (some (.lst (ts.toL.map Sy.toW))) (.int k) (putS w t p).toW = some (.lst ((ts.toL.set k (putS w t p)).map Sy.toW)) := by
          rw [put_lst, ixN_nat (by simpa using hlt)]; simp [List.map_set]
        have bt := b_tuple (pl_sys (l := ts.toL.set k (putS w t p)))
        rw [List.map_set] at bt
        simp [wayW] at hc
        simp [bt, fi__law_put, wayW, nats_p, h, hc, pt, b_tuple pl_sys, putS, hch, setC]
/-! ### the program's way -/
def down : List Nat → Sy → List (Sy × Nat) × Sy
  | [], s => ([], s) | k :: w, s => ((s, k) :: (down w (child s k)).1, (down w (child s k)).2)
theorem down_app : ∀ (w : List Nat) (s : Sy) (k : Nat), down (w ++ [k]) s = ((down w s).1 ++ [((down w s).2, k)], child (down w s).2 k)
  | [], s, k => rfl
  | j :: w, s, k => by simp only [List.cons_append, down, down_app w]
theorem walk_app : ∀ (w : List Nat) {s : Sy} {v : List Nat}, Walk s (w ++ v) → Walk (down w s).2 v
  | [], s, v, h => h
  | k :: w, s, v, h => by
    cases h with
    | cons h1 h2 =>
      simp only [down]
      refine walk_app w ?_
      simp [child, h1]
      exact h2
def good (p : Sy × Nat) : Prop := ∃ x ts, p.1 = .node x ts ∧ p.2 < ts.toL.length ∧ ts.toL.length ≤ 3
theorem down_good : ∀ (w : List Nat) (d : Nat) (s : Sy), s.ok d → Walk s w → ∀ p ∈ (down w s).1, good p
  | [], _, _, _, _ => by simp [down]
  | k :: w, d, s, ok, h => by
    cases h with
    | @cons x ts _ t _ h1 h2 =>
      cases d with
      | zero => simp [Sy.ok] at ok
      | succ d =>
        simp only [Sy.ok, Sl.ok_iff] at ok
        have hlt : k < ts.toL.length := (List.getElem?_eq_some_iff.mp h1).1
        have hgt : ts.toL[k] = t := (List.getElem?_eq_some_iff.mp h1).2
        have hch : child (.node x ts) k = t := by simp [child, h1]
        intro p hp
        simp only [down, hch, List.mem_cons] at hp
        rcases hp with rfl | hp
        · exact ⟨x, ts, rfl, hlt, ok.1⟩
        · exact down_good w d t (ok.2 t (by rw [← hgt]; exact List.getElem_mem hlt)) h2 p hp
theorem put_down : ∀ (w : List Nat) (s p : Sy), putS w s p = (down w s).1.foldr (fun q a => setC q.1 q.2 a) p
  | [], _, _ => rfl
  | k :: w, s, p => by simp only [putS, down, List.foldr_cons, put_down w]
def stW (p : Sy × Nat) : W := .tup [p.1.toW, .int p.2]
@[simp] theorem stW_p (p : Sy × Nat) : (stW p).pure = true := by simp [stW]
@[simp] theorem pl_sts {l : List (Sy × Nat)} : pureL (l.map stW) = true := pl_map stW_p
theorem replaced_run {c : Fn} (d : Nat) (s : Sy) (w : List Nat) (p : Sy) (ok : s.ok d) (hw : Walk s w) (hl : w.length ≤ 100) : (Own.run c fi_replaced [s.toW, wayW w, p.toW]).sat fun r ws => r = (putS w s p).toW ∧ ws = [s.toW, wayW w, p.toW] := by
  refine run_to (by rfl) (by simp [fi_replaced, Sb.asn, Sm.asn, Tg.slots]) fun P hP _ => ?_
  have iw : itemsW (wayW w) = some (w.map fun k : Nat => W.int (k : Int)) := items_tup nats_p
  simp [fi_replaced, iw]
  refine sat_nx (P := fun S => ∃ r4, S = [some (down w s).2.toW, some (wayW w), some p.toW, some (.lst ((down w s).1.map stW)), r4, none])
    (foR_mapP (f := fun k : Nat => W.int (k : Int)) (fun pre S => ∃ r4, S = [some (down pre s).2.toW, some (wayW w), some p.toW, some (.lst ((down pre s).1.map stW)), r4, none] ∧ (down pre s).1.length = pre.length) ⟨none, by simp [down], rfl⟩ ?_ fun S h => ⟨rfl, h.choose, h.choose_spec.1⟩) ?_
  · rintro pre k post S P' hx ⟨r4, rfl, hdl⟩ hn - - -
    refine ⟨_, rfl, ?_⟩
    have hpl : pre.length < 1000 := by
      have := congrArg List.length hx
      simp at this; omega
    have hwk := walk_app pre (hx ▸ hw)
    have fin := hn _ ⟨some (.int k), rfl, by rw [down_app]; simp [hdl]⟩
    rw [down_app] at fin
    generalize (down pre s).2 = cur at hwk fin
    cases hwk with
    | @cons x ts _ t _ h1 h2 =>
      have hch : child (.node x ts) k = t := by simp [child, h1]
      have hlt : k < ts.toL.length := (List.getElem?_eq_some_iff.mp h1).1
      have hgt : ts.toL[k] = t := (List.getElem?_eq_some_iff.mp h1).2
      rw [hch] at fin
      simp [stW] at fin
      have hdl2 : (down pre s).1.length < 1000 := by omega
      simp [hdl2, hlt, hgt]
      exact fin
  · rintro S ⟨r4, rfl⟩
    have gd := down_good w d s ok hw
    have hdl : (down w s).1.length = w.length := by
      have : ∀ (w : List Nat) (s : Sy), (down w s).1.length = w.length := by
        intro w
        induction w with
        | nil => intro s; rfl
        | cons k w ih => intro s; simp [down, ih]
      exact this w s
    have lr : lrevW (.lst ((down w s).1.map stW)) = some (.lst ((down w s).1.map stW).reverse) := lrev_lst pl_sts (by simp; omega)
    simp [lr]
    rw [← List.map_reverse (f := stW)]
    refine sat_nx (P := fun S => ∃ r0 r3 r4 r5, S = [r0, some (wayW w), some (putS w s p).toW, r3, r4, r5])
      (foR_mapP (fun pre S => ∃ r4 r5, S = [some (down w s).2.toW, some (wayW w), some (pre.foldl (fun a q => setC q.1 q.2 a) p).toW, some (.lst ((down w s).1.map stW)), r4, r5]) ⟨r4, none, by simp⟩ ?_ ?_) ?_
    · rintro pre q post S P' hx ⟨r4, r5, rfl⟩ hn - - -
      obtain ⟨x, ts, h1, h2, h3⟩ := gd q (by
        have : q ∈ (down w s).1.reverse := by rw [hx]; simp
        simpa using this)
      refine ⟨_, rfl, ?_⟩
      have fin := hn _ ⟨some (.int q.2), some q.1.toW, rfl⟩
      rw [List.foldl_append] at fin
      generalize pre.foldl (fun a q => setC q.1 q.2 a) p = part at fin
      obtain ⟨q1, q2⟩ := q
      simp only at h1 h2 fin
      subst h1
      have hset : ts.toL.set q2 part = ts.toL.take q2 ++ [part] ++ ts.toL.drop (q2 + 1) := by
        rw [List.set_eq_take_append_cons_drop, if_pos h2]; simp
      have c1 : slW (.tup (ts.toL.map Sy.toW)) none (some (q2 : Int)) = some (.tup ((ts.toL.map Sy.toW).take q2)) := sl_toT pl_sys
      have c2 : slW (.tup (ts.toL.map Sy.toW)) (some ((q2 : Int) + 1)) none = some (.tup ((ts.toL.map Sy.toW).drop (q2 + 1))) := sl_fromT (k := q2 + 1) pl_sys
      have pt : pureL ((ts.toL.map Sy.toW).take q2) = true := by rw [← List.map_take]; exact pl_sys
      have pd : pureL ((ts.toL.map Sy.toW).drop (q2 + 1)) = true := by rw [← List.map_drop]; exact pl_sys
      have b1 : binW .add (.tup ((ts.toL.map Sy.toW).take q2)) (.tup [part.toW]) = some (.tup ((ts.toL.map Sy.toW).take q2 ++ [part.toW])) := b_tups pt (by simp) (by have := line_big; simp; omega)
      have b2 : binW .add (.tup ((ts.toL.map Sy.toW).take q2 ++ [part.toW])) (.tup ((ts.toL.map Sy.toW).drop (q2 + 1))) = some (.tup ((ts.toL.map Sy.toW).take q2 ++ [part.toW] ++ (ts.toL.map Sy.toW).drop (q2 + 1))) := b_tups (by simp [pt]) pd (by have := line_big; simp; omega)
      simp [setC, hset] at fin
      simp at b2
      simp [stW, c1, c2, b1, b2, pt, pd]
      exact fin
    · rintro S ⟨r4, r5, rfl⟩
      exact ⟨rfl, some (down w s).2.toW, some (.lst ((down w s).1.map stW)), r4, r5, by rw [List.foldl_reverse, ← put_down]⟩
    · rintro S ⟨r0, r3, r4, r5, rfl⟩
      simp
      exact hP _ _ [s.toW, wayW w, p.toW] (by simp) ⟨rfl, rfl⟩
end OwnLaw

/-! sums of sums -/
namespace OwnLaw
open PySem L2 Own
/-- numbers to numbers -/
abbrev Nm := List (Int × Int)
def nD (e : Nm) : W := .dict (e.map fun p => .inl p.1) (e.map fun p => .int p.2)
def Nm.get : Nm → Int → Option Int | [], _ => none | p :: r, u => if p.1 = u then some p.2 else Nm.get r u
def Nm.put : Nm → Int → Int → Nm | [], u, m => [(u, m)] | p :: r, u, m => if p.1 = u then (u, m) :: r else p :: Nm.put r u m
def Nm.keys (e : Nm) : List Int := e.map (·.1)
@[simp] theorem nD_np {e : Nm} : (nD e).pure = false := (rfl)
@[simp] theorem nD_ld {e : Nm} : isLD (some (nD e)) = true := (rfl)
theorem nD_dgt {u : Int} : ∀ {e : Nm}, dgt (e.map fun p => .inl p.1) (e.map fun p => .int p.2) (.inl u) = (Nm.get e u).map W.int
  | [] => rfl
  | p :: r => by
    simp only [List.map_cons, Own.dgt, Nm.get, Sum.inl.injEq]
    split
    · rfl
    · exact nD_dgt
theorem nD_ix {e : Nm} {u : Int} : idxW (nD e) (.int u) = (Nm.get e u).map W.int := nD_dgt
theorem Nm.keys_ks {e : Nm} : (e.map fun p => (.inl p.1 : Key)) = (Nm.keys e).map .inl := by simp [Nm.keys]
theorem Nm.put_keys {e : Nm} {u m : Int} : Nm.keys (Nm.put e u m) = if u ∈ Nm.keys e then Nm.keys e else Nm.keys e ++ [u] := by
  induction e with
  | nil => simp [Nm.put, Nm.keys]
  | cons p r ih =>
    simp only [Nm.put]
    by_cases h : p.1 = u
    · simp [h, Nm.keys]
    · have h' : ¬ u = p.1 := fun z => h z.symm
      rw [if_neg h]
      simp only [Nm.keys, List.map_cons, List.mem_cons, h', false_or] at ih ⊢
      rw [ih]
      split
      · rename_i h2; simp only [h2, if_true]
      · rename_i h2; simp only [h2, if_false, List.cons_append]
theorem Nm.put_nodup {e : Nm} {u m : Int} (h : (Nm.keys e).Nodup) : (Nm.keys (Nm.put e u m)).Nodup := by
  rw [Nm.put_keys]
  split
  · exact h
  · rename_i hn
    rw [List.nodup_append]
    exact ⟨h, by simp, fun a ha b hb e => by simp at hb; subst hb; subst e; exact hn ha⟩
theorem Nm.put_len {e : Nm} {u m : Int} : (Nm.put e u m).length ≤ e.length + 1 := by
  have := congrArg List.length (Nm.put_keys (e := e) (u := u) (m := m))
  split at this <;> simp [Nm.keys] at this <;> omega
theorem Nm.put_not {u m : Int} : ∀ {e : Nm}, u ∉ Nm.keys e → Nm.put e u m = e ++ [(u, m)]
  | [], _ => rfl
  | p :: r, h => by
    simp only [Nm.keys, List.map_cons, List.mem_cons, not_or] at h
    rw [Nm.put, if_neg fun z => h.1 z.symm, Nm.put_not h.2]; rfl
theorem Nm.get_of {e : Nm} {u : Int} (h : u ∈ Nm.keys e) : ∃ m, Nm.get e u = some m := by
  induction e with
  | nil => simp [Nm.keys] at h
  | cons p r ih =>
    simp only [Nm.get]
    split
    · exact ⟨_, rfl⟩
    · rename_i n
      simp only [Nm.keys, List.map_cons, List.mem_cons] at h
      exact ih (h.resolve_left fun z => n z.symm)
theorem nD_dset_not {u : Int} {w : W} : ∀ {e : Nm}, u ∉ Nm.keys e → Own.dset (e.map fun p => .inl p.1) (e.map fun p => .int p.2) (.inl u) w = e.map fun p => .int p.2
  | [], _ => rfl
  | p :: r, h => by
    simp only [Nm.keys, List.map_cons, List.mem_cons, not_or] at h
    have h1 : ¬ (Sum.inl p.1 : Key) = .inl u := fun z => h.1 (Sum.inl.inj z).symm
    simp only [List.map_cons, Own.dset, if_neg h1]
    rw [nD_dset_not h.2]
theorem nD_dset_in {u m : Int} : ∀ {e : Nm}, (Nm.keys e).Nodup → u ∈ Nm.keys e → Own.dset (e.map fun p => .inl p.1) (e.map fun p => .int p.2) (.inl u) (.int m) = (Nm.put e u m).map fun p => .int p.2
  | [], _, h => by simp [Nm.keys] at h
  | p :: r, hn, h => by
    simp only [Nm.keys, List.map_cons, List.nodup_cons] at hn
    simp only [List.map_cons, Own.dset, Nm.put]
    by_cases hp : p.1 = u
    · subst hp
      rw [if_pos rfl, if_pos rfl, nD_dset_not hn.1]; rfl
    · have h1 : ¬ (Sum.inl p.1 : Key) = .inl u := fun z => hp (Sum.inl.inj z)
      simp only [Nm.keys, List.map_cons, List.mem_cons] at h
      rw [if_neg h1, if_neg hp, nD_dset_in hn.2 (h.resolve_left fun z => hp z.symm)]; rfl
theorem nD_has {e : Nm} {u : Int} : hasK (e.map fun p => .inl p.1) (.inl u) = decide (u ∈ Nm.keys e) := by
  rw [Bool.eq_iff_iff, hasK_iff, decide_eq_true_eq, Nm.keys_ks, List.mem_map]
  exact ⟨fun ⟨y, h1, h2⟩ => by rw [← Sum.inl.inj h2]; exact h1, fun h => ⟨u, h, rfl⟩⟩
theorem nD_put {e : Nm} {u m : Int} (hn : (Nm.keys e).Nodup) (h : e.length ≤ 100) : putR (some (nD e)) (.int u) (.int m) = some (nD (Nm.put e u m)) := by
  have hp : pureL (e.map fun p => W.int p.2) = true := pl_map fun _ => rfl
  have hl : e.length < sizeLine := by have := line_big; omega
  unfold nD putR
  simp only [dkey, Option.bind, hp, W.pure, Bool.true_and, List.length_map, hl, decide_true, if_true, nD_has]
  by_cases hm : u ∈ Nm.keys e
  · have h3 : (Nm.put e u m).map (fun p => (.inl p.1 : Key)) = e.map fun p => .inl p.1 := by rw [Nm.keys_ks, Nm.keys_ks, Nm.put_keys, if_pos hm]
    simp only [hm, decide_true, if_true, nD_dset_in hn hm, h3]
  · simp only [hm, decide_false, Bool.false_eq_true, if_false, Nm.put_not hm, List.map_append, List.map_cons, List.map_nil]
theorem nD_dc {e : Nm} {u m : Int} (hn : (Nm.keys e).Nodup) : dcPut (e.map fun p => .inl p.1, e.map fun p => .int p.2) (.inl u) (.int m) = ((Nm.put e u m).map fun p => .inl p.1, (Nm.put e u m).map fun p => .int p.2) := by
  unfold dcPut
  rw [nD_has]
  by_cases hm : u ∈ Nm.keys e
  · have h3 : (Nm.put e u m).map (fun p => (.inl p.1 : Key)) = e.map fun p => .inl p.1 := by rw [Nm.keys_ks, Nm.keys_ks, Nm.put_keys, if_pos hm]
    simp only [hm, decide_true, if_true, nD_dset_in hn hm, h3]
  · simp only [hm, decide_false, Bool.false_eq_true, if_false, Nm.put_not hm, List.map_append, List.map_cons, List.map_nil]
theorem nD_get {e : Nm} {u k : Int} : getW (some (nD e)) (some (.int u)) (some (.int k)) = some (.int ((Nm.get e u).getD k)) := by
  show some ((dgt (e.map fun p => .inl p.1) (e.map fun p => .int p.2) (.inl u)).getD (.int k)) = _
  rw [nD_dgt]
  cases Nm.get e u <;> rfl
theorem nD_sort {e : Nm} (h : e.length ≤ 60) : b1W .sorted (nD e) = some (.lst ((sortI (Nm.keys e)).map W.int)) := by
  have hk : ∀ ks : List Int, kintsW (ks.map .inl) = some ks := by
    intro ks
    induction ks with
    | nil => rfl
    | cons x r ih => simp only [List.map_cons, kintsW, ih, Option.map]
  simp only [b1W]
  unfold sortW nD
  simp only [dctW, Nm.keys_ks, hk]
  rw [if_pos (by simp [Nm.keys]; omega)]
def from1 (ps : List (Int × Int)) (e : Nm) : Nm := ps.foldl (fun e p => Nm.put e p.1 p.2) e
def more1 (sg : Int) (ps : List (Int × Int)) (e : Nm) : Nm := ps.foldl (fun e p => Nm.put e p.1 ((Nm.get e p.1).getD 0 + sg * p.2)) e
theorem from1_ok : ∀ (ps : List (Int × Int)) (e : Nm), (Nm.keys e).Nodup → (Nm.keys (from1 ps e)).Nodup ∧ (from1 ps e).length ≤ e.length + ps.length
  | [], e, h => ⟨h, by simp [from1]⟩
  | p :: ps, e, h => by
    obtain ⟨h1, h2⟩ := from1_ok ps (Nm.put e p.1 p.2) (Nm.put_nodup h)
    have := Nm.put_len (e := e) (u := p.1) (m := p.2)
    exact ⟨h1, by simp only [from1, List.foldl_cons, List.length_cons] at h2 ⊢; omega⟩
theorem more1_ok (sg : Int) : ∀ (ps : List (Int × Int)) (e : Nm), (Nm.keys e).Nodup → (Nm.keys (more1 sg ps e)).Nodup ∧ (more1 sg ps e).length ≤ e.length + ps.length
  | [], e, h => ⟨h, by simp [more1]⟩
  | p :: ps, e, h => by
    obtain ⟨h1, h2⟩ := more1_ok sg ps (Nm.put e p.1 ((Nm.get e p.1).getD 0 + sg * p.2)) (Nm.put_nodup h)
    have := Nm.put_len (e := e) (u := p.1) (m := (Nm.get e p.1).getD 0 + sg * p.2)
    exact ⟨h1, by simp only [more1, List.foldl_cons, List.length_cons] at h2 ⊢; omega⟩
/-- what is due of two sums -/
def totals (sg : Int) (a b : List (Int × Int)) : Nm := more1 sg b (from1 a [])
def partsD (e : Nm) : List (Int × Int) := ((sortI (Nm.keys e)).map fun u => (u, (Nm.get e u).getD 0)).filter fun p => p.2 != 0
def sumD (sg : Int) (a b : List (Int × Int)) (n m : Int) : Sy := .sum (partsD (totals sg a b)) (n + sg * m)
theorem added_run {c : Fn} (sg : Int) (hs : sg = 1 ∨ sg = -1) (a b : List (Int × Int)) (n m : Int) (ha : a.length ≤ 3) (hb : b.length ≤ 3) : (Own.run c fi_added [(Sy.sum a n).toW, (Sy.sum b m).toW, .int sg]).sat fun w ws => w = (sumD sg a b n m).toW ∧ ws = [(Sy.sum a n).toW, (Sy.sum b m).toW, .int sg] := by
  have ml : ∀ x : Int, binW .mul (.int sg) (.int x) = some (.int (sg * x)) := fun x => b_mul (mulOk_l _ _ (by rcases hs with rfl | rfl <;> decide))
  refine run_to (by rfl) (by simp [fi_added, Sb.asn, Sm.asn, Tg.slots]) fun P hP _ => ?_
  obtain ⟨ys, S', e1, k1, k2⟩ := dcR_map (c := c) (own := [4, 5]) (tg := .many [4, 5]) (cs := .nil) (k := .var 4) (v := .var 5) (f := ppW) (xs := a) (S := [some (Sy.sum a n).toW, some (Sy.sum b m).toW, some (.int sg), none, none, none, none])
    (I := fun pre acc S => (∃ e : Nm, acc = (e.map fun p => .inl p.1, e.map fun p => .int p.2) ∧ e = from1 pre []) ∧ S = [some (Sy.sum a n).toW, some (Sy.sum b m).toW, some (.int sg), none, none, none, none]) (by have := line_big; omega) ⟨⟨[], rfl, rfl⟩, rfl⟩ (by
      rintro pre x post acc S hx - ⟨⟨e, rfl, rfl⟩, rfl⟩
      refine ⟨some (.int x.1, .int x.2), [some (Sy.sum a n).toW, some (Sy.sum b m).toW, some (.int sg), none, none, none, none], ?_, .inl x.1, rfl, rfl, ⟨_, nD_dc (from1_ok pre [] (by simp [Nm.keys])).1, by simp [from1]⟩, rfl⟩
      simp [turnDR_eq, ppW])
  obtain ⟨e, rfl, rfl⟩ := k1
  subst k2
  obtain ⟨f1, f2⟩ := from1_ok a [] (by simp [Nm.keys])
  simp at e1
  simp [fi_added, e1]
  have hd0 : W.dict ((from1 a []).map fun p => .inl p.1) ((from1 a []).map fun p => .int p.2) = nD (from1 a []) := rfl
  rw [hd0]
  refine sat_nx (P := fun S => ∃ r4 r5, S = [some (Sy.sum a n).toW, some (Sy.sum b m).toW, some (.int sg), some (nD (totals sg a b)), r4, r5, none])
    (foR_mapP (fun pre S => ∃ r4 r5, S = [some (Sy.sum a n).toW, some (Sy.sum b m).toW, some (.int sg), some (nD (more1 sg pre (from1 a []))), r4, r5, none]) ⟨none, none, by simp [more1]⟩ ?_ fun S h => ⟨rfl, h⟩) ?_
  · rintro pre x post S P' hx ⟨r4, r5, rfl⟩ hn - - -
    refine ⟨_, rfl, ?_⟩
    obtain ⟨g1, g2⟩ := more1_ok sg pre _ f1
    have hpl : pre.length ≤ b.length := by rw [hx]; simp
    have fin := hn _ ⟨some (.int x.1), some (.int x.2), rfl⟩
    have p1 := nD_put (e := more1 sg pre (from1 a [])) (u := x.1) (m := (Nm.get (more1 sg pre (from1 a [])) x.1).getD 0 + sg * x.2) g1 (by simp at f2; omega)
    have p0 := nD_get (e := more1 sg pre (from1 a [])) (u := x.1) (k := 0)
    have hm : more1 sg (pre ++ [x]) (from1 a []) = Nm.put (more1 sg pre (from1 a [])) x.1 ((Nm.get (more1 sg pre (from1 a [])) x.1).getD 0 + sg * x.2) := by simp [more1]
    rw [hm] at fin
    simp at fin
    simp [ppW, p0, ml, p1]
    exact fin
  · rintro S ⟨r4, r5, rfl⟩
    obtain ⟨t1, t2⟩ := more1_ok sg b _ f1
    have tl : (totals sg a b).length ≤ 60 := by simp at f2; show (more1 sg b (from1 a [])).length ≤ 60; omega
    obtain ⟨ys, S', e2, k1, k2⟩ := lcR_map (c := c) (own := [4]) (tg := .one 4) (cs := .cons (.cmp .ne (.idx (.var 3) (.var 4)) (.int 0)) .nil) (e := .tup (.cons (.var 4) (.cons (.idx (.var 3) (.var 4)) .nil))) (f := W.int) (xs := sortI (Nm.keys (totals sg a b)))
      (S := [some (Sy.sum a n).toW, some (Sy.sum b m).toW, some (.int sg), some (nD (totals sg a b)), none, r5, none])
      (I := fun pre acc S => acc = ((pre.map fun u => (u, (Nm.get (totals sg a b) u).getD 0)).filter fun p => p.2 != 0).map ppW ∧ S = [some (Sy.sum a n).toW, some (Sy.sum b m).toW, some (.int sg), some (nD (totals sg a b)), none, r5, none]) (by
        have := (PySem.W.sortI_perm (Nm.keys (totals sg a b))).length_eq
        have hk : (Nm.keys (totals sg a b)).length = (totals sg a b).length := by simp [Nm.keys]
        have := line_big
        show (PySem.W.sortI _).length ≤ _
        omega) ⟨rfl, rfl⟩ (by
        rintro pre u post acc S hx - ⟨rfl, rfl⟩
        obtain ⟨v, hv⟩ := Nm.get_of (e := totals sg a b) (u := u) ((PySem.W.sortI_perm _).mem_iff.mp (by
          show u ∈ sortI _
          rw [hx]; simp))
        by_cases h0 : v = 0
        · refine ⟨none, [some (Sy.sum a n).toW, some (Sy.sum b m).toW, some (.int sg), some (nD (totals sg a b)), none, r5, none], ?_, by simp [hv, h0], rfl⟩
          simp [turnR_eq, nD_ix, hv, h0]
        · refine ⟨some (ppW (u, v)), [some (Sy.sum a n).toW, some (Sy.sum b m).toW, some (.int sg), some (nD (totals sg a b)), none, r5, none], ?_, by simp [hv, h0], rfl⟩
          simp [turnR_eq, nD_ix, hv, h0, ppW])
    subst k1 k2
    have st := nD_sort tl
    have bt := b_tuple (pl_pps (ps := partsD (totals sg a b)))
    have e3 : lcR c [4] (.one 4) (.cons (.cmp .ne (.idx (.var 3) (.var 4)) (.int 0)) .nil) (.tup (.cons (.var 4) (.cons (.idx (.var 3) (.var 4)) .nil))) ((sortI (Nm.keys (totals sg a b))).map W.int) [some (Sy.sum a n).toW, some (Sy.sum b m).toW, some (.int sg), some (nD (totals sg a b)), none, r5, none] = .ok ((partsD (totals sg a b)).map ppW) _ := e2
    simp at e3
    simp [st, e3, bt, ml]
    exact hP _ _ [(Sy.sum a n).toW, (Sy.sum b m).toW, .int sg] (by simp) ⟨by simp [sumD], rfl⟩
theorem ladded_run {c : Fn} (sg : Int) (hs : sg = 1 ∨ sg = -1) (a b : List (Int × Int)) (n m : Int) (ha : a.length ≤ 3) (hb : b.length ≤ 3) : (Own.run c fi__law_added [(Sy.sum a n).toW, (Sy.sum b m).toW, .int sg]).sat fun w ws => w = (sumD sg a b n m).toW ∧ ws = [(Sy.sum a n).toW, (Sy.sum b m).toW, .int sg] := by
  have ml : ∀ x : Int, binW .mul (.int sg) (.int x) = some (.int (sg * x)) := fun x => b_mul (mulOk_l _ _ (by rcases hs with rfl | rfl <;> decide))
  refine run_to (by rfl) (by simp [fi__law_added, Sb.asn, Sm.asn, Tg.slots]) fun P hP _ => ?_
  have hd0 : W.dict [] [] = nD [] := rfl
  obtain ⟨f1, f2⟩ := from1_ok a [] (by simp [Nm.keys])
  simp [fi__law_added, hd0]
  refine sat_nx (P := fun S => ∃ r4, S = [some (Sy.sum a n).toW, some (Sy.sum b m).toW, some (.int sg), some (nD (from1 a [])), r4, none, none])
    (foR_mapP (fun pre S => ∃ r4, S = [some (Sy.sum a n).toW, some (Sy.sum b m).toW, some (.int sg), some (nD (from1 pre [])), r4, none, none]) ⟨none, by simp [from1]⟩ ?_ fun S h => ⟨rfl, h⟩) ?_
  · rintro pre x post S P' hx ⟨r4, rfl⟩ hn - - -
    refine ⟨_, rfl, ?_⟩
    obtain ⟨g1, g2⟩ := from1_ok pre [] (by simp [Nm.keys])
    have hpl : pre.length ≤ a.length := by rw [hx]; simp
    have fin := hn _ ⟨some (ppW x), rfl⟩
    have p1 := nD_put (e := from1 pre []) (u := x.1) (m := x.2) g1 (by simp at g2; omega)
    have hm : from1 (pre ++ [x]) [] = Nm.put (from1 pre []) x.1 x.2 := by simp [from1]
    rw [hm] at fin
    simp [ppW] at fin
    simp [ppW, p1]
    exact fin
  rintro S ⟨r4, rfl⟩
  simp
  refine sat_nx (P := fun S => ∃ r4, S = [some (Sy.sum a n).toW, some (Sy.sum b m).toW, some (.int sg), some (nD (totals sg a b)), r4, none, none])
    (foR_mapP (fun pre S => ∃ r4, S = [some (Sy.sum a n).toW, some (Sy.sum b m).toW, some (.int sg), some (nD (more1 sg pre (from1 a []))), r4, none, none]) ⟨r4, by simp [more1]⟩ ?_ fun S h => ⟨rfl, h⟩) ?_
  · rintro pre x post S P' hx ⟨r4, rfl⟩ hn - - -
    refine ⟨_, rfl, ?_⟩
    obtain ⟨g1, g2⟩ := more1_ok sg pre _ f1
    have hpl : pre.length ≤ b.length := by rw [hx]; simp
    have fin := hn _ ⟨some (ppW x), rfl⟩
    have p1 := nD_put (e := more1 sg pre (from1 a [])) (u := x.1) (m := (Nm.get (more1 sg pre (from1 a [])) x.1).getD 0 + sg * x.2) g1 (by simp at f2; omega)
    have p0 := nD_get (e := more1 sg pre (from1 a [])) (u := x.1) (k := 0)
    have hm : more1 sg (pre ++ [x]) (from1 a []) = Nm.put (more1 sg pre (from1 a [])) x.1 ((Nm.get (more1 sg pre (from1 a [])) x.1).getD 0 + sg * x.2) := by simp [more1]
    rw [hm] at fin
    simp [ppW] at fin
    simp [ppW, p0, ml, p1]
    exact fin
  · rintro S ⟨r4, rfl⟩
    obtain ⟨t1, t2⟩ := more1_ok sg b _ f1
    have tl : (totals sg a b).length ≤ 60 := by simp at f2; show (more1 sg b (from1 a [])).length ≤ 60; omega
    have sl : (sortI (Nm.keys (totals sg a b))).length ≤ 60 := by
      have := (PySem.W.sortI_perm (Nm.keys (totals sg a b))).length_eq
      have hk : (Nm.keys (totals sg a b)).length = (totals sg a b).length := by simp [Nm.keys]
      show (PySem.W.sortI _).length ≤ _
      omega
    have lb := line_big
    obtain ⟨ys, S', e2, k1, k2⟩ := lcR_map (c := c) (own := [6]) (tg := .one 6) (cs := .nil) (e := .tup (.cons (.var 6) (.cons (.idx (.var 3) (.var 6)) .nil))) (f := W.int) (xs := sortI (Nm.keys (totals sg a b)))
      (S := [some (Sy.sum a n).toW, some (Sy.sum b m).toW, some (.int sg), some (nD (totals sg a b)), r4, none, none])
      (I := fun pre acc S => acc = (pre.map fun u => (u, (Nm.get (totals sg a b) u).getD 0)).map ppW ∧ S = [some (Sy.sum a n).toW, some (Sy.sum b m).toW, some (.int sg), some (nD (totals sg a b)), r4, none, none]) (by omega) ⟨rfl, rfl⟩ (by
        rintro pre u post acc S hx - ⟨rfl, rfl⟩
        obtain ⟨v, hv⟩ := Nm.get_of (e := totals sg a b) (u := u) ((PySem.W.sortI_perm _).mem_iff.mp (by
          show u ∈ sortI _
          rw [hx]; simp))
        refine ⟨some (ppW (u, v)), [some (Sy.sum a n).toW, some (Sy.sum b m).toW, some (.int sg), some (nD (totals sg a b)), r4, none, none], ?_, by simp [hv], rfl⟩
        simp [turnR_eq, nD_ix, hv, ppW])
    subst k1 k2
    have st := nD_sort tl
    have bt := b_tuple (pl_pps (ps := partsD (totals sg a b)))
    generalize hl : (sortI (Nm.keys (totals sg a b))).map (fun u => (u, (Nm.get (totals sg a b) u).getD 0)) = l at e2
    have ll : l.length ≤ 60 := by rw [← hl]; simpa using sl
    have hpd : partsD (totals sg a b) = l.filter fun p => p.2 != 0 := by rw [← hl]; rfl
    obtain ⟨ys, S', e3, k1, k2⟩ := lcR_map (c := c) (own := [4]) (tg := .one 4) (cs := .cons (.cmp .ne (.idx (.var 4) (.int 1)) (.int 0)) .nil) (e := .var 4) (f := ppW) (xs := l)
      (S := [some (Sy.sum a n).toW, some (Sy.sum b m).toW, some (.int sg), some (nD (totals sg a b)), none, some (.lst (l.map ppW)), none])
      (I := fun pre acc S => acc = (pre.filter fun p => p.2 != 0).map ppW ∧ S = [some (Sy.sum a n).toW, some (Sy.sum b m).toW, some (.int sg), some (nD (totals sg a b)), none, some (.lst (l.map ppW)), none]) (by omega) ⟨rfl, rfl⟩ (by
        rintro pre x post acc S hx - ⟨rfl, rfl⟩
        by_cases h0 : x.2 = 0
        · refine ⟨none, [some (Sy.sum a n).toW, some (Sy.sum b m).toW, some (.int sg), some (nD (totals sg a b)), none, some (.lst (l.map ppW)), none], ?_, by simp [h0], rfl⟩
          simp [turnR_eq, ppW, h0]
        · refine ⟨some (ppW x), [some (Sy.sum a n).toW, some (Sy.sum b m).toW, some (.int sg), some (nD (totals sg a b)), none, some (.lst (l.map ppW)), none], ?_, by simp [h0], rfl⟩
          simp [turnR_eq, ppW, h0])
    subst k1 k2
    rw [← hpd] at e3
    have e2' : lcR c [6] (.one 6) .nil (.tup (.cons (.var 6) (.cons (.idx (.var 3) (.var 6)) .nil))) ((sortI (Nm.keys (totals sg a b))).map W.int) [some (Sy.sum a n).toW, some (Sy.sum b m).toW, some (.int sg), some (nD (totals sg a b)), r4, none, none] = .ok (l.map ppW) _ := e2
    simp at e2' e3
    simp [st, e2']
    rw [if_pos (by decide +kernel)]
    simp [e3, bt, ml]
    exact hP _ _ [(Sy.sum a n).toW, (Sy.sum b m).toW, .int sg] (by simp) ⟨by simp [sumD], rfl⟩
end OwnLaw

/-! == of a value with itself: values that are data, so deep at most -/
namespace OwnLaw
open PySem L2 Own
inductive Dd : Nat → W → Prop
  | non (n : Nat) : Dd n .non
  | bl (n : Nat) (b : Bool) : Dd n (.bl b)
  | int (n : Nat) (i : Int) : Dd n (.int i)
  | str (n : Nat) (x : Str) (h : PyData.strOk x = true) : Dd n (.str x)
  | tup (n : Nat) (xs : List W) (h : ∀ x ∈ xs, Dd n x) : Dd (n + 1) (.tup xs)
  | flst (n : Nat) (xs : List W) (h : ∀ x ∈ xs, Dd n x) : Dd (n + 1) (.flst xs)
  | lst (n : Nat) (xs : List W) (h : ∀ x ∈ xs, Dd n x) : Dd (n + 1) (.lst xs)
theorem dd_list {n : Nat} : ∀ xs : List W, (∀ x ∈ xs, plnW x = true ∧ x.toD.canLay0 = true ∧ x.toD.depth ≤ n ∧ PyData.eqv x.toD x.toD = true) → plnL xs = true ∧ PyData.canLayAll0 (toDs xs) = true ∧ PyData.depthAll (toDs xs) ≤ n ∧ PyData.eqvAll (toDs xs) (toDs xs) = true
  | [], _ => ⟨rfl, rfl, Nat.zero_le _, rfl⟩
  | x :: xs, h => by
    obtain ⟨a1, a2, a3, a4⟩ := h x (by simp)
    obtain ⟨b1, b2, b3, b4⟩ := dd_list xs fun y hy => h y (by simp [hy])
    refine ⟨by simp [plnL, a1, b1], by simp [toDs, PyData.canLayAll0, a2, b2], ?_, by simp [toDs, PyData.eqvAll, a4, b4]⟩
    simp only [toDs, PyData.depthAll]; omega
theorem Dd.good {n : Nat} {w : W} (h : Dd n w) : plnW w = true ∧ w.toD.canLay0 = true ∧ w.toD.depth ≤ n ∧ PyData.eqv w.toD w.toD = true := by
  induction h with
  | non n => exact ⟨rfl, rfl, Nat.zero_le _, rfl⟩
  | bl n b => exact ⟨rfl, rfl, Nat.zero_le _, by simp [W.toD, PyData.eqv]⟩
  | int n i => exact ⟨rfl, rfl, Nat.zero_le _, by simp [W.toD, PyData.eqv]⟩
  | str n x h => exact ⟨rfl, by simpa [W.toD, PyData.canLay0] using h, by simp [W.toD, PyData.depth], by simp [W.toD, PyData.eqv]⟩
  | tup n xs _ ih | flst n xs _ ih | lst n xs _ ih =>
    obtain ⟨a, b, c, e⟩ := dd_list xs ih
    exact ⟨by simpa [plnW] using a, by simpa [W.toD, PyData.canLay0] using b, by simpa [W.toD, PyData.depth] using c, by simpa [W.toD, PyData.eqv] using e⟩
theorem Dd.okD {n : Nat} {w : W} (h : Dd n w) (hn : n ≤ 199) : okD w = true := by
  obtain ⟨a, b, c, _⟩ := h.good
  simp [Own.okD, a, b]; omega
theorem Dd.eqw {n : Nat} {w : W} (h : Dd n w) (hn : n ≤ 199) : eqW w w = some true := by
  have h1 := h.okD hn
  have h2 : PyData.eqv w.toD w.toD = true := h.good.2.2.2
  cases h with
  | int n i => simp [eqW]
  | str n x h => simp [eqW]
  | _ => unfold eqW; simp only [h1, h2, Bool.and_self, if_true]
theorem Dd.eq {n : Nat} {w : W} (h : Dd n w) (hn : n ≤ 199) : cmpW .eq w w = some true := h.eqw hn
theorem Dd.ne {n : Nat} {w : W} (h : Dd n w) (hn : n ≤ 199) : cmpW .ne w w = some false := by
  show (eqW w w).map _ = _
  rw [h.eqw hn]; rfl
theorem Dd.ints {n : Nat} (l : List Int) : Dd (n + 1) (.lst (l.map W.int)) := .lst _ _ fun x hx => by
  obtain ⟨i, _, rfl⟩ := List.mem_map.mp hx
  exact .int _ _
end OwnLaw

/-! law_k33: all together -/
namespace OwnLaw
open PySem L2 Own
theorem Sy.dd : ∀ (d : Nat) (s : Sy) (n : Nat), s.ok d → Dd (3 * d + 3 + n) s.toW
  | d, .sum ps k, n, h => by
    rw [Sy.w_sum, show 3 * d + 3 + n = (3 * d + 2 + n) + 1 by omega]
    refine .tup _ _ fun x hx => ?_
    simp at hx
    rcases hx with rfl | rfl | rfl
    · exact .str _ _ (strOk_ofString _)
    · rw [show 3 * d + 2 + n = (3 * d + 1 + n) + 1 by omega]
      refine .tup _ _ fun x hx => ?_
      obtain ⟨p, _, rfl⟩ := List.mem_map.mp hx
      rw [show 3 * d + 1 + n = (3 * d + n) + 1 by omega]
      refine .tup _ _ fun x hx => ?_
      simp at hx
      rcases hx with rfl | rfl <;> exact .int _ _
    · exact .int _ _
  | d, .name x, n, h => by
    rw [Sy.w_name, show 3 * d + 3 + n = (3 * d + 2 + n) + 1 by omega]
    refine .tup _ _ fun y hy => ?_
    simp at hy
    rcases hy with rfl | rfl
    · exact .str _ _ (strOk_ofString _)
    · exact .str _ _ x.2
  | d, .addr k, n, h => by
    rw [Sy.w_addr, show 3 * d + 3 + n = (3 * d + 2 + n) + 1 by omega]
    refine .tup _ _ fun y hy => ?_
    simp at hy
    rcases hy with rfl | rfl
    · exact .str _ _ (strOk_ofString _)
    · exact .int _ _
  | d, .unk k, n, h => by
    rw [Sy.w_unk, show 3 * d + 3 + n = (3 * d + 2 + n) + 1 by omega]
    refine .tup _ _ fun y hy => ?_
    simp at hy
    rcases hy with rfl | rfl
    · exact .str _ _ (strOk_ofString _)
    · exact .int _ _
  | 0, .map es, n, h => by simp [Sy.ok] at h
  | 0, .node x ts, n, h => by simp [Sy.ok] at h
  | d + 1, .map es, n, h => by
    simp only [Sy.ok, Se.ok_iff] at h
    rw [Sy.w_map, show 3 * (d + 1) + 3 + n = (3 * d + 5 + n) + 1 by omega]
    refine .tup _ _ fun y hy => ?_
    simp at hy
    rcases hy with rfl | rfl | rfl
    · exact .str _ _ (strOk_ofString _)
    · exact .non _
    · rw [show 3 * d + 5 + n = (3 * d + 4 + n) + 1 by omega]
      refine .tup _ _ fun y hy => ?_
      obtain ⟨p, hp, rfl⟩ := List.mem_map.mp hy
      rw [show 3 * d + 4 + n = (3 * d + 3 + n) + 1 by omega]
      refine .tup _ _ fun y hy => ?_
      simp at hy
      rcases hy with rfl | rfl
      · rw [show 3 * d + 3 + n = (3 * d + 2 + n) + 1 by omega]
        refine .tup _ _ fun y hy => ?_
        simp at hy
        rcases hy with rfl | rfl
        · exact .str _ _ (strOk_ofString _)
        · exact .str _ _ p.1.2
      · exact Sy.dd d _ n (h.2 p hp)
  | d + 1, .node x ts, n, h => by
    simp only [Sy.ok, Sl.ok_iff] at h
    rw [Sy.w_node, show 3 * (d + 1) + 3 + n = (3 * d + 3 + (n + 1) + 1) + 1 by omega]
    refine .tup _ _ fun y hy => ?_
    simp at hy
    rcases hy with rfl | rfl | rfl
    · exact .str _ _ (strOk_ofString _)
    · exact .str _ _ x.2
    · refine .tup _ _ fun y hy => ?_
      obtain ⟨p, hp, rfl⟩ := List.mem_map.mp hy
      exact Sy.dd d _ (n + 1) (h.2 p hp)
theorem Sy.ok_mono : ∀ (d d' : Nat) (s : Sy), d ≤ d' → s.ok d → s.ok d'
  | d, d', .sum ps k, _, h => by cases d <;> cases d' <;> exact h
  | d, d', .name x, _, h => by cases d' <;> exact True.intro
  | d, d', .addr k, _, h => by cases d' <;> exact True.intro
  | d, d', .unk k, _, h => by cases d <;> cases d' <;> exact h
  | 0, _, .map es, _, h => by simp [Sy.ok] at h
  | 0, _, .node x ts, _, h => by simp [Sy.ok] at h
  | d + 1, 0, _, hd, _ => by omega
  | d + 1, d' + 1, .map es, hd, h => by
    simp only [Sy.ok, Se.ok_iff] at h ⊢
    exact ⟨h.1, fun p hp => Sy.ok_mono d d' _ (by omega) (h.2 p hp)⟩
  | d + 1, d' + 1, .node x ts, hd, h => by
    simp only [Sy.ok, Sl.ok_iff] at h ⊢
    exact ⟨h.1, fun p hp => Sy.ok_mono d d' _ (by omega) (h.2 p hp)⟩
theorem put_ok {p : Sy} {m : Nat} (hp : p.ok m) : ∀ (w : List Nat) (d : Nat) (s : Sy), s.ok d → Walk s w → (putS w s p).ok (d + m)
  | [], d, s, _, _ => Sy.ok_mono m _ _ (by omega) hp
  | k :: w, d, s, h, hw => by
    cases hw with
    | @cons x ts _ t _ h1 h2 =>
      cases d with
      | zero => simp [Sy.ok] at h
      | succ d =>
        simp only [Sy.ok, Sl.ok_iff] at h
        have ht : t ∈ ts.toL := List.mem_of_getElem? h1
        have ih := put_ok hp w d t (h.2 t ht) h2
        have hc : child (.node x ts) k = t := by simp [child, h1]
        rw [show d + 1 + m = (d + m) + 1 by omega]
        simp only [putS, hc, setC, Sy.ok, Sl.ok_iff, slOf_toL, List.length_set]
        refine ⟨h.1, fun y hy => ?_⟩
        rcases List.mem_or_eq_of_mem_set hy with hy | rfl
        · exact Sy.ok_mono d _ _ (by omega) (h.2 y hy)
        · exact ih
theorem sum_dd (sg : Int) (a b : List (Int × Int)) (n m : Int) : Dd 3 (sumD sg a b n m).toW := by
  unfold sumD
  rw [Sy.w_sum]
  refine .tup _ _ fun x hx => ?_
  simp at hx
  rcases hx with rfl | rfl | rfl
  · exact .str _ _ (strOk_ofString _)
  · refine .tup _ _ fun x hx => ?_
    obtain ⟨p, _, rfl⟩ := List.mem_map.mp hx
    refine .tup _ _ fun x hx => ?_
    simp at hx
    rcases hx with rfl | rfl <;> exact .int _ _
  · exact .int _ _
/-! ### the words -/
def xcS (i k : Nat) : Str := Str.ofString "x" ++ numS i ++ Str.ofString "_" ++ numS k
theorem xc_ok {i k : Nat} : PyData.strOk (xcS i k) = true := by
  unfold xcS
  rw [strOk_append, strOk_append, strOk_append, numS_ok, numS_ok, strOk_ofString, strOk_ofString]; rfl
def xcW (i k : Nat) : Wrd := ⟨xcS i k, xc_ok⟩
theorem xc_inj {i j k l : Nat} (h : xcW i k = xcW j l) : k = l := by
  have h := congrArg (fun x : Wrd => TL.tl x.1) h
  simp only [xcW, xcS, TL.tl_append, numS_tl, show TL.tl (Str.ofString "x") = [120] by decide +kernel, show TL.tl (Str.ofString "_") = [95] by decide +kernel] at h
  simp only [List.append_assoc, List.cons_append, List.nil_append, List.cons.injEq, true_and] at h
  have h1 := cut95 (TL.numL_free (by omega)) (TL.numL_free (by omega)) h
  rw [h1] at h
  have h2 := List.append_cancel_left h
  simp only [List.cons.injEq, true_and] at h2
  rw [← TL.numL_val k, h2, TL.numL_val]
theorem xc_add {i k : Nat} (hi : i ≤ 100) (hk : k ≤ 100) : ∃ a b : Str, binW .add (.str (Str.ofString "x")) (.str (numS i)) = some (.str a) ∧ binW .add (.str a) (.str (Str.ofString "_")) = some (.str b) ∧ binW .add (.str b) (.str (numS k)) = some (.str (xcW i k).1) := by
  have l1 := num_len hi
  have l2 := num_len hk
  have lb := line_big
  have lx : (Str.ofString "x").length = 1 := by decide +kernel
  have lu : (Str.ofString "_").length = 1 := by decide +kernel
  refine ⟨_, _, b_strs (by omega), b_strs (by rw [app_len]; omega), b_strs (by rw [app_len, app_len]; omega)⟩
theorem words33_lc {c : Fn} (hT : TakeOk c) {S : SW} {p : Pool} {n : Nat} (hn : n ≤ 4) (h1 : gt S 1 = some p.toW) (h14 : S[14]? = some none) :
    (lcR c [14] (.one 14) .nil (.bin .add (.bin .add (.bin .add (.str "x") (.b1 .str (.call "_law_take" (.cons (.var 1) (.cons (.int 100) .nil))))) (.str "_")) (.b1 .str (.var 14))) (rngW 0 n) S).sat fun ys S' => ∃ (l : List Wrd) (q : Pool), ys = wsW l ∧ l.length = n ∧ l.Nodup ∧ S' = S.set 1 (some q.toW) := by
  have hl : 14 < S.length := (List.getElem?_eq_some_iff.mp h14).1
  have hS0 : S = S.set 1 (some p.toW) := by
    apply List.ext_getElem?
    intro i
    rw [List.getElem?_set]
    split
    · rename_i e; subst e
      unfold gt at h1
      cases q : S[1]? with
      | none => rw [List.getElem?_eq_none_iff] at q; omega
      | some x =>
        rw [q] at h1
        have h1 : x = some p.toW := h1
        rw [h1, if_pos (by omega)]
    · rfl
  refine sat_imp (lcR_rng (n := n) (I := fun i acc S' => ∃ (l : List Wrd) (q : Pool), acc = wsW l ∧ l.length = i ∧ l.Nodup ∧ (∀ x ∈ l, ∃ a b, b < i ∧ x = xcW a b) ∧ S' = S.set 1 (some q.toW)) (by have := line_big; omega) ⟨[], p, rfl, rfl, List.nodup_nil, by simp, hS0⟩ ?_) fun a S h => by
    obtain ⟨l, q, a1, a2, a3, _, a4⟩ := h
    exact ⟨l, q, a1, a2, a3, a4⟩
  rintro i acc _ hi ⟨l, q, rfl, hr, hnd, hall, rfl⟩
  obtain ⟨d, q2, e, hd⟩ := hT q 100 (by omega) (by omega)
  obtain ⟨u, v, w1, w2, w3⟩ := xc_add (i := d) (k := i) (by omega) (by omega)
  have g1 : ∀ x : Option W, gt ((S.set 1 (some q.toW)).set 14 x) 1 = some q.toW := fun x => by rw [gt_ne (by decide), gt_eq (by omega)]
  have g2 : ∀ (x y : Option W), gt (((S.set 1 (some q.toW)).set 14 x).set 1 y) 14 = x := fun x y => by rw [gt_ne (by decide), gt_eq (by simpa using hl)]
  have hz : ∀ x : Option W, ((((S.set 1 (some q.toW)).set 14 x).set 1 (some q2.toW)).set 14 none) = S.set 1 (some q2.toW) := fun x => by
    have e1 : ((S.set 1 (some q.toW)).set 14 x).set 1 (some q2.toW) = (S.set 1 (some q2.toW)).set 14 x := by rw [List.set_comm _ _ (show (14 : Nat) ≠ 1 by decide), List.set_set]
    rw [e1, set_none]
    rw [List.getElem?_set_ne (by omega)]; exact h14
  refine ⟨some (.str (xcW d i).1), S.set 1 (some q2.toW), ?_, l ++ [xcW d i], q2, by simp [wsW], by simp; omega, ?_, ?_, rfl⟩
  · simp [turnR_eq, g1, g2, hz, e, Pool.np, cand_str (i := d) (by omega), cand_str (i := i) (by omega), w1, w2, w3]
  · rw [List.nodup_append]
    refine ⟨hnd, by simp, fun a ha b hb e => ?_⟩
    simp at hb
    subst hb; subst e
    obtain ⟨i', k', hk, e⟩ := hall _ ha
    have := xc_inj e
    omega
  · intro x hx
    rcases List.mem_append.mp hx with hx | hx
    · obtain ⟨a, b, hb, e⟩ := hall x hx
      exact ⟨a, b, by omega, e⟩
    · simp at hx
      exact ⟨d, i, by omega, hx⟩
end OwnLaw

/-! the pool that a law begins with -/
namespace OwnLaw
open PySem L2 Own
def PoolOk (c : Fn) : Prop := ∀ ns : List Int, ns.length ≤ 63 → ∃ p : Pool, c.call "_law_pool" [.flst (ns.map W.int)] = .ok p.toW [.flst (ns.map W.int)]
theorem pool_run {c : Fn} (ns : List Int) (hl : ns.length ≤ 63) : ∃ p : Pool, Own.run c fi__law_pool [.flst (ns.map W.int)] = .ok p.toW [.flst (ns.map W.int)] := by
  have key := lcR_map (c := c) (own := [1]) (tg := .one 1) (cs := .nil) (e := .ite (.cmp .ge (.var 1) (.int 0)) (.bin .mul (.int 2) (.var 1)) (.bin .sub (.bin .mul (.neg (.int 2)) (.var 1)) (.int 1)))
    (f := W.int) (xs := ns) (S := [some (.flst (ns.map W.int)), none]) (I := fun pre acc S => ∃ cs : List Int, acc = cs.map W.int ∧ S = [some (.flst (ns.map W.int)), none]) (by have := line_big; omega) ⟨[], rfl, rfl⟩ (by
      rintro pre x post acc S - - ⟨cs, rfl, rfl⟩
      have m1 : binW .mul (.int 2) (.int x) = some (.int (2 * x)) := b_mul (mulOk_l _ _ (by decide))
      have m2 : binW .mul (.int (-2)) (.int x) = some (.int (-2 * x)) := b_mul (mulOk_l _ _ (by decide))
      by_cases h : 0 ≤ x
      · refine ⟨some (.int (2 * x)), [some (.flst (ns.map W.int)), none], ?_, cs ++ [2 * x], by simp, rfl⟩
        simp [turnR_eq, h, m1]
      · refine ⟨some (.int (-2 * x - 1)), [some (.flst (ns.map W.int)), none], ?_, cs ++ [-2 * x - 1], by simp, rfl⟩
        simp [turnR_eq, h, m2])
  obtain ⟨ys, _, e, cs, rfl, rfl⟩ := key
  refine ⟨⟨cs, 0, 0, 17, by omega⟩, ?_⟩
  rw [run_eq rfl (by simp [Sb.asn, Sm.asn, Tg.slots, fi__law_pool])]
  simp [fi__law_pool, e, Pool.toW]
end OwnLaw

/-! law_k33: the law -/
namespace OwnLaw
open PySem L2 Own
theorem lsize_at {D : Pg} {cst : Str → Option W} (hD : D "_law_size" = some fi__law_size) : ∀ (d k : Nat), LSizeOk d ⟨sem D cst (k + d + 1), cst⟩ := by
  intro d
  induction d with
  | zero =>
    intro k s ok
    show sem D cst (k + 1) "_law_size" _ = _
    rw [sem_eq hD]
    exact lsize_run (d := 0) (fun d' h => by omega) s ok
  | succ d ih =>
    intro k s ok
    show sem D cst (k + d + 1 + 1) "_law_size" _ = _
    rw [sem_eq hD]
    exact lsize_run (d := d + 1) (fun d' h => by cases h; exact ih k) s ok
theorem lfound_at {D : Pg} {cst : Str → Option W} (hD : D "_law_found" = some fi__law_found) : ∀ (d k : Nat), LFoundOk d ⟨sem D cst (k + d + 1), cst⟩ := by
  intro d
  induction d with
  | zero =>
    intro k s ok hz
    show sem D cst (k + 1) "_law_found" _ = _
    rw [sem_eq hD]
    obtain ⟨_, _, e, rfl, rfl⟩ := lfound_run (c := ⟨sem D cst k, cst⟩) (d := 0) (fun d' h => by omega) s ok hz
    exact e
  | succ d ih =>
    intro k s ok hz
    show sem D cst (k + d + 1 + 1) "_law_found" _ = _
    rw [sem_eq hD]
    obtain ⟨_, _, e, rfl, rfl⟩ := lfound_run (c := ⟨sem D cst (k + d + 1), cst⟩) (d := d + 1) (fun d' h => by cases h; exact ih k) s ok hz
    exact e
theorem ways_at {D : Pg} {cst : Str → Option W} (hD : D "_law_ways" = some fi__law_ways) : ∀ (d k : Nat), WaysOk d ⟨sem D cst (k + d + 1), cst⟩ := by
  intro d
  induction d with
  | zero =>
    intro k s ok hd hz
    show (sem D cst (k + 1) "_law_ways" _).sat _
    rw [sem_eq hD]
    exact ways_run (d := 0) (fun d' h => by omega) s ok hd hz
  | succ d ih =>
    intro k s ok hd hz
    show (sem D cst (k + d + 1 + 1) "_law_ways" _).sat _
    rw [sem_eq hD]
    exact ways_run (d := d + 1) (fun d' h => by cases h; exact ih k) s ok hd hz
theorem lput_at {D : Pg} {cst : Str → Option W} (hD : D "_law_put" = some fi__law_put) : ∀ (n k : Nat), LPutOk n ⟨sem D cst (k + n + 1), cst⟩ := by
  intro n
  induction n with
  | zero =>
    intro k d s w p ok hw hn
    show sem D cst (k + 1) "_law_put" _ = _
    rw [sem_eq hD]
    exact lput_run (n := 0) (fun d' h => by omega) d s w p ok hw hn
  | succ n ih =>
    intro k d s w p ok hw hn
    show sem D cst (k + n + 1 + 1) "_law_put" _ = _
    rw [sem_eq hD]
    exact lput_run (n := n + 1) (fun d' h => by cases h; exact ih k) d s w p ok hw hn
/-- what the law's def leans on -/
structure K33 (c : Fn) : Prop where
  pool : PoolOk c
  take : TakeOk c
  whole : WholeOk c
  sum : SumOk c
  given : GivenOk c
  term : ∀ d, d ≤ 5 → TermOk d c
  due : ∀ d, d ≤ 5 → DueOk d c
  symbolic : ∀ (t : Tm) (e : Tbl) (d : Nat), t.ok (En.keys e) d → t.wt ≤ 4000000 → c.call "symbolic" [t.toW, Tbl.W e] = .ok (t.sy e).toW [t.toW, Tbl.W e]
  size : ∀ (s : Sy) (d : Nat), s.ok d → s.sz ≤ 4000000 → c.call "size" [s.toW] = .ok (.int s.sz) [s.toW]
  lsize : ∀ d, d ≤ 5 → LSizeOk d c
  unknowns : ∀ (s : Sy) (d : Nat), s.ok d → s.sz ≤ 4000000 → (c.call "unknowns_in" [s.toW]).sat fun w ws => ∃ ks : List Int, w = .lst ((sortI ks).map .int) ∧ ws = [s.toW] ∧ ks.Nodup ∧ ∀ u, u ∈ ks ↔ u ∈ s.ids
  lfound : ∀ d, d ≤ 5 → LFoundOk d c
  once : ∀ xs : List Int, (∀ u ∈ xs, 0 ≤ u ∧ u < 41) → (c.call "_law_once" [.lst (xs.map W.int)]).sat fun w ws => ∃ r : List Int, w = .lst (r.map W.int) ∧ ws = [.lst (xs.map W.int)] ∧ r.Nodup ∧ r.Pairwise (· ≤ ·) ∧ ∀ u, u ∈ r ↔ u ∈ xs
  ways : ∀ d, d ≤ 5 → WaysOk d c
  replaced : ∀ (d : Nat) (s : Sy) (w : List Nat) (p : Sy), s.ok d → Walk s w → w.length ≤ 100 → c.call "replaced" [s.toW, wayW w, p.toW] = .ok (putS w s p).toW [s.toW, wayW w, p.toW]
  lput : LPutOk 5 c
  added : ∀ (sg : Int), sg = 1 ∨ sg = -1 → ∀ (a b : List (Int × Int)) (n m : Int), a.length ≤ 3 → b.length ≤ 3 → c.call "added" [(Sy.sum a n).toW, (Sy.sum b m).toW, .int sg] = .ok (sumD sg a b n m).toW [(Sy.sum a n).toW, (Sy.sum b m).toW, .int sg]
  ladded : ∀ (sg : Int), sg = 1 ∨ sg = -1 → ∀ (a b : List (Int × Int)) (n m : Int), a.length ≤ 3 → b.length ≤ 3 → c.call "_law_added" [(Sy.sum a n).toW, (Sy.sum b m).toW, .int sg] = .ok (sumD sg a b n m).toW [(Sy.sum a n).toW, (Sy.sum b m).toW, .int sg]
  integer : ∀ n : Int, c.call "integer" [.int n] = .ok (Sy.sum [] n).toW [.int n]
def kS (sc : W) (q : Pool) (ks : List Wrd) (e : Tbl) (r4 r5 r6 r7 r8 r9 r10 r11 r12 r13 : Option W) : SW := [some sc, some q.toW, some (.lst (wsW ks)), some (Tbl.W e), r4, r5, r6, r7, r8, r9, r10, r11, r12, r13, none]
theorem fold_tbl : W.dict [] [] = Tbl.W [] := rfl
theorem way_of {L : List (List Nat)} {d : Nat} (h : (d : Int) < L.length) : ∃ w, (L.map wayW)[d]? = some (wayW w) ∧ w ∈ L := by
  have h : d < L.length := by omega
  exact ⟨L[d], by simp [h], List.getElem_mem h⟩
theorem bd5 : bd 5 ≤ 4000000 := by decide +kernel
theorem law_sat {c : Fn} (h : K33 c) (sc : List Int) (hl : sc.length ≤ 63) : (Own.run c fi_law [.flst (sc.map W.int)]).sat fun w _ => w = .bl true := by
  have b5 := bd5
  obtain ⟨p0, e0⟩ := h.pool sc hl
  obtain ⟨d1, p1, e1, b1⟩ := h.take p0 4 (by omega) (by omega)
  have s1 : small62 (1 + (d1 : Int)) = true := small_of (by omega) (by omega)
  refine run_to (by rfl) (by simp [fi_law, Sb.asn, Sm.asn, Tg.slots]) fun P hP _ => ?_
  generalize hSC : W.flst (List.map W.int sc) = SC at *
  have sc_p : SC.pure = true := by rw [← hSC]; simp
  obtain ⟨ys, _, e2, ks, p2, rfl, b2, nd, rfl⟩ := words33_lc h.take (S := [some SC, some p1.toW, none, none, none, none, none, none, none, none, none, none, none, none, none]) (p := p1) (n := 1 + d1) (by omega) rfl rfl
  simp at e2
  have ks0 : ks ≠ [] := by intro z; rw [z] at b2; simp at b2; omega
  simp [fi_law, sc_p, Pool.np, wsW_p, e0, e1, s1, e2, fold_tbl]
  rw [if_pos (by decide +kernel), forK_ok]
  -- the table
  refine sat_nx (P := fun S => ∃ e q r4, S = kS SC q ks e r4 none none none none none none none none none ∧ En.keys e = ks ∧ ∀ p ∈ e, p.2.plain)
    (foR_mapP (f := fun w : Wrd => W.str w.1) (xs := ks) (fun pre S => ∃ e q r4, S = kS SC q ks e r4 none none none none none none none none none ∧ En.keys e = pre ∧ ∀ p ∈ e, p.2.plain) ⟨[], p2, none, rfl, rfl, by simp⟩ ?_ fun S h => ⟨rfl, h⟩) ?_
  · rintro pre x post S P' hx ⟨e, q, r4, rfl, hk, hpl⟩ hn - - -
    refine ⟨kS SC q ks e (some (.str x.1)) none none none none none none none none none, rfl, ?_⟩
    obtain ⟨_, _, f1, s, q1, rfl, hs, rfl⟩ := h.given q
    have hxp : x ∉ pre := by
      rw [hx, List.nodup_append] at nd
      intro z
      exact nd.2.2 x z x (by simp) rfl
    have hel : e.length ≤ 100 := by
      have h1 := congrArg List.length hk
      have h2 := congrArg List.length hx
      simp [En.keys] at h1 h2
      omega
    have hp := En.putR_ (x := x) (t := s) (e := e) (f := Sy.toW) Sy.pp (by rw [hk]; rw [hx] at nd; exact (List.nodup_append.mp nd).1) hel
    have fin := hn _ ⟨En.put e x s, q1, some (.str x.1), rfl, by rw [En.put_keys, hk, if_neg hxp], fun p hp => by
      rcases En.put_mem hp with rfl | hp
      · exact hs
      · exact hpl p hp⟩
    simp [kS] at fin
    simp [kS, Pool.np, f1, hp]
    exact fin
  rintro S ⟨e, q, r4, rfl, hk, hpl⟩
  -- the term, what is due of it
  obtain ⟨d2, q2, f2, b3⟩ := h.take q 5 (by omega) (by omega)
  obtain ⟨_, _, f3, t, q3, rfl, tok, rfl⟩ := h.term (1 + d2) (by omega) q2 ks ks0 (by omega)
  have tok' : t.ok (En.keys e) (1 + d2) := by rw [hk]; exact tok
  have f4 := h.due (1 + d2) (by omega) t e tok'
  have twt := Tm.wt_le _ _ tok
  have bdm : bd (1 + d2) ≤ bd 5 := by
    have : d2 = 0 ∨ d2 = 1 ∨ d2 = 2 ∨ d2 = 3 ∨ d2 = 4 := by omega
    rcases this with rfl | rfl | rfl | rfl | rfl <;> decide +kernel
  have f5 := h.symbolic t e _ tok' (by omega)
  have sok := Tm.sy_ok hpl _ _ tok'
  generalize hs : t.sy e = s at *
  have ssz := Sy.sz_le _ _ sok
  have f6 := h.size s _ sok (by omega)
  have f7 := h.lsize _ (by omega) s sok
  obtain ⟨_, _, f8, us, rfl, rfl, und, um⟩ := h.unknowns s _ sok (by omega)
  have f9 := h.lfound _ (by omega) s sok (by omega)
  obtain ⟨_, _, f10, rs, rfl, rfl, rnd, rpw, rm⟩ := h.once s.ids (ids_rng _ s sok)
  have hru : rs = sortI us := eq_sortI ((List.perm_ext_iff_of_nodup rnd und).mpr fun u => by rw [rm, um]) rpw
  subst hru
  obtain ⟨_, _, f11, L, rfl, rfl, L0, Ll, Lw⟩ := h.ways _ (by omega) s sok (by omega) (by omega)
  have Lp : 0 < L.length := List.length_pos_iff.mpr L0
  obtain ⟨d4, q4, f12, b4⟩ := h.take q3 L.length (by omega) (by omega)
  obtain ⟨w, hw, hwm⟩ := way_of b4
  obtain ⟨hwk, hwl⟩ := Lw w hwm
  obtain ⟨_, _, f13, t2, q5, rfl, tok2, rfl⟩ := h.term 2 (by omega) q4 ks ks0 (by omega)
  have tok2' : t2.ok (En.keys e) 2 := by rw [hk]; exact tok2
  have f14 := h.due 2 (by omega) t2 e tok2'
  have sok2 := Tm.sy_ok hpl _ _ tok2'
  generalize hs2 : t2.sy e = s2 at *
  have f15 := h.replaced _ s w s2 sok hwk (by omega)
  have f16 := h.lput _ s w s2 sok hwk (by omega)
  have pok := put_ok sok2 w _ s sok hwk
  obtain ⟨_, _, f17, a, n, q6, rfl, al, _, rfl⟩ := h.sum q5
  obtain ⟨_, _, f18, b, m, q7, rfl, bl, _, rfl⟩ := h.sum q6
  obtain ⟨d5, q8, f19, b5⟩ := h.take q7 2 (by omega) (by omega)
  obtain ⟨_, _, f20, v, q9, rfl, rfl⟩ := h.whole q8
  have f21 := h.integer v
  have c1 := (Sy.dd _ s 0 sok).ne (by omega)
  have c2 := (Dd.int 0 (s.sz : Int)).ne (by omega)
  have c3 := (Dd.ints (n := 0) (sortI us)).ne (by omega)
  have c4 := (Sy.dd _ (putS w s s2) 0 pok).ne (by omega)
  have c5 := fun sg => (sum_dd sg a b n m).eq (by omega)
  have c6 := (Sy.dd 0 (Sy.sum [] v) 0 (by simp [Sy.ok])).eq (by omega)
  push_cast at f3 f13
  have fin : ∀ S : SW, outs 0 [SC] S = some [SC] → P (.rt (.bl true)) S := fun S hS => hP _ _ _ hS rfl
  have hsg : d5 = 0 ∨ d5 = 1 := by omega
  simp at f17 f18 f21 c6
  simp [kS, Pool.np, f2, f3, f4, f5, c1, f6, f7, c2, f8, f9, f10, c3, f11, f12, hw, f13, f14, f15, f16, c4, f17, f18]
  rcases hsg with rfl | rfl
  · have g1 := h.added 1 (.inl rfl) a b n m al bl
    have g2 := h.ladded 1 (.inl rfl) a b n m al bl
    have c5 := c5 1
    simp at g1 g2
    simp [Pool.np, f19, f20, g1, g2, c5, f21, c6]
    refine fin _ ?_
    rw [outs_p sc_p]; rfl
  · have g1 := h.added (-1) (.inr rfl) a b n m al bl
    have g2 := h.ladded (-1) (.inr rfl) a b n m al bl
    have c5 := c5 (-1)
    simp at g1 g2
    simp [Pool.np, f19, f20, g1, g2, c5, f21, c6]
    refine fin _ ?_
    rw [outs_p sc_p]; rfl
/-! ### the levels of calls -/
def cK (k : Nat) : Fn := ⟨sem tbl.D (Ct.cst csT) k, Ct.cst csT⟩
theorem up {k : Nat} {f : Str} {fi : FI} {ws : List W} (h : tbl.D f = some fi) : (cK (k + 1)).call f ws = Own.run (cK k) fi ws := sem_eq h
theorem takeK (k : Nat) : TakeOk (cK (k + 2)) := take_at rfl k
theorem wholeK (k : Nat) : WholeOk (cK (k + 3)) := fun p => by rw [up rfl]; exact whole_run (takeK k) p
theorem sumK (k : Nat) : SumOk (cK (k + 4)) := fun p => by rw [up rfl]; exact sum_run (takeK (k + 1)) (wholeK k) p
theorem givenK (k : Nat) : GivenOk (cK (k + 5)) := fun p => by rw [up rfl]; exact given_run (takeK (k + 2)) (sumK k) p
theorem integerK (k : Nat) (n : Int) : (cK (k + 1)).call "integer" [.int n] = .ok (Sy.sum [] n).toW [.int n] := by rw [up rfl]; exact integer_run n
theorem symK (k : Nat) : Sym33 (cK (k + 2)) where
  leaf := fun t e d ok hl => by rw [up rfl]; exact leaf_run (integerK k) t e ok hl
  node := fun pre inner x hl => by rw [up rfl]; exact built_node pre inner x hl
  map := fun pre inner hl => by rw [up rfl]; exact built_map pre inner hl
theorem all_K : K33 (cK 200) where
  pool := fun ns h => by rw [show (200 : Nat) = 199 + 1 from rfl, up rfl]; exact pool_run ns h
  take := takeK 198
  whole := wholeK 197
  sum := sumK 196
  given := givenK 195
  term := fun d hd => by
    have := term_at (D := tbl.D) (cst := Ct.cst csT) rfl rfl rfl d (196 - d)
    rwa [show 196 - d + d + 4 = 200 by omega] at this
  due := fun d hd => by
    have := due_at (D := tbl.D) (cst := Ct.cst csT) rfl d (199 - d)
    rwa [show 199 - d + d + 1 = 200 by omega] at this
  symbolic := fun t e d ok hw => by
    rw [show (200 : Nat) = 199 + 1 from rfl, up rfl]
    obtain ⟨_, _, h, rfl, rfl⟩ := symbolic_run (symK 197) t e ok hw
    exact h
  size := fun s d ok hw => by
    rw [show (200 : Nat) = 199 + 1 from rfl, up rfl]
    obtain ⟨_, _, h, rfl, rfl⟩ := size_run (c := cK 199) s ok hw
    exact h
  lsize := fun d hd => by
    have := lsize_at (D := tbl.D) (cst := Ct.cst csT) rfl d (199 - d)
    rwa [show 199 - d + d + 1 = 200 by omega] at this
  unknowns := fun s d ok hw => by
    rw [show (200 : Nat) = 199 + 1 from rfl, up rfl]
    exact unknowns_run s ok hw
  lfound := fun d hd => by
    have := lfound_at (D := tbl.D) (cst := Ct.cst csT) rfl d (199 - d)
    rwa [show 199 - d + d + 1 = 200 by omega] at this
  once := fun xs hx => by
    rw [show (200 : Nat) = 199 + 1 from rfl, up rfl]
    exact once_run xs hx
  ways := fun d hd => by
    have := ways_at (D := tbl.D) (cst := Ct.cst csT) rfl d (199 - d)
    rwa [show 199 - d + d + 1 = 200 by omega] at this
  replaced := fun d s w p ok hw hl => by
    rw [show (200 : Nat) = 199 + 1 from rfl, up rfl]
    obtain ⟨_, _, h, rfl, rfl⟩ := replaced_run (c := cK 199) d s w p ok hw hl
    exact h
  lput := lput_at rfl 5 194
  added := fun sg hs a b n m ha hb => by
    rw [show (200 : Nat) = 199 + 1 from rfl, up rfl]
    obtain ⟨_, _, h, rfl, rfl⟩ := added_run (c := cK 199) sg hs a b n m ha hb
    exact h
  ladded := fun sg hs a b n m ha hb => by
    rw [show (200 : Nat) = 199 + 1 from rfl, up rfl]
    obtain ⟨_, _, h, rfl, rfl⟩ := ladded_run (c := cK 199) sg hs a b n m ha hb
    exact h
  integer := integerK 199
theorem law_plain : ∀ ns : List Int, ns.length ≤ 63 → ∃ ws', sem tbl.D (Ct.cst csT) (200 + 1) "law" [.flst (ns.map W.int)] = .ok (.bl true) ws' := fun ns h => by
  rw [sem_eq rfl]
  obtain ⟨w, ws, e, rfl⟩ := law_sat all_K ns h
  exact ⟨ws, e⟩
end OwnLaw

open PySem PySem.W PyProof.Rows
set_option maxRecDepth 100000 in
set_option maxHeartbeats 0 in
theorem PySem.Challenge.cw_passproven_k33_symbolic_terms_holds : PySem.Challenge.rw_passproven_k33_symbolic_terms.Holds := by
  w_on; o_law; k_head; (case hw => w_witness2)
  k_fill
  refine Own.walk_own (l := PySem.Challenge.rw_passproven_k33_symbolic_terms) (n := 63) (k := 200) (D := OwnLaw.tbl.D) (cst := Own.Ct.cst OwnLaw.csT) (fns := OwnLaw.tbl.fns) (cs := OwnLaw.csT.map (·.1)) (xr := fun _ _ _ _ _ => False) rfl (by decide) rfl ⟨rfl, by decide, by decide⟩ (fun w h Y => PySem.W.kIn_of Y) (by decide +kernel) ?F OwnLaw.law_plain
  case F =>
    intro w mg h base KX G XP
    refine ⟨Own.Tb.defs KX G OwnLaw.tx ?th, Own.Ct.csts ?ct, Own.blt_of KX G ?bl⟩
    case bl => first | k_is | decide +kernel | rfl
    case th =>
      refine .cons (by dsimp only; refine' Own.there ?a ?l ?c ?k; (case a => k_is); (case l => k_is); (case c => k_is); (case k => k_is)) ?_
      refine .cons (by dsimp only; refine' Own.there ?a ?l ?c ?k; (case a => k_is); (case l => k_is); (case c => k_is); (case k => k_is)) ?_
      refine .cons (by dsimp only; refine' Own.there ?a ?l ?c ?k; (case a => k_is); (case l => k_is); (case c => k_is); (case k => k_is)) ?_
      refine .cons (by dsimp only; refine' Own.there ?a ?l ?c ?k; (case a => k_is); (case l => k_is); (case c => k_is); (case k => k_is)) ?_
      refine .cons (by dsimp only; refine' Own.there ?a ?l ?c ?k; (case a => k_is); (case l => k_is); (case c => k_is); (case k => k_is)) ?_
      refine .cons (by dsimp only; refine' Own.there ?a ?l ?c ?k; (case a => k_is); (case l => k_is); (case c => k_is); (case k => k_is)) ?_
      refine .cons (by dsimp only; refine' Own.there ?a ?l ?c ?k; (case a => k_is); (case l => k_is); (case c => k_is); (case k => k_is)) ?_
      refine .cons (by dsimp only; refine' Own.there ?a ?l ?c ?k; (case a => k_is); (case l => k_is); (case c => k_is); (case k => k_is)) ?_
      refine .cons (by dsimp only; refine' Own.there ?a ?l ?c ?k; (case a => k_is); (case l => k_is); (case c => k_is); (case k => k_is)) ?_
      refine .cons (by dsimp only; refine' Own.there ?a ?l ?c ?k; (case a => k_is); (case l => k_is); (case c => k_is); (case k => k_is)) ?_
      refine .cons (by dsimp only; refine' Own.there ?a ?l ?c ?k; (case a => k_is); (case l => k_is); (case c => k_is); (case k => k_is)) ?_
      refine .cons (by dsimp only; refine' Own.there ?a ?l ?c ?k; (case a => k_is); (case l => k_is); (case c => k_is); (case k => k_is)) ?_
      refine .cons (by dsimp only; refine' Own.there ?a ?l ?c ?k; (case a => k_is); (case l => k_is); (case c => k_is); (case k => k_is)) ?_
      refine .cons (by dsimp only; refine' Own.there ?a ?l ?c ?k; (case a => k_is); (case l => k_is); (case c => k_is); (case k => k_is)) ?_
      refine .cons (by dsimp only; refine' Own.there ?a ?l ?c ?k; (case a => k_is); (case l => k_is); (case c => k_is); (case k => k_is)) ?_
      refine .cons (by dsimp only; refine' Own.there ?a ?l ?c ?k; (case a => k_is); (case l => k_is); (case c => k_is); (case k => k_is)) ?_
      refine .cons (by dsimp only; refine' Own.there ?a ?l ?c ?k; (case a => k_is); (case l => k_is); (case c => k_is); (case k => k_is)) ?_
      refine .cons (by dsimp only; refine' Own.there ?a ?l ?c ?k; (case a => k_is); (case l => k_is); (case c => k_is); (case k => k_is)) ?_
      refine .cons (by dsimp only; refine' Own.there ?a ?l ?c ?k; (case a => k_is); (case l => k_is); (case c => k_is); (case k => k_is)) ?_
      refine .cons (by dsimp only; refine' Own.there ?a ?l ?c ?k; (case a => k_is); (case l => k_is); (case c => k_is); (case k => k_is)) ?_
      refine .cons (by dsimp only; refine' Own.there ?a ?l ?c ?k; (case a => k_is); (case l => k_is); (case c => k_is); (case k => k_is)) ?_
      refine .cons (by dsimp only; refine' Own.there ?a ?l ?c ?k; (case a => k_is); (case l => k_is); (case c => k_is); (case k => k_is)) ?_
      exact .nil
    case ct =>
      exact .nil
