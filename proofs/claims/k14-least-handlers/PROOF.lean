import PyProof.Rows.All
import Wide.All
import OpenK.AllK
import Wide.FinOn
import HandS.ForMost
import HandS.Flow
import HandS.Star
import HandS.Deep
import HandS.Walk
import HandS.Conv
import HandS.Style
import KE.KDictKeyed
import KE.GoesEnum
import HandS.SetFor
import HandS.Strs
import HandS.SortInts
import KE.SortData
import KE.KDictSum
import KE.KDictDisplayH
import HandS.Defaults
import HandS.TupMul
import KE.KStateDown
import HandS.Exc
import HandS.Head0
import HandS.Head1
import HandS.Head2
import HandS.HeadEnd
import HandS.HeadHook1
import HandS.HeadHook2
import HandS.IsInst
import HandS.TupLen
import HandS.Zip
import HandS.Wide
import PySem.Challenge.RW_twicesafe_k14_whole_least_handlers_answe
set_option Elab.async false
set_option linter.all false
set_option maxRecDepth 100000
set_option maxHeartbeats 4000000
/-! Plain Lean: handlers, alike states, classes in order, a search over a graph. -/
namespace K14
/-! ### small list facts -/
theorem getD_lt {α : Type} {l : List α} {i : Nat} {d : α} (h : i < l.length) : l.getD i d = l[i] := by
  simp [List.getD, List.getElem?_eq_getElem h]
theorem getD_ge {α : Type} {l : List α} {i : Nat} {d : α} (h : l.length ≤ i) : l.getD i d = d := by
  simp [List.getD, List.getElem?_eq_none h]
theorem nodup_len {α : Type} [DecidableEq α] : ∀ {l m : List α}, l.Nodup → (∀ x ∈ l, x ∈ m) → l.length ≤ m.length
  | [], _, _, _ => Nat.zero_le _
  | x :: l, m, hn, hs => by
    have hx : x ∈ m := hs x List.mem_cons_self
    rw [List.nodup_cons] at hn
    have h1 := nodup_len (l := l) (m := m.erase x) hn.2 fun y hy => by
      have hyx : y ≠ x := fun e => hn.1 (e ▸ hy)
      exact (List.mem_erase_of_ne hyx).mpr (hs y (List.mem_cons_of_mem _ hy))
    rw [List.length_erase_of_mem hx] at h1
    have h2 : 0 < m.length := List.length_pos_of_mem hx
    simp only [List.length_cons]
    omega

/-! ### handlers -/
structure Hd where
  labs : List Nat
  kinds : List (Nat × List Nat)
def Hd.n (h : Hd) : Nat := h.labs.length
def Hd.K (h : Hd) : Nat := h.kinds.length
def Hd.lab (h : Hd) (s : Nat) : Nat := h.labs.getD s 0
def Hd.tg (h : Hd) (k : Nat) : List Nat := (h.kinds.getD k (0, [])).2
def Hd.step (h : Hd) (k s : Nat) : Nat := (h.tg k).getD s 0
structure Hd.Ok (h : Hd) : Prop where
  n2 : 2 ≤ h.n
  n8 : h.n ≤ 8
  k1 : 1 ≤ h.K
  k6 : h.K ≤ 6
  tl : ∀ p ∈ h.kinds, p.2.length = h.n ∧ ∀ t ∈ p.2, t < h.n
def Hd.run (h : Hd) : Nat → List Nat → Nat
  | s, [] => s
  | s, k :: l => h.run (h.step k s) l
theorem Hd.run_append (h : Hd) : ∀ (s : Nat) (l m : List Nat), h.run s (l ++ m) = h.run (h.run s l) m
  | _, [], _ => rfl
  | s, k :: l, m => h.run_append (h.step k s) l m
theorem Hd.run_snoc (h : Hd) (s : Nat) (l : List Nat) (k : Nat) : h.run s (l ++ [k]) = h.step k (h.run s l) := h.run_append s l [k]
theorem Hd.Ok.pos {h : Hd} (o : h.Ok) : 0 < h.n := by have := o.n2; omega
theorem Hd.Ok.kind {h : Hd} (o : h.Ok) {k : Nat} (hk : k < h.K) : (h.tg k).length = h.n ∧ ∀ t ∈ h.tg k, t < h.n := by
  have e : h.kinds.getD k (0, []) = h.kinds[k]'hk := getD_lt hk
  unfold Hd.tg
  rw [e]
  exact o.tl _ (List.getElem_mem _)
theorem Hd.step_lt {h : Hd} (o : h.Ok) (k s : Nat) : h.step k s < h.n := by
  unfold Hd.step
  by_cases hk : k < h.K
  · obtain ⟨h1, h2⟩ := o.kind hk
    by_cases hs : s < (h.tg k).length
    · rw [getD_lt hs]
      exact h2 _ (List.getElem_mem _)
    · rw [getD_ge (Nat.le_of_not_lt hs)]
      exact o.pos
  · have e : h.tg k = [] := by
      unfold Hd.tg
      rw [getD_ge (Nat.le_of_not_lt hk)]
    rw [e]
    exact o.pos
theorem Hd.step_junk {h : Hd} {k : Nat} (s : Nat) (hk : h.K ≤ k) : h.step k s = 0 := by
  unfold Hd.step Hd.tg
  rw [getD_ge (l := h.kinds) hk]
  rfl
theorem Hd.run_lt {h : Hd} (o : h.Ok) : ∀ (l : List Nat) {s : Nat}, s < h.n → h.run s l < h.n
  | [], _, hs => hs
  | k :: l, s, _ => Hd.run_lt o l (h.step_lt o k s)
def Hd.Reached (h : Hd) (s : Nat) : Prop := ∃ l, s = h.run 0 l
theorem Hd.Reached.zero {h : Hd} : h.Reached 0 := ⟨[], rfl⟩
theorem Hd.Reached.step {h : Hd} {s : Nat} (r : h.Reached s) (k : Nat) : h.Reached (h.step k s) := by
  obtain ⟨l, rfl⟩ := r
  exact ⟨l ++ [k], (h.run_snoc 0 l k).symm⟩
theorem Hd.Reached.lt {h : Hd} (o : h.Ok) {s : Nat} (r : h.Reached s) : s < h.n := by
  obtain ⟨l, rfl⟩ := r
  exact h.run_lt o l o.pos

/-! ### alike -/
def Alike (h : Hd) (s t : Nat) : Prop := ∀ l, h.lab (h.run s l) = h.lab (h.run t l)
theorem Alike.rfl {h : Hd} {s : Nat} : Alike h s s := fun _ => Eq.refl _
theorem Alike.symm {h : Hd} {s t : Nat} (a : Alike h s t) : Alike h t s := fun l => (a l).symm
theorem Alike.trans {h : Hd} {s t u : Nat} (a : Alike h s t) (b : Alike h t u) : Alike h s u := fun l => (a l).trans (b l)
theorem Alike.lab {h : Hd} {s t : Nat} (a : Alike h s t) : h.lab s = h.lab t := a []
theorem Alike.step {h : Hd} {s t : Nat} (a : Alike h s t) (k : Nat) : Alike h (h.step k s) (h.step k t) := fun l => a (k :: l)
theorem alike_of {h : Hd} (R : Nat → Nat → Prop) (h1 : ∀ s t, R s t → h.lab s = h.lab t) (h2 : ∀ s t k, k < h.K → R s t → R (h.step k s) (h.step k t)) : ∀ {s t : Nat}, R s t → Alike h s t := by
  have key : ∀ (l : List Nat) (s t : Nat), R s t → h.lab (h.run s l) = h.lab (h.run t l) := by
    intro l
    induction l with
    | nil => exact fun s t r => h1 s t r
    | cons k l ih =>
      intro s t r
      by_cases hk : k < h.K
      · exact ih _ _ (h2 s t k hk r)
      · show h.lab (h.run (h.step k s) l) = h.lab (h.run (h.step k t) l)
        rw [h.step_junk s (Nat.le_of_not_lt hk), h.step_junk t (Nat.le_of_not_lt hk)]
  exact fun {s t} r l => key l s t r

/-! ### marks in order -/
section
variable {α β : Type} [DecidableEq α] [DecidableEq β]
def ins (acc : List α) (x : α) : List α := if x ∈ acc then acc else acc ++ [x]
def nub (xs : List α) : List α := xs.foldl ins []
def inOrder (xs : List α) : List Nat := xs.map fun x => (nub xs).idxOf x
theorem mem_ins {acc : List α} {x y : α} : y ∈ ins acc x ↔ y ∈ acc ∨ y = x := by
  unfold ins
  split
  · rename_i h
    constructor
    · exact Or.inl
    · rintro (h' | rfl)
      · exact h'
      · exact h
  · simp
theorem mem_foldl_ins : ∀ (xs acc : List α) {y : α}, y ∈ xs.foldl ins acc ↔ y ∈ acc ∨ y ∈ xs
  | [], acc, y => by simp
  | x :: xs, acc, y => by
    rw [List.foldl_cons, mem_foldl_ins xs (ins acc x), mem_ins, List.mem_cons]
    constructor
    · rintro ((h | h) | h)
      · exact .inl h
      · exact .inr (.inl h)
      · exact .inr (.inr h)
    · rintro (h | h | h)
      · exact .inl (.inl h)
      · exact .inl (.inr h)
      · exact .inr h
theorem mem_nub {xs : List α} {y : α} : y ∈ nub xs ↔ y ∈ xs := by
  unfold nub
  rw [mem_foldl_ins]
  simp
theorem ins_map {f : α → β} {acc : List α} {x : α} (hf : ∀ a ∈ acc, f a = f x → a = x) : ins (acc.map f) (f x) = (ins acc x).map f := by
  unfold ins
  by_cases h : x ∈ acc
  · rw [if_pos h, if_pos (List.mem_map_of_mem h)]
  · have h' : ¬ f x ∈ acc.map f := fun q => by
      obtain ⟨a, ha, e⟩ := List.mem_map.mp q
      exact h (hf a ha e ▸ ha)
    rw [if_neg h, if_neg h', List.map_append]
    rfl
theorem foldl_ins_map {f : α → β} : ∀ (xs acc : List α), (∀ a, a ∈ acc ∨ a ∈ xs → ∀ b, b ∈ acc ∨ b ∈ xs → f a = f b → a = b) → (xs.map f).foldl ins (acc.map f) = (xs.foldl ins acc).map f
  | [], _, _ => rfl
  | x :: xs, acc, hf => by
    rw [List.map_cons, List.foldl_cons, List.foldl_cons, ins_map fun a ha e => hf a (.inl ha) x (.inr List.mem_cons_self) e]
    refine foldl_ins_map xs (ins acc x) fun a ha b hb e => hf a ?_ b ?_ e
    · rcases ha with ha | ha
      · rcases mem_ins.mp ha with q | q
        · exact .inl q
        · exact .inr (q ▸ List.mem_cons_self)
      · exact .inr (List.mem_cons_of_mem _ ha)
    · rcases hb with hb | hb
      · rcases mem_ins.mp hb with q | q
        · exact .inl q
        · exact .inr (q ▸ List.mem_cons_self)
      · exact .inr (List.mem_cons_of_mem _ hb)
theorem idxOf_inj {l : List α} {x y : α} (hx : x ∈ l) (e : l.idxOf x = l.idxOf y) : x = y := by
  have h1 : l.idxOf x < l.length := List.idxOf_lt_length_of_mem hx
  have h2 : l.idxOf y < l.length := e ▸ h1
  have a := List.getElem_idxOf h1
  have b := List.getElem_idxOf h2
  rw [← a, ← b]
  congr 1
theorem idxOf_map {f : α → β} : ∀ (l : List α) {x : α}, (∀ a ∈ l, f a = f x → a = x) → (l.map f).idxOf (f x) = l.idxOf x
  | [], _, _ => rfl
  | a :: l, x, hf => by
    rw [List.map_cons, List.idxOf_cons, List.idxOf_cons]
    by_cases h : a = x
    · subst h
      simp
    · have h' : ¬ f a = f x := fun e => h (hf a List.mem_cons_self e)
      have e1 : (f a == f x) = false := beq_eq_false_iff_ne.mpr h'
      have e2 : (a == x) = false := beq_eq_false_iff_ne.mpr h
      rw [e1, e2]
      simp only [cond_false]
      rw [idxOf_map l fun b hb => hf b (List.mem_cons_of_mem _ hb)]
theorem inOrder_map {f : α → β} {xs : List α} (hf : ∀ a ∈ xs, ∀ b ∈ xs, f a = f b → a = b) : inOrder (xs.map f) = inOrder xs := by
  have e : nub (xs.map f) = (nub xs).map f := by
    have h := foldl_ins_map (f := f) xs [] fun a ha b hb => hf a (by simpa using ha) b (by simpa using hb)
    exact h
  unfold inOrder
  rw [e, List.map_map]
  refine List.map_congr_left fun x hx => ?_
  exact idxOf_map (nub xs) fun a ha e => hf a (mem_nub.mp ha) x hx e
theorem inOrder_length {xs : List α} : (inOrder xs).length = xs.length := by simp [inOrder]
theorem inOrder_get {xs : List α} {i : Nat} (h : i < xs.length) : (inOrder xs).getD i 0 = (nub xs).idxOf xs[i] := by
  rw [getD_lt (by rw [inOrder_length]; exact h)]
  simp [inOrder]
theorem inOrder_ker {xs : List α} {i j : Nat} (hi : i < xs.length) (hj : j < xs.length) : (inOrder xs).getD i 0 = (inOrder xs).getD j 0 ↔ xs[i] = xs[j] := by
  rw [inOrder_get hi, inOrder_get hj]
  constructor
  · exact idxOf_inj (mem_nub.mpr (List.getElem_mem _))
  · intro e; rw [e]
theorem inOrder_lt {xs : List α} {i : Nat} (h : i < xs.length) : (inOrder xs).getD i 0 < (nub xs).length := by
  rw [inOrder_get h]
  exact List.idxOf_lt_length_of_mem (mem_nub.mpr (List.getElem_mem _))
/-- marks that are equal at the same places get the same integers -/
theorem inOrder_same {xs : List α} {ys : List β} (hl : xs.length = ys.length) (hk : ∀ (i j : Nat) (hi : i < xs.length) (hj : j < xs.length), xs[i] = xs[j] ↔ ys[i]'(hl ▸ hi) = ys[j]'(hl ▸ hj)) : inOrder xs = inOrder ys := by
  by_cases h0 : ys = []
  · subst h0
    have : xs = [] := List.length_eq_zero_iff.mp hl
    subst this
    rfl
  · have hpos : 0 < ys.length := List.length_pos_iff.mpr h0
    have key : ∀ (i : Nat) (hi : i < xs.length), xs.idxOf xs[i] < xs.length := fun i hi => List.idxOf_lt_length_of_mem (List.getElem_mem _)
    have e : ys = xs.map fun x => ys.getD (xs.idxOf x) ys[0] := by
      refine List.ext_getElem (by simp [hl]) fun i h1 h2 => ?_
      have hi : i < xs.length := by rw [hl]; exact h1
      rw [List.getElem_map, getD_lt (hl ▸ key i hi)]
      have q : xs[xs.idxOf xs[i]]'(key i hi) = xs[i] := List.getElem_idxOf (key i hi)
      exact ((hk _ _ (key i hi) hi).mp q).symm
    rw [e]
    refine (inOrder_map fun a ha b hb q => ?_).symm
    have ha' := List.idxOf_lt_length_of_mem ha
    have hb' := List.idxOf_lt_length_of_mem hb
    rw [getD_lt (hl ▸ ha'), getD_lt (hl ▸ hb')] at q
    have z := (hk _ _ ha' hb').mpr q
    rwa [List.getElem_idxOf ha', List.getElem_idxOf hb'] at z
theorem inOrder_idem {xs : List α} : inOrder (inOrder xs) = inOrder xs := by
  refine (inOrder_same (xs := xs) (ys := inOrder xs) inOrder_length.symm fun i j hi hj => ?_).symm
  have a := inOrder_ker hi hj
  rw [getD_lt (by rw [inOrder_length]; exact hi), getD_lt (by rw [inOrder_length]; exact hj)] at a
  exact a.symm
end

/-! ### counting -/
theorem countP_lt {α : Type} {p q : α → Bool} : ∀ {l : List α}, (∀ x ∈ l, p x = true → q x = true) → (∃ x ∈ l, q x = true ∧ p x = false) → l.countP p < l.countP q
  | [], _, ⟨_, h, _⟩ => by cases h
  | a :: l, hs, ⟨x, hx, hq, hp⟩ => by
    have mono : l.countP p ≤ l.countP q := List.countP_mono_left fun y hy => hs y (List.mem_cons_of_mem _ hy)
    rcases List.mem_cons.mp hx with rfl | hx
    · rw [List.countP_cons_of_pos hq, List.countP_cons_of_neg (by rw [hp]; exact Bool.false_ne_true)]
      omega
    · have ih := countP_lt (l := l) (fun y hy => hs y (List.mem_cons_of_mem _ hy)) ⟨x, hx, hq, hp⟩
      by_cases ha : p a = true
      · rw [List.countP_cons_of_pos ha, List.countP_cons_of_pos (hs a List.mem_cons_self ha)]
        omega
      · rw [List.countP_cons_of_neg ha]
        have := List.countP_cons (p := q) (a := a) (l := l)
        omega
end K14

/-! Plain Lean: the classes of alike states, a breadth-first search, a closure by a pile. -/
namespace K14
/-! ### the classes -/
def ClsOk (h : Hd) (c : List Nat) : Prop := c.length = h.n ∧ ∀ s t, s < h.n → t < h.n → (c.getD s 0 = c.getD t 0 ↔ Alike h s t)
def rowsOf (h : Hd) (c : List Nat) : List (List Nat) := (List.range h.n).map fun s => c.getD s 0 :: (List.range h.K).map fun k => c.getD (h.step k s) 0
structure CInv (h : Hd) (c : List Nat) : Prop where
  len : c.length = h.n
  ord : inOrder c = c
  coarse : ∀ s t, s < h.n → t < h.n → Alike h s t → c.getD s 0 = c.getD t 0
  fine : ∀ s t, s < h.n → t < h.n → c.getD s 0 = c.getD t 0 → h.lab s = h.lab t
theorem rowsOf_length {h : Hd} {c : List Nat} : (rowsOf h c).length = h.n := by simp [rowsOf]
theorem rowsOf_get {h : Hd} {c : List Nat} {s : Nat} (hs : s < (rowsOf h c).length) : (rowsOf h c)[s] = c.getD s 0 :: (List.range h.K).map fun k => c.getD (h.step k s) 0 := by simp [rowsOf]
theorem rowsOf_eq {h : Hd} {c : List Nat} {s t : Nat} (hs : s < h.n) (ht : t < h.n) :
    ((rowsOf h c)[s]'(by rw [rowsOf_length]; exact hs) = (rowsOf h c)[t]'(by rw [rowsOf_length]; exact ht)) ↔ c.getD s 0 = c.getD t 0 ∧ ∀ k, k < h.K → c.getD (h.step k s) 0 = c.getD (h.step k t) 0 := by
  rw [rowsOf_get, rowsOf_get, List.cons.injEq]
  constructor
  · rintro ⟨h1, h2⟩
    refine ⟨h1, fun k hk => ?_⟩
    have e := congrArg (fun l : List Nat => l[k]?) h2
    simpa [hk] using e
  · rintro ⟨h1, h2⟩
    exact ⟨h1, List.map_congr_left fun k hk => h2 k (List.mem_range.mp hk)⟩
theorem finer_ker {h : Hd} {c : List Nat} {s t : Nat} (hs : s < h.n) (ht : t < h.n) :
    (inOrder (rowsOf h c)).getD s 0 = (inOrder (rowsOf h c)).getD t 0 ↔ c.getD s 0 = c.getD t 0 ∧ ∀ k, k < h.K → c.getD (h.step k s) 0 = c.getD (h.step k t) 0 := by
  rw [inOrder_ker (by rw [rowsOf_length]; exact hs) (by rw [rowsOf_length]; exact ht)]
  exact rowsOf_eq hs ht
theorem cinv_start (h : Hd) : CInv h (inOrder h.labs) where
  len := inOrder_length
  ord := inOrder_idem
  coarse := fun s t hs ht a => by
    rw [inOrder_ker hs ht]
    have e := a.lab
    unfold Hd.lab at e
    rwa [getD_lt (show s < h.labs.length from hs), getD_lt (show t < h.labs.length from ht)] at e
  fine := fun s t hs ht e => by
    rw [inOrder_ker hs ht] at e
    unfold Hd.lab
    rw [getD_lt (show s < h.labs.length from hs), getD_lt (show t < h.labs.length from ht)]
    exact e
theorem cinv_step {h : Hd} {c : List Nat} (o : h.Ok) (I : CInv h c) : CInv h (inOrder (rowsOf h c)) where
  len := by rw [inOrder_length, rowsOf_length]
  ord := inOrder_idem
  coarse := fun s t hs ht a => (finer_ker hs ht).mpr ⟨I.coarse s t hs ht a, fun k _ => I.coarse _ _ (h.step_lt o k s) (h.step_lt o k t) (a.step k)⟩
  fine := fun s t hs ht e => I.fine s t hs ht ((finer_ker hs ht).mp e).1
theorem cinv_done {h : Hd} {c : List Nat} (o : h.Ok) (I : CInv h c) (e : inOrder (rowsOf h c) = c) : ClsOk h c := by
  refine ⟨I.len, fun s t hs ht => ⟨fun q => ?_, I.coarse s t hs ht⟩⟩
  refine alike_of (fun s t => s < h.n ∧ t < h.n ∧ c.getD s 0 = c.getD t 0) (fun s t r => I.fine s t r.1 r.2.1 r.2.2) (fun s t k hk r => ?_) ⟨hs, ht, q⟩
  have z := (finer_ker (c := c) r.1 r.2.1).mp (by rw [e]; exact r.2.2)
  exact ⟨h.step_lt o k s, h.step_lt o k t, z.2 k hk⟩
/-- how many pairs of states have one mark -/
def eqs (n : Nat) (c : List Nat) : Nat := ((List.range n).flatMap fun i => (List.range n).map fun j => (i, j)).countP fun p => decide (c.getD p.1 0 = c.getD p.2 0)
theorem cinv_less {h : Hd} {c : List Nat} (I : CInv h c) (ne : inOrder (rowsOf h c) ≠ c) : eqs h.n (inOrder (rowsOf h c)) < eqs h.n c := by
  have mem : ∀ i j, (i, j) ∈ ((List.range h.n).flatMap fun i => (List.range h.n).map fun j => (i, j)) ↔ i < h.n ∧ j < h.n := fun i j => by simp
  refine countP_lt (fun p hp q => ?_) ?_
  · obtain ⟨i, j⟩ := p
    obtain ⟨hi, hj⟩ := (mem i j).mp hp
    exact decide_eq_true ((finer_ker hi hj).mp (of_decide_eq_true q)).1
  · refine Classical.byContradiction fun hno => ne ?_
    have hl : (rowsOf h c).length = c.length := by rw [rowsOf_length, I.len]
    rw [← I.ord]
    have e2 : inOrder (rowsOf h c) = inOrder c := by
      refine inOrder_same hl fun i j hi hj => ?_
      have hi' : i < h.n := by rw [← rowsOf_length (h := h) (c := c)]; exact hi
      have hj' : j < h.n := by rw [← rowsOf_length (h := h) (c := c)]; exact hj
      have ci : c.getD i 0 = c[i]'(hl ▸ hi) := getD_lt (hl ▸ hi)
      have cj : c.getD j 0 = c[j]'(hl ▸ hj) := getD_lt (hl ▸ hj)
      rw [rowsOf_eq hi' hj', ← ci, ← cj]
      refine ⟨fun q => q.1, fun q => ?_⟩
      refine Classical.byContradiction fun hq => hno ⟨(i, j), (mem i j).mpr ⟨hi', hj'⟩, decide_eq_true q, decide_eq_false fun z => hq ((finer_ker hi' hj').mp z)⟩
    rw [I.ord, e2, I.ord]

/-! ### a search, breadth first -/
section
variable {α : Type} [DecidableEq α]
def look (f : List (α × List Nat)) (x : α) : Option (List Nat) := (f.find? fun p => decide (p.1 = x)).map (·.2)
def ky (f : List (α × List Nat)) : List α := f.map (·.1)
set_option linter.unusedSectionVars false
set_option linter.unusedVariables false
theorem look_some {f : List (α × List Nat)} {x : α} (h : x ∈ ky f) : ∃ l, look f x = some l ∧ (x, l) ∈ f := by
  unfold ky at h
  obtain ⟨p, hp, rfl⟩ := List.mem_map.mp h
  cases e : f.find? fun q => decide (q.1 = p.1) with
  | none => exact absurd (decide_eq_true (Eq.refl p.1)) (by simpa using List.find?_eq_none.mp e p hp)
  | some q =>
    have h1 := List.find?_some e
    have h2 : q.1 = p.1 := of_decide_eq_true h1
    refine ⟨q.2, by unfold look; rw [e]; rfl, ?_⟩
    rw [← h2]
    exact List.mem_of_find?_eq_some e
variable (K : Nat) (step : Nat → α → α)
/-- one kind at x -/
def bIn (x : α) (acc : List (α × List Nat) × List α) (k : Nat) : List (α × List Nat) × List α :=
  if step k x ∈ ky acc.1 then acc else (acc.1 ++ [(step k x, (look acc.1 x).getD [] ++ [k])], acc.2 ++ [step k x])
/-- what holds while the search runs: pend are still to be looked at -/
structure BI (G : α → Prop) (run : List Nat → α) (U : List α) (f : List (α × List Nat)) (pend : List α) : Prop where
  nd : (ky f).Nodup
  sub : ∀ x ∈ ky f, x ∈ U
  ok : ∀ p ∈ f, p.1 = run p.2 ∧ ∀ k ∈ p.2, k < K
  hd : ∃ r, f = (run [], []) :: r
  pd : ∀ x ∈ pend, x ∈ ky f
  cl : ∀ x ∈ ky f, x ∈ pend ∨ (G x ∧ ∀ k, k < K → step k x ∈ ky f)
variable {K step} {G : α → Prop} {run : List Nat → α} {U : List α} {f : List (α × List Nat)} {pend : List α}
theorem BI.start (hU : run [] ∈ U) : BI K step G run U [(run [], [])] [run []] where
  nd := by simp [ky]
  sub := fun x hx => by
    have e : x = run [] := by simpa [ky] using hx
    rw [e]; exact hU
  ok := fun p hp => by
    have e : p = (run [], []) := by simpa using hp
    subst e
    exact ⟨rfl, fun k hk => nomatch hk⟩
  hd := ⟨[], rfl⟩
  pd := fun x hx => by simpa [ky] using hx
  cl := fun x hx => .inl (by simpa [ky] using hx)
/-- x is looked at by the kind k -/
theorem BI.kind (hrun : ∀ l k, run (l ++ [k]) = step k (run l)) (hU : ∀ x k, x ∈ U → k < K → step k x ∈ U) {x : α} {rest later : List α} {k : Nat} (hk : k < K) (B : BI K step G run U f (x :: (rest ++ later))) :
    BI K step G run U (bIn step x (f, later) k).1 (x :: (rest ++ (bIn step x (f, later) k).2)) ∧ step k x ∈ ky (bIn step x (f, later) k).1 ∧ (∀ y ∈ ky f, y ∈ ky (bIn step x (f, later) k).1) ∧
      (bIn step x (f, later) k).1.length + later.length = f.length + (bIn step x (f, later) k).2.length := by
  have hx : x ∈ ky f := B.pd x List.mem_cons_self
  unfold bIn
  by_cases h : step k x ∈ ky f
  · rw [if_pos h]
    exact ⟨B, h, fun _ z => z, by simp⟩
  · rw [if_neg h]
    obtain ⟨l, el, hl⟩ := look_some hx
    have ek : ∀ z : α × List Nat, ky (f ++ [z]) = ky f ++ [z.1] := fun z => by simp [ky]
    obtain ⟨e1, e2⟩ := B.ok _ hl
    refine ⟨⟨?_, fun y hy => ?_, fun p hp => ?_, ?_, fun y hy => ?_, fun y hy => ?_⟩, ?_, fun y hy => ?_, by simp; omega⟩
    · rw [ek]
      exact List.nodup_append.mpr ⟨B.nd, by simp, fun a ha b hb e => h (by have : b = step k x := by simpa using hb
                                                                           rw [← this, ← e]; exact ha)⟩
    · rw [ek] at hy
      rcases List.mem_append.mp hy with hy | hy
      · exact B.sub y hy
      · have : y = step k x := by simpa using hy
        rw [this]; exact hU x k (B.sub x hx) hk
    · rcases List.mem_append.mp hp with hp | hp
      · exact B.ok p hp
      · have e : p = (step k x, (look f x).getD [] ++ [k]) := by simpa using hp
        subst e
        rw [el]
        refine ⟨?_, fun j hj => ?_⟩
        · show step k x = run (l ++ [k])
          rw [hrun, ← e1]
        · rcases List.mem_append.mp hj with hj | hj
          · exact e2 j hj
          · have : j = k := by simpa using hj
            rw [this]; exact hk
    · obtain ⟨r, e⟩ := B.hd
      exact ⟨r ++ [(step k x, (look f x).getD [] ++ [k])], by rw [e]; rfl⟩
    · rw [ek]
      rw [← List.append_assoc, ← List.cons_append] at hy
      rcases List.mem_append.mp hy with hy | hy
      · exact List.mem_append_left _ (B.pd y hy)
      · exact List.mem_append_right _ hy
    · rw [ek] at hy ⊢
      rcases List.mem_append.mp hy with hy | hy
      · rcases B.cl y hy with z | ⟨z, z'⟩
        · left
          rw [← List.append_assoc, ← List.cons_append]
          exact List.mem_append_left _ z
        · exact .inr ⟨z, fun j hj => List.mem_append_left _ (z' j hj)⟩
      · left
        rw [← List.append_assoc, ← List.cons_append]
        exact List.mem_append_right _ hy
    · rw [ek]; simp
    · rw [ek]; exact List.mem_append_left _ hy
/-- x is looked at by all kinds -/
theorem BI.next {x : α} {pend : List α} (B : BI K step G run U f (x :: pend)) (g : G x) (hk : ∀ k, k < K → step k x ∈ ky f) : BI K step G run U f pend where
  nd := B.nd
  sub := B.sub
  ok := B.ok
  hd := B.hd
  pd := fun y hy => B.pd y (List.mem_cons_of_mem _ hy)
  cl := fun y hy => by
    rcases B.cl y hy with z | z
    · rcases List.mem_cons.mp z with e | z
      · exact .inr (e ▸ ⟨g, hk⟩)
      · exact .inl z
    · exact .inr z
theorem BI.size (B : BI K step G run U f pend) : f.length ≤ U.length := by
  have h := nodup_len B.nd B.sub
  simpa [ky] using h
end

/-! ### a closure by a pile -/
section
variable {α : Type}
inductive Clo (init ok : α → Prop) (succ : α → List α) : α → Prop
  | base {x} : init x → ok x → Clo init ok succ x
  | step {x y} : Clo init ok succ x → y ∈ succ x → ok y → Clo init ok succ y
theorem Clo.ok {init ok : α → Prop} {succ : α → List α} {x : α} (c : Clo init ok succ x) : ok x := by
  cases c with
  | base _ h => exact h
  | step _ _ h => exact h
structure DI (init ok : α → Prop) (succ : α → List α) (keys waiting : List α) : Prop where
  nd : keys.Nodup
  sub : ∀ x ∈ keys, Clo init ok succ x
  wt : ∀ x ∈ waiting, ok x → Clo init ok succ x
  ini : ∀ x, init x → ok x → x ∈ keys ∨ x ∈ waiting
  cl : ∀ x ∈ keys, ∀ y ∈ succ x, ok y → y ∈ keys ∨ y ∈ waiting
variable {init ok : α → Prop} {succ : α → List α} {keys waiting : List α}
theorem DI.start (h : ∀ x, x ∈ waiting ↔ init x) : DI init ok succ [] waiting where
  nd := List.nodup_nil
  sub := fun x hx => nomatch hx
  wt := fun x hx o => .base ((h x).mp hx) o
  ini := fun x hx _ => .inr ((h x).mpr hx)
  cl := fun x hx => nomatch hx
theorem DI.skip {x : α} (D : DI init ok succ keys (waiting ++ [x])) (h : x ∈ keys ∨ ¬ ok x) : DI init ok succ keys waiting where
  nd := D.nd
  sub := D.sub
  wt := fun y hy => D.wt y (List.mem_append_left _ hy)
  ini := fun y hy o => by
    rcases D.ini y hy o with z | z
    · exact .inl z
    · rcases List.mem_append.mp z with z | z
      · exact .inr z
      · have e : y = x := by simpa using z
        subst e
        rcases h with h | h
        · exact .inl h
        · exact absurd o h
  cl := fun y hy u hu o => by
    rcases D.cl y hy u hu o with z | z
    · exact .inl z
    · rcases List.mem_append.mp z with z | z
      · exact .inr z
      · have e : u = x := by simpa using z
        subst e
        rcases h with h | h
        · exact .inl h
        · exact absurd o h
theorem DI.take {x : α} (D : DI init ok succ keys (waiting ++ [x])) (h : ¬ x ∈ keys) (o : ok x) {more : List α} (hm : ∀ y, y ∈ more ↔ y ∈ succ x) : DI init ok succ (keys ++ [x]) (waiting ++ more) := by
  have cx : Clo init ok succ x := D.wt x (by simp) o
  refine ⟨List.nodup_append.mpr ⟨D.nd, by simp, fun a ha b hb e => h (by have : b = x := by simpa using hb
                                                                         rw [← this, ← e]; exact ha)⟩, fun y hy => ?_, fun y hy oy => ?_, fun y hy oy => ?_, fun y hy u hu ou => ?_⟩
  · rcases List.mem_append.mp hy with hy | hy
    · exact D.sub y hy
    · have e : y = x := by simpa using hy
      rw [e]; exact cx
  · rcases List.mem_append.mp hy with hy | hy
    · exact D.wt y (List.mem_append_left _ hy) oy
    · exact .step cx ((hm y).mp hy) oy
  · rcases D.ini y hy oy with z | z
    · exact .inl (List.mem_append_left _ z)
    · rcases List.mem_append.mp z with z | z
      · exact .inr (List.mem_append_left _ z)
      · exact .inl (List.mem_append_right _ z)
  · rcases List.mem_append.mp hy with hy | hy
    · rcases D.cl y hy u hu ou with z | z
      · exact .inl (List.mem_append_left _ z)
      · rcases List.mem_append.mp z with z | z
        · exact .inr (List.mem_append_left _ z)
        · exact .inl (List.mem_append_right _ z)
    · have e : y = x := by simpa using hy
      subst e
      exact .inr (List.mem_append_right _ ((hm u).mpr hu))
theorem DI.done (D : DI init ok succ keys []) (x : α) : x ∈ keys ↔ Clo init ok succ x := by
  refine ⟨D.sub x, fun c => ?_⟩
  induction c with
  | base i o =>
    rcases D.ini _ i o with z | z
    · exact z
    · exact nomatch z
  | step _ hs o ih =>
    rcases D.cl _ ih _ hs o with z | z
    · exact z
    · exact nomatch z
end
end K14

/-! Plain Lean: stands, how far a wrong one is, the first wrong log; a handler and its least one have the same. -/
namespace K14
/-! ### morphisms -/
structure Morph (h L : Hd) (φ : Nat → Nat) : Prop where
  zero : φ 0 = 0
  kk : L.K = h.K
  lt : ∀ s, h.Reached s → φ s < L.n
  step : ∀ s k, h.Reached s → k < h.K → φ (h.step k s) = L.step k (φ s)
  lab : ∀ s t, h.Reached s → h.Reached t → (h.lab s = h.lab t ↔ L.lab (φ s) = L.lab (φ t))
section
variable {h L : Hd} {φ : Nat → Nat}
theorem Morph.step' (m : Morph h L φ) {s : Nat} (r : h.Reached s) (k : Nat) : φ (h.step k s) = L.step k (φ s) := by
  by_cases hk : k < h.K
  · exact m.step s k r hk
  · rw [h.step_junk s (Nat.le_of_not_lt hk), L.step_junk (φ s) (by rw [m.kk]; exact Nat.le_of_not_lt hk), m.zero]
theorem Morph.run (m : Morph h L φ) : ∀ (l : List Nat) {s : Nat}, h.Reached s → φ (h.run s l) = L.run (φ s) l
  | [], _, _ => rfl
  | k :: l, s, r => by
    show φ (h.run (h.step k s) l) = L.run (L.step k (φ s)) l
    rw [m.run l (r.step k), m.step' r]
theorem reached_run {s : Nat} (r : h.Reached s) : ∀ l, h.Reached (h.run s l)
  | l => by
    obtain ⟨l0, rfl⟩ := r
    exact ⟨l0 ++ l, (h.run_append 0 l0 l).symm⟩
theorem Morph.alike (m : Morph h L φ) {s t : Nat} (rs : h.Reached s) (rt : h.Reached t) : Alike h s t ↔ Alike L (φ s) (φ t) := by
  constructor
  · intro a l
    rw [← m.run l rs, ← m.run l rt]
    exact (m.lab _ _ (reached_run rs l) (reached_run rt l)).mp (a l)
  · intro a l
    have q := a l
    rw [← m.run l rs, ← m.run l rt] at q
    exact (m.lab _ _ (reached_run rs l) (reached_run rt l)).mpr q
theorem Morph.behind (m : Morph h L φ) (l : List Nat) : L.run 0 l = φ (h.run 0 l) := by
  rw [m.run l .zero, m.zero]
end

/-! ### plans, stands, moves -/
structure Pl where
  ends : List Nat
  rows : List (List (Option Nat))
structure Pl.Ok (p : Pl) (K : Nat) : Prop where
  r1 : 1 ≤ p.rows.length
  r3 : p.rows.length ≤ 3
  row : ∀ r ∈ p.rows, r.length = K ∧ ∀ x ∈ r, ∀ g, x = some g → g < p.rows.length
  e1 : p.ends ≠ []
  asc : p.ends.Pairwise (· < ·)
  lt : ∀ e ∈ p.ends, e < p.rows.length
def Pl.goal (p : Pl) (pl k : Nat) : Option Nat := (p.rows.getD pl []).getD k none
structure St4 where
  pl : Nat
  s : Nat
  o : Nat
  held : Option Nat
  deriving DecidableEq
abbrev Pr : Type := Nat × Option Nat
def comeP (h : Hd) (q : Pr) : List Pr := match q.2 with
  | none => []
  | some k => [(h.step k q.1, none)]
def sendP (h : Hd) (q : Pr) (k : Nat) : List Pr := (h.step k q.1, q.2) :: (match q.2 with
  | none => [(q.1, some k)]
  | some _ => [])
def comeAt (h : Hd) (t : St4) : List St4 := (comeP h (t.o, t.held)).map fun q => ⟨t.pl, t.s, q.1, q.2⟩
def sentAt (h : Hd) (p : Pl) (t : St4) (k : Nat) : List (Nat × St4) := match p.goal t.pl k with
  | none => []
  | some g => (sendP h (t.o, t.held) k).map fun q => (k, ⟨g, h.step k t.s, q.1, q.2⟩)
def sentFrom (h : Hd) (p : Pl) (t : St4) : List (Nat × St4) := (List.range h.K).flatMap (sentAt h p t)
def start4 : St4 := ⟨0, 0, 0, none⟩
def moves (h : Hd) (p : Pl) (t : St4) : List St4 := comeAt h t ++ (sentFrom h p t).map (·.2)
/-- the stands that are come to -/
def Come (h : Hd) (p : Pl) : St4 → Prop := Clo (fun t => t = start4) (fun _ => True) (moves h p)
structure Good4 (h : Hd) (p : Pl) (t : St4) : Prop where
  pl : t.pl < p.rows.length
  s : h.Reached t.s
  o : h.Reached t.o
  hd : ∀ k, t.held = some k → k < h.K
theorem Good4.start {h : Hd} {p : Pl} (o : p.Ok h.K) : Good4 h p start4 := ⟨o.r1, .zero, .zero, fun k e => by cases e⟩
theorem comeP_one {h : Hd} {q q' : Pr} (e : q' ∈ comeP h q) : ∃ k, q.2 = some k ∧ q' = (h.step k q.1, none) := by
  unfold comeP at e
  split at e
  · cases e
  · rename_i k hk
    exact ⟨k, hk, by simpa using e⟩
theorem sendP_one {h : Hd} {q q' : Pr} {k : Nat} (e : q' ∈ sendP h q k) : q' = (h.step k q.1, q.2) ∨ (q.2 = none ∧ q' = (q.1, some k)) := by
  unfold sendP at e
  rcases List.mem_cons.mp e with e | e
  · exact .inl e
  · split at e
    · rename_i hk
      exact .inr ⟨hk, by simpa using e⟩
    · cases e
theorem Good4.come {h : Hd} {p : Pl} {t u : St4} (g : Good4 h p t) (e : u ∈ comeAt h t) : Good4 h p u := by
  unfold comeAt at e
  obtain ⟨q, hq, rfl⟩ := List.mem_map.mp e
  obtain ⟨k, _, rfl⟩ := comeP_one hq
  exact ⟨g.pl, g.s, g.o.step k, fun k e => by cases e⟩
theorem goal_lt {p : Pl} {K pl k g : Nat} (o : p.Ok K) (e : p.goal pl k = some g) : g < p.rows.length := by
  unfold Pl.goal at e
  by_cases h1 : pl < p.rows.length
  · rw [getD_lt (l := p.rows) h1] at e
    obtain ⟨_, h3⟩ := o.row _ (List.getElem_mem h1)
    by_cases h2 : k < (p.rows[pl]).length
    · rw [getD_lt h2] at e
      exact h3 _ (List.getElem_mem h2) g e
    · rw [getD_ge (Nat.le_of_not_lt h2)] at e
      cases e
  · rw [getD_ge (l := p.rows) (Nat.le_of_not_lt h1)] at e
    cases e
theorem mem_sentFrom {h : Hd} {p : Pl} {t u : St4} {k : Nat} : (k, u) ∈ sentFrom h p t ↔ k < h.K ∧ ∃ g, p.goal t.pl k = some g ∧ ∃ q ∈ sendP h (t.o, t.held) k, u = ⟨g, h.step k t.s, q.1, q.2⟩ := by
  unfold sentFrom
  rw [List.mem_flatMap]
  constructor
  · rintro ⟨j, hj, e⟩
    unfold sentAt at e
    split at e
    · cases e
    · rename_i g hg
      obtain ⟨q, hq, e⟩ := List.mem_map.mp e
      have e1 : j = k := congrArg Prod.fst e
      subst e1
      exact ⟨List.mem_range.mp hj, g, hg, q, hq, (congrArg Prod.snd e).symm⟩
  · rintro ⟨hk, g, hg, q, hq, rfl⟩
    refine ⟨k, List.mem_range.mpr hk, ?_⟩
    unfold sentAt
    rw [hg]
    exact List.mem_map.mpr ⟨q, hq, rfl⟩
theorem Good4.sent {h : Hd} {p : Pl} (o : p.Ok h.K) {t u : St4} {k : Nat} (g : Good4 h p t) (e : (k, u) ∈ sentFrom h p t) : Good4 h p u := by
  obtain ⟨hk, gl, hg, q, hq, rfl⟩ := mem_sentFrom.mp e
  rcases sendP_one hq with rfl | ⟨_, rfl⟩
  · exact ⟨goal_lt o hg, g.s.step k, g.o.step k, g.hd⟩
  · exact ⟨goal_lt o hg, g.s.step k, g.o, fun j e => by
      have : k = j := Option.some.inj e
      rw [← this]; exact hk⟩
theorem Come.good {h : Hd} {p : Pl} (o : p.Ok h.K) {t : St4} (c : Come h p t) : Good4 h p t := by
  induction c with
  | base e _ => rw [e]; exact .start o
  | step _ e _ ih =>
    rcases List.mem_append.mp e with e | e
    · exact ih.come e
    · obtain ⟨⟨k, u⟩, hu, rfl⟩ := List.mem_map.mp e
      exact ih.sent o hu
theorem Come.come {h : Hd} {p : Pl} {t u : St4} (c : Come h p t) (e : u ∈ comeAt h t) : Come h p u := .step c (List.mem_append_left _ e) trivial
theorem Come.sent {h : Hd} {p : Pl} {t u : St4} {k : Nat} (c : Come h p t) (e : (k, u) ∈ sentFrom h p t) : Come h p u := .step c (List.mem_append_right _ (List.mem_map.mpr ⟨_, e, rfl⟩)) trivial
theorem comeP_len (h : Hd) (q : Pr) : (comeP h q).length ≤ 1 := by
  unfold comeP
  split <;> simp
theorem sendP_len (h : Hd) (q : Pr) (k : Nat) : (sendP h q k).length ≤ 2 := by
  unfold sendP
  split <;> simp
theorem comeAt_len (h : Hd) (t : St4) : (comeAt h t).length ≤ 1 := by
  unfold comeAt
  rw [List.length_map]
  exact comeP_len h _
theorem flat_len {α β : Type} {f : α → List β} {m : Nat} : ∀ (l : List α), (∀ x ∈ l, (f x).length ≤ m) → (l.flatMap f).length ≤ l.length * m
  | [], _ => by simp
  | x :: l, hf => by
    have ih := flat_len (f := f) (m := m) l fun y hy => hf y (List.mem_cons_of_mem _ hy)
    have h1 := hf x List.mem_cons_self
    rw [List.flatMap_cons, List.length_append, List.length_cons, Nat.add_mul]
    omega
theorem sentAt_len (h : Hd) (p : Pl) (t : St4) (k : Nat) : (sentAt h p t k).length ≤ 2 := by
  unfold sentAt
  split
  · simp
  · rw [List.length_map]; exact sendP_len _ _ _
theorem sentFrom_len (h : Hd) (p : Pl) (t : St4) : (sentFrom h p t).length ≤ h.K * 2 := by
  have e := flat_len (f := sentAt h p t) (m := 2) (List.range h.K) fun k _ => sentAt_len h p t k
  rwa [List.length_range] at e
/-- all stands that can be -/
def univ4 (h : Hd) (p : Pl) : List St4 := (List.range p.rows.length).flatMap fun pl => (List.range h.n).flatMap fun s => (List.range h.n).flatMap fun o => (none :: (List.range h.K).map some).map fun hd => ⟨pl, s, o, hd⟩
theorem mem_univ4 {h : Hd} {p : Pl} (ok : h.Ok) {t : St4} (g : Good4 h p t) : t ∈ univ4 h p := by
  obtain ⟨pl, s, o, hd⟩ := t
  unfold univ4
  refine List.mem_flatMap.mpr ⟨pl, List.mem_range.mpr g.pl, List.mem_flatMap.mpr ⟨s, List.mem_range.mpr (g.s.lt ok), List.mem_flatMap.mpr ⟨o, List.mem_range.mpr (g.o.lt ok), List.mem_map.mpr ⟨hd, ?_, rfl⟩⟩⟩⟩
  cases hd with
  | none => exact List.mem_cons_self
  | some k => exact List.mem_cons_of_mem _ (List.mem_map.mpr ⟨k, List.mem_range.mpr (g.hd k rfl), rfl⟩)
theorem univ4_len {h : Hd} {p : Pl} (hn : h.n ≤ 4) (hK : h.K ≤ 3) (hp : p.rows.length ≤ 3) : (univ4 h p).length ≤ 192 := by
  have e3 : ∀ pl s o : Nat, ((none :: (List.range h.K).map some).map fun hd => (⟨pl, s, o, hd⟩ : St4)).length ≤ 4 := fun pl s o => by simp; omega
  have e2 : ∀ pl s : Nat, ((List.range h.n).flatMap fun o => (none :: (List.range h.K).map some).map fun hd => (⟨pl, s, o, hd⟩ : St4)).length ≤ 16 := fun pl s => by
    have q := flat_len (m := 4) (f := fun o => (none :: (List.range h.K).map some).map fun hd => (⟨pl, s, o, hd⟩ : St4)) (List.range h.n) fun o _ => e3 pl s o
    rw [List.length_range] at q
    omega
  have e1 : ∀ pl : Nat, ((List.range h.n).flatMap fun s => (List.range h.n).flatMap fun o => (none :: (List.range h.K).map some).map fun hd => (⟨pl, s, o, hd⟩ : St4)).length ≤ 64 := fun pl => by
    have q := flat_len (m := 16) (f := fun s => (List.range h.n).flatMap fun o => (none :: (List.range h.K).map some).map fun hd => (⟨pl, s, o, hd⟩ : St4)) (List.range h.n) fun s _ => e2 pl s
    rw [List.length_range] at q
    omega
  have e0 := flat_len (m := 64) (f := fun pl => (List.range h.n).flatMap fun s => (List.range h.n).flatMap fun o => (none :: (List.range h.K).map some).map fun hd => (⟨pl, s, o, hd⟩ : St4)) (List.range p.rows.length) fun pl _ => e1 pl
  rw [List.length_range] at e0
  unfold univ4
  omega

/-! ### how far a wrong stand is -/
def Wrong (h : Hd) (p : Pl) (t : St4) : Prop := t.pl ∈ p.ends ∧ t.held = none ∧ ¬ Alike h t.s t.o
inductive Rch (h : Hd) (p : Pl) : Nat → St4 → Prop
  | wrong {t} : Wrong h p t → Rch h p 0 t
  | come {m t u} : u ∈ comeAt h t → Rch h p m u → Rch h p m t
  | sent {m k t u} : (k, u) ∈ sentFrom h p t → Rch h p m u → Rch h p (m + 1) t
def Dist (h : Hd) (p : Pl) (m : Nat) (t : St4) : Prop := Rch h p m t ∧ ∀ j, j < m → ¬ Rch h p j t
theorem Dist.inj {h : Hd} {p : Pl} {m n : Nat} {t : St4} (a : Dist h p m t) (b : Dist h p n t) : m = n := by
  rcases Nat.lt_trichotomy m n with q | q | q
  · exact absurd a.1 (b.2 m q)
  · exact q
  · exact absurd b.1 (a.2 n q)
theorem Rch.dist {h : Hd} {p : Pl} : ∀ {m : Nat} {t : St4}, Rch h p m t → ∃ j, j ≤ m ∧ Dist h p j t := by
  intro m
  induction m using Nat.strongRecOn with
  | _ m ih =>
    intro t r
    by_cases q : ∃ j, j < m ∧ Rch h p j t
    · obtain ⟨j, hj, r'⟩ := q
      obtain ⟨i, hi, d⟩ := ih j hj r'
      exact ⟨i, by omega, d⟩
    · exact ⟨m, Nat.le_refl _, r, fun j hj r' => q ⟨j, hj, r'⟩⟩
/-- a stand from which the next event (or the end) is -/
def Base (h : Hd) (p : Pl) : Nat → St4 → Prop
  | 0, t => Wrong h p t
  | m + 1, t => ∃ k u, (k, u) ∈ sentFrom h p t ∧ Rch h p m u
theorem Base.rch {h : Hd} {p : Pl} {m : Nat} {t : St4} (b : Base h p m t) : Rch h p m t := by
  cases m with
  | zero => exact .wrong b
  | succ m =>
    obtain ⟨k, u, e, r⟩ := b
    exact .sent e r
/-- behind a base of a distance a stand of the distance less one -/
theorem Base.dist {h : Hd} {p : Pl} {m : Nat} {t : St4} (b : Base h p (m + 1) t) (d : Dist h p (m + 1) t) : ∃ k u, (k, u) ∈ sentFrom h p t ∧ Dist h p m u := by
  obtain ⟨k, u, e, r⟩ := b
  refine ⟨k, u, e, r, fun j hj r' => d.2 (j + 1) (by omega) (.sent e r')⟩
/-- from a stand of a distance to its base, all of one distance: what is shown backwards from the bases holds -/
theorem Dist.back {h : Hd} {p : Pl} {m : Nat} (P : St4 → Prop) (hb : ∀ t, Base h p m t → Dist h p m t → P t) (hc : ∀ t u, u ∈ comeAt h t → Dist h p m t → Dist h p m u → P u → P t) : ∀ {t : St4}, Dist h p m t → P t := by
  have key : ∀ (m' : Nat) (t : St4), Rch h p m' t → m' = m → (∀ j, j < m → ¬ Rch h p j t) → P t := by
    intro m' t r
    induction r with
    | @wrong t w =>
      intro e no
      subst e
      exact hb t w ⟨.wrong w, no⟩
    | @come m' t u hu r ih =>
      intro e no
      subst e
      have nu : ∀ j, j < m' → ¬ Rch h p j u := fun j hj q => no j hj (.come hu q)
      exact hc t u hu ⟨.come hu r, no⟩ ⟨r, nu⟩ (ih rfl nu)
    | @sent m' k t u hu r _ =>
      intro e no
      subst e
      exact hb t ⟨k, u, hu, r⟩ ⟨.sent hu r, no⟩
  exact fun {t} d => key m t d.1 rfl d.2
theorem Dist.come_le {h : Hd} {p : Pl} {m : Nat} {t u : St4} (e : u ∈ comeAt h t) (r : Rch h p m u) (no : ∀ j, j < m → ¬ Rch h p j t) : Dist h p m t := ⟨.come e r, no⟩

/-! ### the first wrong log -/
def Near (h : Hd) (p : Pl) (m : Nat) (S : St4 → Prop) : St4 → Prop := Clo S (Dist h p m) (comeAt h)
inductive IsLog (h : Hd) (p : Pl) : Nat → (St4 → Prop) → List Nat → Prop
  | nil {S} : IsLog h p 0 S []
  | cons {m S k l} : (∃ t u, S t ∧ (k, u) ∈ sentFrom h p t ∧ Dist h p m u) → (∀ j t u, S t → (j, u) ∈ sentFrom h p t → Dist h p m u → k ≤ j) →
      IsLog h p m (Near h p m fun u => ∃ t, S t ∧ (k, u) ∈ sentFrom h p t ∧ Dist h p m u) l → IsLog h p (m + 1) S (k :: l)
/-- what first_wrong_log returns -/
def FirstWrong (h : Hd) (p : Pl) (r : Option (List Nat)) : Prop :=
  (r = none ∧ ¬ ∃ m, Rch h p m start4) ∨ ∃ m l, Dist h p m start4 ∧ IsLog h p m (Near h p m fun t => t = start4) l ∧ r = some l
theorem IsLog.len {h : Hd} {p : Pl} {m : Nat} {S : St4 → Prop} {l : List Nat} (q : IsLog h p m S l) : l.length = m := by
  induction q with
  | nil => rfl
  | cons _ _ _ ih => rw [List.length_cons, ih]
theorem IsLog.lt {h : Hd} {p : Pl} {m : Nat} {S : St4 → Prop} {l : List Nat} (q : IsLog h p m S l) : ∀ k ∈ l, k < h.K := by
  induction q with
  | nil => intro k hk; cases hk
  | cons a _ _ ih =>
    obtain ⟨t, u, _, e, _⟩ := a
    intro j hj
    rcases List.mem_cons.mp hj with rfl | hj
    · exact (mem_sentFrom.mp e).1
    · exact ih j hj

/-! ### along a morphism -/
def mp (φ : Nat → Nat) (t : St4) : St4 := ⟨t.pl, φ t.s, φ t.o, t.held⟩
section
variable {h L : Hd} {φ : Nat → Nat} {p : Pl}
theorem comeP_mp (m : Morph h L φ) {o : Nat} {hd : Option Nat} (r : h.Reached o) : comeP L (φ o, hd) = (comeP h (o, hd)).map fun q => (φ q.1, q.2) := by
  cases hd with
  | none => rfl
  | some k =>
    show [(L.step k (φ o), none)] = [(φ (h.step k o), none)]
    rw [m.step' r]
theorem sendP_mp (m : Morph h L φ) {o : Nat} {hd : Option Nat} (r : h.Reached o) (k : Nat) : sendP L (φ o, hd) k = (sendP h (o, hd) k).map fun q => (φ q.1, q.2) := by
  cases hd with
  | none =>
    show [(L.step k (φ o), none), (φ o, some k)] = [(φ (h.step k o), none), (φ o, some k)]
    rw [m.step' r]
  | some j =>
    show [(L.step k (φ o), some j)] = [(φ (h.step k o), some j)]
    rw [m.step' r]
theorem comeAt_mp (m : Morph h L φ) {t : St4} (g : Good4 h p t) : comeAt L (mp φ t) = (comeAt h t).map (mp φ) := by
  unfold comeAt
  show (comeP L (φ t.o, t.held)).map _ = _
  rw [comeP_mp m g.o, List.map_map, List.map_map]
  rfl
theorem sentFrom_mp (m : Morph h L φ) {t : St4} (g : Good4 h p t) {k : Nat} {u' : St4} : (k, u') ∈ sentFrom L p (mp φ t) ↔ ∃ u, (k, u) ∈ sentFrom h p t ∧ u' = mp φ u := by
  rw [mem_sentFrom]
  constructor
  · rintro ⟨hk, gl, hg, q, hq, rfl⟩
    have hq' : q ∈ sendP L (φ t.o, t.held) k := hq
    rw [sendP_mp m g.o] at hq'
    obtain ⟨q0, hq0, rfl⟩ := List.mem_map.mp hq'
    refine ⟨⟨gl, h.step k t.s, q0.1, q0.2⟩, mem_sentFrom.mpr ⟨by rw [← m.kk]; exact hk, gl, hg, q0, hq0, rfl⟩, ?_⟩
    show St4.mk gl (L.step k (φ t.s)) (φ q0.1) q0.2 = St4.mk gl (φ (h.step k t.s)) (φ q0.1) q0.2
    rw [m.step' g.s]
  · rintro ⟨u, hu, rfl⟩
    obtain ⟨hk, gl, hg, q, hq, rfl⟩ := mem_sentFrom.mp hu
    refine ⟨by rw [m.kk]; exact hk, gl, hg, (φ q.1, q.2), ?_, ?_⟩
    · show (φ q.1, q.2) ∈ sendP L (φ t.o, t.held) k
      rw [sendP_mp m g.o]
      exact List.mem_map.mpr ⟨q, hq, rfl⟩
    · show St4.mk gl (φ (h.step k t.s)) (φ q.1) q.2 = St4.mk gl (L.step k (φ t.s)) (φ q.1) q.2
      rw [m.step' g.s]
theorem wrong_mp (m : Morph h L φ) {t : St4} (g : Good4 h p t) : Wrong L p (mp φ t) ↔ Wrong h p t := by
  unfold Wrong
  show (t.pl ∈ p.ends ∧ t.held = none ∧ ¬ Alike L (φ t.s) (φ t.o)) ↔ _
  rw [m.alike g.s g.o]
theorem rch_mp (m : Morph h L φ) (o : p.Ok h.K) {n : Nat} {t : St4} (g : Good4 h p t) : Rch L p n (mp φ t) ↔ Rch h p n t := by
  constructor
  · intro r
    have key : ∀ (n : Nat) (t' : St4), Rch L p n t' → ∀ t, Good4 h p t → t' = mp φ t → Rch h p n t := by
      intro n t' r
      induction r with
      | wrong w => intro t g e; subst e; exact .wrong ((wrong_mp m g).mp w)
      | come hu _ ih =>
        intro t g e
        subst e
        rw [comeAt_mp m g] at hu
        obtain ⟨v, hv, ev⟩ := List.mem_map.mp hu
        exact .come hv (ih v (g.come hv) ev.symm)
      | sent hu _ ih =>
        intro t g e
        subst e
        obtain ⟨v, hv, ev⟩ := (sentFrom_mp m g).mp hu
        exact .sent hv (ih v (g.sent o hv) ev)
    exact key n _ r t g rfl
  · intro r
    induction r with
    | wrong w => exact .wrong ((wrong_mp m g).mpr w)
    | come hu _ ih =>
      exact .come (by rw [comeAt_mp m g]; exact List.mem_map_of_mem hu) (ih (g.come hu))
    | sent hu _ ih =>
      exact .sent ((sentFrom_mp m g).mpr ⟨_, hu, rfl⟩) (ih (g.sent o hu))
theorem dist_mp (m : Morph h L φ) (o : p.Ok h.K) {n : Nat} {t : St4} (g : Good4 h p t) : Dist L p n (mp φ t) ↔ Dist h p n t := by
  unfold Dist
  rw [rch_mp m o g]
  constructor
  · rintro ⟨a, b⟩
    exact ⟨a, fun j hj r => b j hj ((rch_mp m o g).mpr r)⟩
  · rintro ⟨a, b⟩
    exact ⟨a, fun j hj r => b j hj ((rch_mp m o g).mp r)⟩
theorem near_good {n : Nat} {S : St4 → Prop} (hS : ∀ t, S t → Good4 h p t) {t : St4} (c : Near h p n S t) : Good4 h p t := by
  induction c with
  | base s _ => exact hS _ s
  | step _ e _ ih => exact ih.come e
theorem near_mp (m : Morph h L φ) (o : p.Ok h.K) {n : Nat} {S S' : St4 → Prop} (hS : ∀ t, S t → Good4 h p t) (hS' : ∀ u, S' u ↔ ∃ t, S t ∧ u = mp φ t) (u : St4) : Near L p n S' u ↔ ∃ t, Near h p n S t ∧ u = mp φ t := by
  constructor
  · intro c
    induction c with
    | base s d =>
      obtain ⟨t, ht, rfl⟩ := (hS' _).mp s
      exact ⟨t, .base ht ((dist_mp m o (hS t ht)).mp d), rfl⟩
    | step _ e d ih =>
      obtain ⟨t, ht, rfl⟩ := ih
      have g := near_good hS ht
      rw [comeAt_mp m g] at e
      obtain ⟨v, hv, rfl⟩ := List.mem_map.mp e
      exact ⟨v, .step ht hv ((dist_mp m o (g.come hv)).mp d), rfl⟩
  · rintro ⟨t, c, rfl⟩
    induction c with
    | base s d => exact .base ((hS' _).mpr ⟨_, s, rfl⟩) ((dist_mp m o (hS _ s)).mpr d)
    | step c e d ih =>
      have g := near_good hS c
      exact .step ih (by rw [comeAt_mp m g]; exact List.mem_map_of_mem e) ((dist_mp m o (g.come e)).mpr d)
theorem isLog_mp (m : Morph h L φ) (o : p.Ok h.K) {n : Nat} {S : St4 → Prop} {l : List Nat} (q : IsLog h p n S l) : ∀ {S' : St4 → Prop} {l' : List Nat}, (∀ t, S t → Good4 h p t) → (∀ u, S' u ↔ ∃ t, S t ∧ u = mp φ t) → IsLog L p n S' l' → l = l' := by
  induction q with
  | nil =>
    intro S' l' _ _ q'
    cases q'
    rfl
  | @cons n S k l a b _ ih =>
    intro S' l' hS hS' q'
    cases q' with
    | @cons _ _ k' l' a' b' c' =>
      obtain ⟨t, u, ht, hu, hd⟩ := a
      obtain ⟨t', u', ht', hu', hd'⟩ := a'
      have h1 : k' ≤ k := b' k (mp φ t) (mp φ u) ((hS' _).mpr ⟨t, ht, rfl⟩) ((sentFrom_mp m (hS t ht)).mpr ⟨u, hu, rfl⟩) ((dist_mp m o ((hS t ht).sent o hu)).mpr hd)
      obtain ⟨t0, ht0, rfl⟩ := (hS' _).mp ht'
      obtain ⟨u0, hu0, rfl⟩ := (sentFrom_mp m (hS t0 ht0)).mp hu'
      have h2 : k ≤ k' := b k' t0 u0 ht0 hu0 ((dist_mp m o ((hS t0 ht0).sent o hu0)).mp hd')
      have e : k = k' := Nat.le_antisymm h2 h1
      subst e
      refine congrArg (k :: ·) (ih (fun t c => near_good (fun u hu => ?_) c) (fun u => near_mp m o (fun u hu => ?_) (fun u => ?_) u) c')
      · obtain ⟨t, ht, e, _⟩ := hu
        exact (hS t ht).sent o e
      · obtain ⟨t, ht, e, _⟩ := hu
        exact (hS t ht).sent o e
      · constructor
        · rintro ⟨t', ht', e, d⟩
          obtain ⟨t, ht, rfl⟩ := (hS' _).mp ht'
          obtain ⟨v, hv, rfl⟩ := (sentFrom_mp m (hS t ht)).mp e
          exact ⟨v, ⟨t, ht, hv, (dist_mp m o ((hS t ht).sent o hv)).mp d⟩, rfl⟩
        · rintro ⟨v, ⟨t, ht, e, d⟩, rfl⟩
          exact ⟨mp φ t, (hS' _).mpr ⟨t, ht, rfl⟩, (sentFrom_mp m (hS t ht)).mpr ⟨v, e, rfl⟩, (dist_mp m o ((hS t ht).sent o e)).mpr d⟩
theorem mp_start (m : Morph h L φ) : mp φ start4 = start4 := by
  show St4.mk 0 (φ 0) (φ 0) none = St4.mk 0 0 0 none
  rw [m.zero]
theorem firstWrong_mp (m : Morph h L φ) (o : p.Ok h.K) {r r' : Option (List Nat)} (q : FirstWrong h p r) (q' : FirstWrong L p r') : r = r' := by
  have g : Good4 h p start4 := .start o
  rcases q with ⟨e, no⟩ | ⟨n, l, d, i, e⟩
  · rcases q' with ⟨e', _⟩ | ⟨n', l', d', _, _⟩
    · rw [e, e']
    · rw [← mp_start m, dist_mp m o g] at d'
      exact absurd ⟨n', d'.1⟩ no
  · rcases q' with ⟨_, no⟩ | ⟨n', l', d', i', e'⟩
    · exact absurd ⟨n, by rw [← mp_start m, rch_mp m o g]; exact d.1⟩ no
    · rw [← mp_start m, dist_mp m o g] at d'
      have en := d.inj d'
      subst en
      rw [e, e']
      refine congrArg some (isLog_mp m o i (fun t c => near_good (fun u hu => by rw [hu]; exact g) c) (fun u => near_mp m o (fun u hu => by rw [hu]; exact g) (fun u => ?_) u) i')
      constructor
      · intro e; exact ⟨start4, rfl, by rw [e, mp_start m]⟩
      · rintro ⟨t, e, rfl⟩; rw [e, mp_start m]
end
end K14

/-! Plain Lean: the pairs of a log, the smallest order; a handler and its least one have the same. -/
namespace K14
open Classical
/-- the pairs that can be, by the number of events that were sent -/
inductive Lay (h : Hd) (log : List Nat) : Nat → Pr → Prop
  | zero : Lay h log 0 (0, none)
  | come {i q q'} : Lay h log i q → q' ∈ comeP h q → Lay h log i q'
  | send {i k q q'} : Lay h log i q → log[i]? = some k → q' ∈ sendP h q k → Lay h log (i + 1) q'
/-- the rest can be done -/
inductive Gd (h : Hd) (log : List Nat) (T : Nat → Prop) : Nat → Pr → Prop
  | goal {o} : T o → Gd h log T log.length (o, none)
  | come {i q q'} : q' ∈ comeP h q → Gd h log T i q' → Gd h log T i q
  | send {i k q q'} : log[i]? = some k → q' ∈ sendP h q k → Gd h log T (i + 1) q' → Gd h log T i q
theorem Gd.inv {h : Hd} {log : List Nat} {T : Nat → Prop} {i : Nat} {q : Pr} (g : Gd h log T i q) : (i = log.length ∧ q.2 = none ∧ T q.1) ∨ (∃ q', q' ∈ comeP h q ∧ Gd h log T i q') ∨ ∃ k q', log[i]? = some k ∧ q' ∈ sendP h q k ∧ Gd h log T (i + 1) q' := by
  cases g with
  | goal t => exact .inl ⟨rfl, rfl, t⟩
  | come e g => exact .inr (.inl ⟨_, e, g⟩)
  | send hk e g => exact .inr (.inr ⟨_, _, hk, e, g⟩)
theorem Lay.reached {h : Hd} {log : List Nat} {i : Nat} {q : Pr} (l : Lay h log i q) : h.Reached q.1 := by
  induction l with
  | zero => exact .zero
  | come _ e ih =>
    obtain ⟨k, _, rfl⟩ := comeP_one e
    exact ih.step k
  | send _ _ e ih =>
    rcases sendP_one e with rfl | ⟨_, rfl⟩
    · exact ih.step _
    · exact ih
theorem Lay.held {h : Hd} {log : List Nat} (hl : ∀ k ∈ log, k < h.K) {i : Nat} {q : Pr} (l : Lay h log i q) : ∀ k, q.2 = some k → k < h.K := by
  induction l with
  | zero => intro k e; cases e
  | come _ e ih =>
    obtain ⟨k, _, rfl⟩ := comeP_one e
    intro j e; cases e
  | send _ hk e ih =>
    rcases sendP_one e with rfl | ⟨_, rfl⟩
    · exact ih
    · intro j e
      have : _ = j := Option.some.inj e
      rw [← this]
      exact hl _ (List.mem_of_getElem? hk)
theorem Lay.le {h : Hd} {log : List Nat} {i : Nat} {q : Pr} (l : Lay h log i q) : i ≤ log.length := by
  induction l with
  | zero => exact Nat.zero_le _
  | come _ _ ih => exact ih
  | send _ hk _ _ => exact (List.getElem?_eq_some_iff.mp hk).1
/-- where one stands: events sent, the state, the places of the held ones -/
structure Hr where
  n : Nat
  o : Nat
  ps : List Nat
/-- the rest can be done at (sent, state, held places) -/
def isG (h : Hd) (log : List Nat) (T : Nat → Prop) (x : Hr) : Prop := match x.ps with
  | [] => Lay h log x.n (x.o, none) ∧ Gd h log T x.n (x.o, none)
  | [a] => ∃ k, log[a]? = some k ∧ Lay h log x.n (x.o, some k) ∧ Gd h log T x.n (x.o, some k)
  | _ => False
noncomputable def gB (h : Hd) (log : List Nat) (T : Nat → Prop) (x : Hr) : Bool := decide (isG h log T x)
def heldTo (h : Hd) (log : List Nat) (x : Hr) (a : Nat) : Hr := ⟨x.n, h.step (log.getD a 0) x.o, x.ps.filter fun b => decide (b ≠ a)⟩
def sentTo (h : Hd) (log : List Nat) (x : Hr) (j : Nat) : Hr := ⟨x.n + j + 1, h.step (log.getD (x.n + j) 0) x.o, x.ps ++ (List.range j).map (x.n + ·)⟩
/-- the first of some for which the rest can be done -/
def pick {β : Type} (g : Hr → Bool) (to : Nat → Hr) (nm : Nat → β) : List Nat → Option (β × Hr)
  | [] => none
  | a :: l => if g (to a) = true then some (nm a, to a) else pick g to nm l
def heldStep (h : Hd) (log : List Nat) (g : Hr → Bool) (x : Hr) : Option (Nat × Hr) := pick g (heldTo h log x) id x.ps
def sentStep (h : Hd) (log : List Nat) (g : Hr → Bool) (x : Hr) : Option (Nat × Hr) := pick g (sentTo h log x) (x.n + ·) (List.range (log.length - x.n))
def oneStep (h : Hd) (log : List Nat) (g : Hr → Bool) (x : Hr) : Option (Nat × Hr) := (heldStep h log g x).or (sentStep h log g x)
def oRun (h : Hd) (log : List Nat) (g : Hr → Bool) : Nat → Hr → List Nat → List Nat
  | 0, _, acc => acc
  | n + 1, x, acc => match oneStep h log g x with
    | none => acc
    | some (a, y) => oRun h log g n y (acc ++ [a])
noncomputable def orderOf (h : Hd) (log : List Nat) (T : Nat → Prop) : Option (List Nat) :=
  if gB h log T ⟨0, 0, []⟩ = true then some (oRun h log (gB h log T) log.length ⟨0, 0, []⟩ []) else none
theorem pick_some {β : Type} {g : Hr → Bool} {to : Nat → Hr} {nm : Nat → β} : ∀ {l : List Nat} {r : β × Hr}, pick g to nm l = some r → ∃ a ∈ l, g (to a) = true ∧ r = (nm a, to a)
  | a :: l, r, e => by
    unfold pick at e
    by_cases q : g (to a) = true
    · rw [if_pos q] at e
      exact ⟨a, List.mem_cons_self, q, (Option.some.inj e).symm⟩
    · rw [if_neg q] at e
      obtain ⟨b, hb, r'⟩ := pick_some e
      exact ⟨b, List.mem_cons_of_mem _ hb, r'⟩
theorem pick_there {β : Type} {g : Hr → Bool} {to : Nat → Hr} {nm : Nat → β} : ∀ {l : List Nat} {a : Nat}, a ∈ l → g (to a) = true → (pick g to nm l).isSome = true
  | b :: l, a, ha, q => by
    unfold pick
    by_cases z : g (to b) = true
    · rw [if_pos z]; rfl
    · rw [if_neg z]
      rcases List.mem_cons.mp ha with rfl | ha
      · exact absurd q z
      · exact pick_there ha q
/-- what a good place is: the state is behind a pair of the layer -/
theorem isG.lay {h : Hd} {log : List Nat} {T : Nat → Prop} {x : Hr} (g : isG h log T x) : x.ps.length ≤ 1 ∧ ∃ hd, Lay h log x.n (x.o, hd) ∧ Gd h log T x.n (x.o, hd) ∧ ((x.ps = [] ∧ hd = none) ∨ ∃ a k, x.ps = [a] ∧ log[a]? = some k ∧ hd = some k) := by
  unfold isG at g
  split at g
  · rename_i e
    exact ⟨by rw [e]; simp, none, g.1, g.2, .inl ⟨e, rfl⟩⟩
  · rename_i a e
    obtain ⟨k, hk, l, q⟩ := g
    exact ⟨by rw [e]; simp, some k, l, q, .inr ⟨a, k, e, hk, rfl⟩⟩
  · exact g.elim
theorem isG.none {h : Hd} {log : List Nat} {T : Nat → Prop} {n o : Nat} (l : Lay h log n (o, none)) (g : Gd h log T n (o, none)) : isG h log T ⟨n, o, []⟩ := ⟨l, g⟩
theorem isG.one {h : Hd} {log : List Nat} {T : Nat → Prop} {n o a k : Nat} (hk : log[a]? = some k) (l : Lay h log n (o, some k)) (g : Gd h log T n (o, some k)) : isG h log T ⟨n, o, [a]⟩ := ⟨k, hk, l, g⟩
theorem getD_of {l : List Nat} {i k : Nat} (e : l[i]? = some k) : l.getD i 0 = k := by simp [List.getD, e]
/-- from a good place there is a step, unless all is done -/
theorem isG.go {h : Hd} {log : List Nat} {T : Nat → Prop} {x : Hr} (g : isG h log T x) (more : x.n < log.length ∨ x.ps ≠ []) : (oneStep h log (gB h log T) x).isSome = true := by
  have orL : ∀ {a b : Option (Nat × Hr)}, a.isSome = true → (a.or b).isSome = true := fun {a b} q => by cases a <;> simp_all
  have orR : ∀ {a b : Option (Nat × Hr)}, b.isSome = true → (a.or b).isSome = true := fun {a b} q => by cases a <;> simp_all
  have heldGo : ∀ a, a ∈ x.ps → isG h log T (heldTo h log x a) → (oneStep h log (gB h log T) x).isSome = true := fun a ha q => orL (pick_there ha (decide_eq_true q))
  have sentGo : ∀ j, x.n + j < log.length → isG h log T (sentTo h log x j) → (oneStep h log (gB h log T) x).isSome = true := fun j hj q => orR (pick_there (List.mem_range.mpr (by omega)) (decide_eq_true q))
  obtain ⟨x_n, x_o, x_ps⟩ := x
  obtain ⟨_, hd, l, gd, c⟩ := g.lay
  dsimp only at l gd c more heldGo sentGo
  rcases c with ⟨e, rfl⟩ | ⟨a, k, e, hk, rfl⟩
  · subst e
    rcases gd.inv with ⟨en, _, _⟩ | ⟨q', e, _⟩ | ⟨k, q', hk, e, g'⟩
    · rcases more with q | q
      · exact absurd (en ▸ q) (Nat.lt_irrefl _)
      · exact absurd rfl q
    · exact nomatch e
    · have hlt := (List.getElem?_eq_some_iff.mp hk).1
      rcases sendP_one e with rfl | ⟨_, rfl⟩
      · refine sentGo 0 hlt ?_
        have l' := Lay.send l hk e
        have eq : sentTo h log ⟨x_n, x_o, []⟩ 0 = ⟨x_n + 1, h.step k x_o, []⟩ := by simp [sentTo, hk]
        rw [eq]
        exact .none l' g'
      · -- the event is held: what comes next
        have l' := Lay.send l hk e
        rcases g'.inv with ⟨_, z, _⟩ | ⟨q2, e2, g2⟩ | ⟨k2, q2, hk2, e2, g2⟩
        · cases z
        · obtain ⟨j, ej, rfl⟩ := comeP_one e2
          cases ej
          refine sentGo 0 hlt ?_
          have eq : sentTo h log ⟨x_n, x_o, []⟩ 0 = ⟨x_n + 1, h.step k x_o, []⟩ := by simp [sentTo, hk]
          rw [eq]
          exact .none (Lay.come l' e2) g2
        · have hlt2 := (List.getElem?_eq_some_iff.mp hk2).1
          rcases sendP_one e2 with rfl | ⟨z, _⟩
          · refine sentGo 1 hlt2 ?_
            have eq : sentTo h log ⟨x_n, x_o, []⟩ 1 = ⟨x_n + 1 + 1, h.step k2 x_o, [x_n]⟩ := by simp [sentTo, hk2]
            rw [eq]
            exact .one hk (Lay.send l' hk2 e2) g2
          · cases z
  · subst e
    rcases gd.inv with ⟨_, z, _⟩ | ⟨q', e, g'⟩ | ⟨k2, q', hk2, e, g'⟩
    · cases z
    · obtain ⟨j, ej, rfl⟩ := comeP_one e
      cases ej
      refine heldGo a (by simp) ?_
      have eq : heldTo h log ⟨x_n, x_o, [a]⟩ a = ⟨x_n, h.step k x_o, []⟩ := by simp [heldTo, hk]
      rw [eq]
      exact .none (Lay.come l e) g'
    · have hlt := (List.getElem?_eq_some_iff.mp hk2).1
      rcases sendP_one e with rfl | ⟨z, _⟩
      · refine sentGo 0 hlt ?_
        have l' := Lay.send l hk2 e
        have eq : sentTo h log ⟨x_n, x_o, [a]⟩ 0 = ⟨x_n + 1, h.step k2 x_o, [a]⟩ := by simp [sentTo, hk2]
        rw [eq]
        exact .one hk l' g'
      · cases z
/-- a step's place: it is good, one event more has come -/
theorem oneStep_some {h : Hd} {log : List Nat} {g : Hr → Bool} {x y : Hr} {a : Nat} (e : oneStep h log g x = some (a, y)) :
    g y = true ∧ ((a ∈ x.ps ∧ y = heldTo h log x a) ∨ ∃ j, x.n + j < log.length ∧ a = x.n + j ∧ y = sentTo h log x j) := by
  unfold oneStep at e
  cases q : heldStep h log g x with
  | some r =>
    rw [q] at e
    have e1 : r = (a, y) := Option.some.inj e
    obtain ⟨b, hb, hg, er⟩ := pick_some q
    rw [er] at e1
    have e2 : b = a := congrArg Prod.fst e1
    subst e2
    have e3 : heldTo h log x b = y := congrArg Prod.snd e1
    rw [← e3]
    exact ⟨hg, .inl ⟨hb, rfl⟩⟩
  | none =>
    rw [q] at e
    obtain ⟨b, hb, hg, er⟩ := pick_some (show sentStep h log g x = some (a, y) from e)
    have e2 : a = x.n + b := congrArg Prod.fst er
    have e3 : y = sentTo h log x b := congrArg Prod.snd er
    rw [e3]
    exact ⟨hg, .inr ⟨b, by have := List.mem_range.mp hb; omega, e2, rfl⟩⟩

/-! ### along a morphism -/
section
variable {h L : Hd} {φ : Nat → Nat} {log : List Nat} {T T' : Nat → Prop}
def mpr (φ : Nat → Nat) (x : Hr) : Hr := ⟨x.n, φ x.o, x.ps⟩
theorem lay_mp (m : Morph h L φ) {i : Nat} {q : Pr} (l : Lay h log i q) : Lay L log i (φ q.1, q.2) := by
  induction l with
  | zero =>
    show Lay L log 0 (φ 0, none)
    rw [m.zero]
    exact .zero
  | @come i q q' l e ih =>
    refine .come ih ?_
    show (φ q'.1, q'.2) ∈ comeP L (φ q.1, q.2)
    rw [comeP_mp m (hd := q.2) l.reached]
    exact List.mem_map.mpr ⟨q', e, rfl⟩
  | @send i k q q' l hk e ih =>
    refine .send ih hk ?_
    show (φ q'.1, q'.2) ∈ sendP L (φ q.1, q.2) k
    rw [sendP_mp m (hd := q.2) l.reached]
    exact List.mem_map.mpr ⟨q', e, rfl⟩
theorem gd_mp (m : Morph h L φ) (hT : ∀ o, h.Reached o → (T o ↔ T' (φ o))) {i : Nat} {q : Pr} (r : h.Reached q.1) : Gd L log T' i (φ q.1, q.2) ↔ Gd h log T i q := by
  constructor
  · have key : ∀ (i : Nat) (q' : Pr), Gd L log T' i q' → ∀ q : Pr, h.Reached q.1 → q' = (φ q.1, q.2) → Gd h log T i q := by
      intro i q' g
      induction g with
      | @goal o t =>
        rintro ⟨o', hd⟩ r e
        have e1 : o = φ o' := congrArg Prod.fst e
        have e2 : none = hd := congrArg Prod.snd e
        subst e2
        exact .goal ((hT o' r).mpr (e1 ▸ t))
      | @come i q u e _ ih =>
        rintro ⟨o', hd⟩ r eq
        subst eq
        have e' : u ∈ comeP L (φ o', hd) := e
        rw [comeP_mp m r] at e'
        obtain ⟨u0, hu0, eu⟩ := List.mem_map.mp e'
        refine .come hu0 (ih u0 ?_ eu.symm)
        obtain ⟨k, _, rfl⟩ := comeP_one hu0
        exact Hd.Reached.step r k
      | @send i k q u hk e _ ih =>
        rintro ⟨o', hd⟩ r eq
        subst eq
        have e' : u ∈ sendP L (φ o', hd) k := e
        rw [sendP_mp m r] at e'
        obtain ⟨u0, hu0, eu⟩ := List.mem_map.mp e'
        refine .send hk hu0 (ih u0 ?_ eu.symm)
        rcases sendP_one hu0 with rfl | ⟨_, rfl⟩
        · exact Hd.Reached.step r k
        · exact r
    exact fun g => key i _ g q r rfl
  · intro g
    induction g with
    | @goal o t => exact .goal ((hT o r).mp t)
    | @come i q u e _ ih =>
      refine .come (q' := (φ u.1, u.2)) ?_ (ih ?_)
      · rw [comeP_mp m (hd := q.2) r]
        exact List.mem_map.mpr ⟨u, e, rfl⟩
      · obtain ⟨k, _, rfl⟩ := comeP_one e
        exact r.step k
    | @send i k q u hk e _ ih =>
      refine .send (q' := (φ u.1, u.2)) hk ?_ (ih ?_)
      · rw [sendP_mp m (hd := q.2) r]
        exact List.mem_map.mpr ⟨u, e, rfl⟩
      · rcases sendP_one e with rfl | ⟨_, rfl⟩
        · exact r.step k
        · exact r
/-- at places that a step leads to, both say the same -/
structure Legit (h : Hd) (log : List Nat) (x : Hr) : Prop where
  r : h.Reached x.o
  none : x.ps = [] → Lay h log x.n (x.o, Option.none)
  one : ∀ a k, x.ps = [a] → log[a]? = some k → Lay h log x.n (x.o, some k)
theorem isG_mp (m : Morph h L φ) (hT : ∀ o, h.Reached o → (T o ↔ T' (φ o))) {x : Hr} (g : Legit h log x) : isG L log T' (mpr φ x) ↔ isG h log T x := by
  obtain ⟨n, o, ps⟩ := x
  match ps, g with
  | [], g =>
    have l : Lay h log n (o, none) := g.none rfl
    show (Lay L log n (φ o, none) ∧ Gd L log T' n (φ o, none)) ↔ (Lay h log n (o, none) ∧ Gd h log T n (o, none))
    rw [gd_mp m hT (q := (o, none)) g.r]
    exact ⟨fun z => ⟨l, z.2⟩, fun z => ⟨lay_mp m l, z.2⟩⟩
  | [a], g =>
    constructor
    · rintro ⟨k, hk, _, q⟩
      exact ⟨k, hk, g.one a k rfl hk, (gd_mp m hT (q := (o, some k)) g.r).mp q⟩
    · rintro ⟨k, hk, l, q⟩
      exact ⟨k, hk, lay_mp m l, (gd_mp m hT (q := (o, some k)) g.r).mpr q⟩
  | _ :: _ :: _, _ => exact Iff.rfl
theorem legit_held {x : Hr} (o : isG h log T x) {a : Nat} (ha : a ∈ x.ps) : Legit h log (heldTo h log x a) := by
  obtain ⟨_, hd, l, _, c⟩ := o.lay
  rcases c with ⟨e, _⟩ | ⟨b, k, e, hk, rfl⟩
  · rw [e] at ha; cases ha
  · rw [e] at ha
    have e2 : a = b := by simpa using ha
    subst e2
    have l' : Lay h log x.n (h.step k x.o, none) := Lay.come l (by simp [comeP])
    have eq : heldTo h log x a = ⟨x.n, h.step k x.o, []⟩ := by simp [heldTo, hk, e]
    rw [eq]
    exact ⟨l'.reached, fun _ => l', fun b j e => by cases e⟩
theorem legit_sent {x : Hr} (o : isG h log T x) {j : Nat} (hj : x.n + j < log.length) : Legit h log (sentTo h log x j) := by
  obtain ⟨n, xo, ps⟩ := x
  have hj : n + j < log.length := hj
  obtain ⟨_, hd, l, _, c⟩ := o.lay
  have l : Lay h log n (xo, hd) := l
  have hk : log[n + j]? = some log[n + j] := List.getElem?_eq_getElem hj
  have rr : h.Reached (sentTo h log ⟨n, xo, ps⟩ j).o := Hd.Reached.step (show h.Reached xo from l.reached) _
  refine ⟨rr, fun e => ?_, fun a k e ha => ?_⟩
  · have e : ps ++ (List.range j).map (n + ·) = [] := e
    obtain ⟨e1, e2⟩ := List.append_eq_nil_iff.mp e
    have e3 : j = 0 := by
      cases j with
      | zero => rfl
      | succ j => simp at e2
    subst e3
    rcases c with ⟨_, rfl⟩ | ⟨b, k, e', _, _⟩
    · have z := Lay.send l hk (q' := (h.step log[n + 0] xo, none)) (by simp [sendP])
      have eq : sentTo h log ⟨n, xo, ps⟩ 0 = ⟨n + 1, h.step log[n + 0] xo, ps⟩ := by simp [sentTo, List.getElem?_eq_getElem (show n < log.length from hj)]
      rw [eq]
      exact z
    · exact absurd (e1.symm.trans e') (by simp)
  · have e : ps ++ (List.range j).map (n + ·) = [a] := e
    have eo : (sentTo h log ⟨n, xo, ps⟩ j).o = h.step log[n + j] xo := by simp [sentTo, hk]
    show Lay h log (n + j + 1) ((sentTo h log ⟨n, xo, ps⟩ j).o, some k)
    rw [eo]
    rcases c with ⟨e1, rfl⟩ | ⟨b, k', e1, hk', rfl⟩
    · have e1 : ps = [] := e1
      subst e1
      rw [List.nil_append] at e
      have e3 : j = 1 := by simpa using congrArg List.length e
      subst e3
      have e4 : n = a := by simpa using e
      subst e4
      have z := Lay.send l ha (q' := (xo, some k)) (by simp [sendP])
      exact Lay.send z hk (by simp [sendP])
    · have e1 : ps = [b] := e1
      subst e1
      have e3 : j = 0 := by simpa using congrArg List.length e
      subst e3
      have e4 : b = a := by simpa using e
      subst e4
      rw [ha] at hk'
      cases hk'
      exact Lay.send l hk (by simp [sendP])
theorem pick_mp {β : Type} {g g' : Hr → Bool} {to to' : Nat → Hr} {nm : Nat → β} : ∀ {l : List Nat}, (∀ a ∈ l, to' a = mpr φ (to a) ∧ g' (to' a) = g (to a)) → pick g' to' nm l = (pick g to nm l).map fun r => (r.1, mpr φ r.2)
  | [], _ => rfl
  | a :: l, hl => by
    obtain ⟨e1, e2⟩ := hl a List.mem_cons_self
    unfold pick
    rw [e2]
    by_cases q : g (to a) = true
    · rw [if_pos q, if_pos q, e1]; rfl
    · rw [if_neg q, if_neg q]
      exact pick_mp fun b hb => hl b (List.mem_cons_of_mem _ hb)
theorem oneStep_mp (m : Morph h L φ) (hT : ∀ o, h.Reached o → (T o ↔ T' (φ o))) {x : Hr} (g : isG h log T x) :
    oneStep L log (gB L log T') (mpr φ x) = (oneStep h log (gB h log T) x).map fun r => (r.1, mpr φ r.2) := by
  have rx : h.Reached x.o := by
    obtain ⟨_, hd, l, _⟩ := g.lay
    exact l.reached
  have e1 : heldStep L log (gB L log T') (mpr φ x) = (heldStep h log (gB h log T) x).map fun r => (r.1, mpr φ r.2) := by
    refine pick_mp fun a ha => ?_
    have e : heldTo L log (mpr φ x) a = mpr φ (heldTo h log x a) := by
      show Hr.mk x.n (L.step (log.getD a 0) (φ x.o)) _ = Hr.mk x.n (φ (h.step (log.getD a 0) x.o)) _
      rw [m.step' rx]
      rfl
    refine ⟨e, ?_⟩
    rw [e]
    exact decide_eq_decide.mpr (isG_mp m hT (legit_held g ha))
  have e2 : sentStep L log (gB L log T') (mpr φ x) = (sentStep h log (gB h log T) x).map fun r => (r.1, mpr φ r.2) := by
    refine pick_mp fun a ha => ?_
    have e : sentTo L log (mpr φ x) a = mpr φ (sentTo h log x a) := by
      show Hr.mk (x.n + a + 1) (L.step (log.getD (x.n + a) 0) (φ x.o)) _ = Hr.mk (x.n + a + 1) (φ (h.step (log.getD (x.n + a) 0) x.o)) _
      rw [m.step' rx]
      rfl
    refine ⟨e, ?_⟩
    rw [e]
    have ha' : a < log.length - x.n := List.mem_range.mp ha
    exact decide_eq_decide.mpr (isG_mp m hT (legit_sent g (by omega)))
  unfold oneStep
  rw [e1, e2]
  cases heldStep h log (gB h log T) x <;> rfl
theorem oRun_mp (m : Morph h L φ) (hT : ∀ o, h.Reached o → (T o ↔ T' (φ o))) : ∀ (n : Nat) {x : Hr} (acc : List Nat), isG h log T x → oRun L log (gB L log T') n (mpr φ x) acc = oRun h log (gB h log T) n x acc
  | 0, _, _, _ => rfl
  | n + 1, x, acc, g => by
    unfold oRun
    rw [oneStep_mp m hT g]
    cases q : oneStep h log (gB h log T) x with
    | none => rfl
    | some r =>
      obtain ⟨a, y⟩ := r
      exact oRun_mp m hT n (acc ++ [a]) (of_decide_eq_true (oneStep_some q).1)
theorem orderOf_mp (m : Morph h L φ) (hT : ∀ o, h.Reached o → (T o ↔ T' (φ o))) : orderOf L log T' = orderOf h log T := by
  have leg : Legit h log ⟨0, 0, []⟩ := ⟨.zero, fun _ => .zero, fun a k e => by cases e⟩
  have e0 : mpr φ ⟨0, 0, []⟩ = ⟨0, 0, []⟩ := by
    show Hr.mk 0 (φ 0) [] = Hr.mk 0 0 []
    rw [m.zero]
  have e : isG L log T' ⟨0, 0, []⟩ ↔ isG h log T ⟨0, 0, []⟩ := by
    have q := isG_mp m hT leg
    rwa [e0] at q
  unfold orderOf gB
  by_cases q : isG h log T ⟨0, 0, []⟩
  · rw [if_pos (decide_eq_true q), if_pos (decide_eq_true (e.mpr q))]
    have z := oRun_mp m hT log.length [] q
    rw [e0] at z
    exact congrArg some z
  · rw [if_neg (show ¬ decide (isG L log T' ⟨0, 0, []⟩) = true from fun z => q (e.mp (of_decide_eq_true z))), if_neg (show ¬ decide (isG h log T ⟨0, 0, []⟩) = true from fun z => q (of_decide_eq_true z))]
end
end K14

/-! Plain Lean: the least handler. -/
namespace K14
def pick1 (cls : Nat → Nat) (acc : List (Nat × Nat)) (s : Nat) : List (Nat × Nat) := if cls s ∈ acc.map (·.1) then acc else acc ++ [(cls s, s)]
def chosenOf (cls : Nat → Nat) (l : List Nat) : List (Nat × Nat) := l.foldl (pick1 cls) []
structure ChInv (cls : Nat → Nat) (l : List Nat) (ch : List (Nat × Nat)) : Prop where
  nd : (ch.map (·.1)).Nodup
  ok : ∀ p ∈ ch, p.2 ∈ l ∧ cls p.2 = p.1
  all : ∀ s ∈ l, cls s ∈ ch.map (·.1)
  hd : ∀ x r, l = x :: r → ∃ q, ch = (cls x, x) :: q
theorem ChInv.nil (cls : Nat → Nat) : ChInv cls [] [] := ⟨by simp, (fun p hp => by cases hp), (fun s hs => by cases hs), (fun x r e => by cases e)⟩
theorem ChInv.snoc {cls : Nat → Nat} {l : List Nat} {ch : List (Nat × Nat)} (I : ChInv cls l ch) (s : Nat) : ChInv cls (l ++ [s]) (pick1 cls ch s) := by
  unfold pick1
  by_cases m : cls s ∈ ch.map (·.1)
  · rw [if_pos m]
    refine ⟨I.nd, fun p hp => ⟨List.mem_append_left _ (I.ok p hp).1, (I.ok p hp).2⟩, fun t ht => ?_, fun x r e => ?_⟩
    · rcases List.mem_append.mp ht with ht | ht
      · exact I.all t ht
      · rw [List.mem_singleton.mp ht]; exact m
    · cases l with
      | nil =>
        obtain ⟨p, hp, _⟩ := List.mem_map.mp m
        exact nomatch (I.ok p hp).1
      | cons y l' =>
        rw [List.cons_append] at e
        injection e with e1 e2
        rw [← e1]
        exact I.hd y l' rfl
  · rw [if_neg m]
    refine ⟨?_, fun p hp => ?_, fun t ht => ?_, fun x r e => ?_⟩
    · rw [List.map_append]
      refine List.nodup_append.mpr ⟨I.nd, by simp, fun a ha b hb e => m ?_⟩
      have : b = cls s := by simpa using hb
      rw [← this, ← e]
      exact ha
    · rcases List.mem_append.mp hp with hp | hp
      · exact ⟨List.mem_append_left _ (I.ok p hp).1, (I.ok p hp).2⟩
      · rw [List.mem_singleton.mp hp]
        exact ⟨by simp, rfl⟩
    · rw [List.map_append]
      rcases List.mem_append.mp ht with ht | ht
      · exact List.mem_append_left _ (I.all t ht)
      · rw [List.mem_singleton.mp ht]; simp
    · cases l with
      | nil =>
        rw [List.nil_append] at e
        injection e with e1 e2
        cases ch with
        | nil => exact ⟨[], by rw [e1]; rfl⟩
        | cons p q => exact nomatch (I.ok p List.mem_cons_self).1
      | cons y l' =>
        rw [List.cons_append] at e
        injection e with e1 e2
        obtain ⟨q, eq⟩ := I.hd y l' rfl
        exact ⟨q ++ [(cls s, s)], by rw [eq, ← e1]; rfl⟩
theorem chosen_inv (cls : Nat → Nat) (l : List Nat) : ChInv cls l (chosenOf cls l) := by
  have key : ∀ (l pre : List Nat) (ch : List (Nat × Nat)), ChInv cls pre ch → ChInv cls (pre ++ l) (l.foldl (pick1 cls) ch) := by
    intro l
    induction l with
    | nil => intro pre ch I; rw [List.append_nil]; exact I
    | cons s l ih =>
      intro pre ch I
      have := ih _ _ (I.snoc s)
      rw [List.append_assoc] at this
      exact this
  exact key l [] [] (.nil cls)
theorem chosen_snoc (cls : Nat → Nat) (l : List Nat) (s : Nat) : chosenOf cls (l ++ [s]) = pick1 cls (chosenOf cls l) s := by
  unfold chosenOf
  rw [List.foldl_append]
  rfl
/-! ### the handler made of the chosen states -/
def withTwo (ls : List Nat) (ks : List (Nat × List Nat)) : Hd := if 1 < ls.length then ⟨inOrder ls, ks⟩ else ⟨[0, 0], ks.map fun p => (p.1, p.2 ++ p.2)⟩
def placeOf (ch : List (Nat × Nat)) (c : Nat) : Nat := (ch.map (·.1)).idxOf c
def leastKinds (h : Hd) (cls : Nat → Nat) (ch : List (Nat × Nat)) : List (Nat × List Nat) := h.kinds.map fun kd => (kd.1, ch.map fun p => placeOf ch (cls (kd.2.getD p.2 0)))
def leastOf (h : Hd) (cls : Nat → Nat) (ch : List (Nat × Nat)) : Hd := withTwo (ch.map fun p => h.lab p.2) (leastKinds h cls ch)
theorem ch_len {h : Hd} {cls : Nat → Nat} {l : List Nat} {ch : List (Nat × Nat)} (I : ChInv cls l ch) (hl : ∀ s ∈ l, s < h.n) : ch.length ≤ h.n := by
  have nd2 : (ch.map (·.2)).Nodup := by
    have e : (ch.map (·.1)) = (ch.map (·.2)).map cls := by
      rw [List.map_map]
      exact List.map_congr_left fun p hp => (I.ok p hp).2.symm
    have nd := I.nd
    rw [e] at nd
    exact List.Pairwise.of_map cls (fun a b z e => z (by rw [e])) nd
  have := nodup_len nd2 (m := List.range h.n) fun x hx => by
    obtain ⟨p, hp, rfl⟩ := List.mem_map.mp hx
    exact List.mem_range.mpr (hl _ (I.ok p hp).1)
  rwa [List.length_map, List.length_range] at this
theorem leastKinds_get {h : Hd} {cls : Nat → Nat} {ch : List (Nat × Nat)} {k : Nat} (hk : k < h.K) : (leastKinds h cls ch).getD k (0, []) = ((h.kinds.getD k (0, [])).1, ch.map fun p => placeOf ch (cls (h.step k p.2))) := by
  unfold leastKinds
  rw [getD_lt (by rw [List.length_map]; exact hk), List.getElem_map]
  have e : h.kinds.getD k (0, []) = h.kinds[k]'hk := getD_lt hk
  unfold Hd.step Hd.tg
  rw [e]
  rfl
section
variable {h : Hd} {c : List Nat} {l : List Nat}
abbrev clsF (c : List Nat) : Nat → Nat := fun s => c.getD s 0
variable {ch : List (Nat × Nat)}
theorem place_lt (I : ChInv (clsF c) l ch) {s : Nat} (hs : s ∈ l) : placeOf ch (clsF c s) < ch.length := by
  have := List.idxOf_lt_length_of_mem (I.all s hs)
  rwa [List.length_map] at this
/-- the chosen one of a state's class -/
theorem place_get (I : ChInv (clsF c) l ch) {s : Nat} (hs : s ∈ l) : (ch[placeOf ch (clsF c s)]'(place_lt I hs)).1 = clsF c s := by
  have e := List.getElem_idxOf (List.idxOf_lt_length_of_mem (I.all s hs))
  rw [List.getElem_map] at e
  exact e
theorem chosen_alike (o : h.Ok) (hc : ClsOk h c) (I : ChInv (clsF c) l ch) (hl : ∀ s, s ∈ l ↔ h.Reached s) {s : Nat} (hs : h.Reached s) : Alike h s (ch[placeOf ch (clsF c s)]'(place_lt I ((hl s).mpr hs))).2 := by
  have e := place_get I ((hl s).mpr hs)
  have ok := I.ok _ (List.getElem_mem (place_lt I ((hl s).mpr hs)))
  refine (hc.2 s _ (hs.lt o) (((hl _).mp ok.1).lt o)).mp ?_
  have := ok.2.trans e
  exact this.symm
theorem least_K : (leastOf h (clsF c) ch).K = h.K := by
  unfold leastOf withTwo Hd.K leastKinds
  split <;> simp
theorem least_ok (o : h.Ok) (I : ChInv (clsF c) l ch) (hl : ∀ s, s ∈ l ↔ h.Reached s) (ne : ch ≠ []) : (leastOf h (clsF c) ch).Ok := by
  have hl8 := ch_len I fun s hs => ((hl s).mp hs).lt o
  have n8 := o.n8
  have pos : 0 < ch.length := List.length_pos_iff.mpr ne
  have tl : ∀ p ∈ leastKinds h (clsF c) ch, p.2.length = ch.length ∧ ∀ t ∈ p.2, t < ch.length := by
    intro p hp
    unfold leastKinds at hp
    obtain ⟨kd, hk, rfl⟩ := List.mem_map.mp hp
    refine ⟨by simp, fun t ht => ?_⟩
    obtain ⟨q, hq, rfl⟩ := List.mem_map.mp ht
    obtain ⟨k, hk1, hk2⟩ := List.getElem_of_mem hk
    refine place_lt I ((hl _).mpr ?_)
    have r := ((hl _).mp (I.ok q hq).1).step k
    have e : h.step k q.2 = kd.2.getD q.2 0 := by
      unfold Hd.step Hd.tg
      rw [getD_lt (l := h.kinds) hk1, hk2]
    rw [← e]
    exact r
  unfold leastOf withTwo
  rw [List.length_map]
  by_cases q : 1 < ch.length
  · rw [if_pos q]
    have en : (⟨inOrder (ch.map fun p => h.lab p.2), leastKinds h (clsF c) ch⟩ : Hd).n = ch.length := by
      show (inOrder _).length = _
      rw [inOrder_length, List.length_map]
    refine ⟨by rw [en]; omega, by rw [en]; omega, ?_, ?_, fun p hp => by rw [en]; exact tl p hp⟩
    · show 1 ≤ (leastKinds h (clsF c) ch).length
      unfold leastKinds
      rw [List.length_map]
      exact o.k1
    · show (leastKinds h (clsF c) ch).length ≤ 6
      unfold leastKinds
      rw [List.length_map]
      exact o.k6
  · rw [if_neg q]
    refine ⟨Nat.le_refl 2, by show 2 ≤ 8; omega, ?_, ?_, fun p hp => ?_⟩
    · show 1 ≤ ((leastKinds h (clsF c) ch).map _).length
      unfold leastKinds
      rw [List.length_map, List.length_map]
      exact o.k1
    · show ((leastKinds h (clsF c) ch).map _).length ≤ 6
      unfold leastKinds
      rw [List.length_map, List.length_map]
      exact o.k6
    · obtain ⟨p', hp', rfl⟩ := List.mem_map.mp hp
      obtain ⟨h1, h2⟩ := tl p' hp'
      show (p'.2 ++ p'.2).length = 2 ∧ ∀ t ∈ p'.2 ++ p'.2, t < 2
      refine ⟨by rw [List.length_append]; omega, fun t ht => ?_⟩
      have : t < ch.length := by
        rcases List.mem_append.mp ht with z | z
        · exact h2 t z
        · exact h2 t z
      omega
/-- a state goes to its class's place -/
theorem least_morph (o : h.Ok) (hc : ClsOk h c) (I : ChInv (clsF c) l ch) (hl : ∀ s, s ∈ l ↔ h.Reached s) (h0 : ∃ r, l = 0 :: r) : Morph h (leastOf h (clsF c) ch) (fun s => placeOf ch (clsF c s)) := by
  obtain ⟨r0, e0⟩ := h0
  obtain ⟨q0, eq0⟩ := I.hd 0 r0 e0
  have pos : 0 < ch.length := by rw [eq0]; exact Nat.zero_lt_succ _
  have sm : ∀ s, h.Reached s → placeOf ch (clsF c s) < ch.length := fun s hs => place_lt I ((hl s).mpr hs)
  have stepEq : ∀ s k, h.Reached s → placeOf ch (clsF c (h.step k s)) = placeOf ch (clsF c (h.step k (ch.getD (placeOf ch (clsF c s)) (0, 0)).2)) := fun s k hs => by
    have a := chosen_alike o hc I hl hs
    rw [getD_lt (sm s hs)]
    have ok := I.ok _ (List.getElem_mem (sm s hs))
    have e := (hc.2 _ _ (h.step_lt o k s) (h.step_lt o k _)).mpr (a.step k)
    show placeOf ch (c.getD (h.step k s) 0) = placeOf ch (c.getD _ 0)
    rw [e]
  have labEq : ∀ s, h.Reached s → h.lab s = h.lab (ch.getD (placeOf ch (clsF c s)) (0, 0)).2 := fun s hs => by
    rw [getD_lt (sm s hs)]
    exact (chosen_alike o hc I hl hs).lab
  have zero : placeOf ch (clsF c 0) = 0 := by
    unfold placeOf
    rw [eq0, List.map_cons, List.idxOf_cons]
    simp
  by_cases q : 1 < ch.length
  · have eL : leastOf h (clsF c) ch = ⟨inOrder (ch.map fun p => h.lab p.2), leastKinds h (clsF c) ch⟩ := by
      unfold leastOf withTwo
      rw [List.length_map, if_pos q]
    have nL : (leastOf h (clsF c) ch).n = ch.length := by
      rw [eL]
      show (inOrder _).length = _
      rw [inOrder_length, List.length_map]
    have lab : ∀ i, (hi : i < ch.length) → (leastOf h (clsF c) ch).lab i = (inOrder (ch.map fun p => h.lab p.2)).getD i 0 := fun i hi => by rw [eL]; rfl
    refine ⟨zero, least_K, fun s hs => by rw [nL]; exact sm s hs, fun s k hs hk => ?_, fun s t hs ht => ?_⟩
    · rw [stepEq s k hs, eL]
      show _ = (((leastKinds h (clsF c) ch).getD k (0, [])).2).getD _ 0
      rw [leastKinds_get hk]
      show _ = (ch.map fun p => placeOf ch (clsF c (h.step k p.2))).getD _ 0
      rw [getD_lt (l := ch.map fun p => placeOf ch (clsF c (h.step k p.2))) (by rw [List.length_map]; exact sm s hs), List.getElem_map, getD_lt (sm s hs)]
    · rw [lab _ (sm s hs), lab _ (sm t ht), inOrder_ker (by rw [List.length_map]; exact sm s hs) (by rw [List.length_map]; exact sm t ht), List.getElem_map, List.getElem_map, labEq s hs, labEq t ht, getD_lt (sm s hs), getD_lt (sm t ht)]
  · have one : ch.length = 1 := by omega
    have eL : leastOf h (clsF c) ch = ⟨[0, 0], (leastKinds h (clsF c) ch).map fun p => (p.1, p.2 ++ p.2)⟩ := by
      unfold leastOf withTwo
      rw [List.length_map, if_neg q]
    have all0 : ∀ s, h.Reached s → placeOf ch (clsF c s) = 0 := fun s hs => by have := sm s hs; omega
    refine ⟨zero, least_K, fun s hs => by rw [eL]; show _ < 2; rw [all0 s hs]; omega, fun s k hs hk => ?_, fun s t hs ht => ?_⟩
    · rw [all0 _ (hs.step k), all0 s hs, eL]
      show 0 = ((((leastKinds h (clsF c) ch).map fun p => (p.1, p.2 ++ p.2)).getD k (0, [])).2).getD 0 0
      have e : ((leastKinds h (clsF c) ch).map fun p => (p.1, p.2 ++ p.2)).getD k (0, []) = (((leastKinds h (clsF c) ch).getD k (0, [])).1, ((leastKinds h (clsF c) ch).getD k (0, [])).2 ++ ((leastKinds h (clsF c) ch).getD k (0, [])).2) := by
        have hk2 : k < (leastKinds h (clsF c) ch).length := by unfold leastKinds; rw [List.length_map]; exact hk
        rw [getD_lt (by rw [List.length_map]; exact hk2), List.getElem_map, getD_lt hk2]
      rw [e, leastKinds_get hk]
      dsimp only
      obtain ⟨p, ep⟩ : ∃ p, ch = [p] := List.length_eq_one_iff.mp one
      have z : placeOf ch (clsF c (h.step k p.2)) = 0 := all0 _ (((hl _).mp (I.ok p (by rw [ep]; exact List.mem_singleton_self p)).1).step k)
      have e2 : ∀ g : Nat × Nat → Nat, ch.map g = [g p] := fun g => by rw [ep]; rfl
      rw [e2]
      exact z.symm
    · rw [all0 s hs, all0 t ht]
      have e1 := labEq s hs
      have e2 := labEq t ht
      rw [all0 s hs] at e1
      rw [all0 t ht] at e2
      exact ⟨fun _ => rfl, fun _ => e1.trans e2.symm⟩
end
end K14

/-! Plain Lean: the layers of needs_of; the search of the first wrong log. -/
namespace K14
section
variable {h : Hd} {p : Pl} {keys : List St4}
structure NI (h : Hd) (p : Pl) (keys : List St4) (F : List (St4 × Nat)) (layer : List St4) (m : Nat) : Prop where
  nd : (F.map (·.1)).Nodup
  a : ∀ t j, (t, j) ∈ F → j < m ∧ Dist h p j t ∧ t ∈ keys
  b : ∀ t j, t ∈ keys → j < m → Dist h p j t → (t, j) ∈ F
  c : ∀ t ∈ layer, t ∈ keys ∧ Rch h p m t ∧ t ∉ F.map (·.1)
  d : ∀ t ∈ keys, Base h p m t → t ∉ F.map (·.1) → t ∈ layer
theorem NI.start {W : List St4} (hW : ∀ t, t ∈ W ↔ t ∈ keys ∧ Wrong h p t) : NI h p keys [] W 0 where
  nd := List.nodup_nil
  a := fun t j e => nomatch e
  b := fun t j _ e => absurd e (Nat.not_lt_zero j)
  c := fun t ht => ⟨((hW t).mp ht).1, .wrong ((hW t).mp ht).2, fun e => nomatch e⟩
  d := fun t ht b _ => (hW t).mpr ⟨ht, b⟩
/-- not found so far: no distance below -/
theorem NI.out {F : List (St4 × Nat)} {layer : List St4} {m : Nat} (I : NI h p keys F layer m) {t : St4} (ht : t ∈ keys) (r : Rch h p m t) (no : t ∉ F.map (·.1)) : Dist h p m t := by
  obtain ⟨j, hj, d⟩ := r.dist
  rcases Nat.lt_or_eq_of_le hj with hj | hj
  · exact absurd (List.mem_map.mpr ⟨(t, j), I.b t j ht hj d, rfl⟩) no
  · rw [← hj]; exact d
theorem NI.notin {F : List (St4 × Nat)} {layer : List St4} {m : Nat} (I : NI h p keys F layer m) {t : St4} (d : Dist h p m t) : t ∉ F.map (·.1) := by
  intro e
  obtain ⟨⟨t', j⟩, h1, h2⟩ := List.mem_map.mp e
  have h2' : t' = t := h2
  subst h2'
  obtain ⟨z, d2, _⟩ := I.a _ j h1
  have := d.inj d2
  omega
variable {predC predS : St4 → List St4}
/-- the closure of a layer: the stands of the distance -/
theorem NI.clo {F : List (St4 × Nat)} {layer : List St4} {m : Nat} (I : NI h p keys F layer m) (hC : ∀ t u, t ∈ predC u ↔ t ∈ keys ∧ u ∈ comeAt h t) (hcl : ∀ t ∈ keys, ∀ u ∈ comeAt h t, u ∈ keys) {t : St4} (ht : t ∈ keys) :
    Clo (fun x => x ∈ layer) (fun x => x ∉ F.map (·.1)) predC t ↔ Dist h p m t := by
  constructor
  · intro c
    have key : ∀ {t : St4}, Clo (fun x => x ∈ layer) (fun x => x ∉ F.map (·.1)) predC t → t ∈ keys ∧ Rch h p m t := by
      intro t c
      induction c with
      | base i _ => exact ⟨(I.c _ i).1, (I.c _ i).2.1⟩
      | step _ hs _ ih =>
        obtain ⟨h1, h2⟩ := (hC _ _).mp hs
        exact ⟨h1, .come h2 ih.2⟩
    exact I.out ht (key c).2 c.ok
  · intro d
    have := Dist.back (h := h) (p := p) (m := m) (fun t => t ∈ keys → Clo (fun x => x ∈ layer) (fun x => x ∉ F.map (·.1)) predC t) (fun t b d ht => .base (I.d t ht b (I.notin d)) (I.notin d)) (fun t u hu dt du ih ht => by
      have hu' := hcl t ht u hu
      exact .step (ih hu') ((hC t u).mpr ⟨ht, hu⟩) (I.notin dt)) d
    exact this ht
theorem NI.next {F : List (St4 × Nat)} {layer layer' N : List St4} {m : Nat} (I : NI h p keys F layer m) (hC : ∀ t u, t ∈ predC u ↔ t ∈ keys ∧ u ∈ comeAt h t) (hS : ∀ t u, t ∈ predS u ↔ t ∈ keys ∧ ∃ k, (k, u) ∈ sentFrom h p t)
    (hcl : ∀ t ∈ keys, ∀ u ∈ comeAt h t, u ∈ keys) (hsl : ∀ t ∈ keys, ∀ k u, (k, u) ∈ sentFrom h p t → u ∈ keys) (nd : N.Nodup) (hN : ∀ x, x ∈ N ↔ Clo (fun x => x ∈ layer) (fun x => x ∉ F.map (·.1)) predC x)
    (hl : ∀ t, t ∈ layer' ↔ (∃ x ∈ N, t ∈ predS x) ∧ t ∉ (F ++ N.map fun x => (x, m)).map (·.1)) : NI h p keys (F ++ N.map fun x => (x, m)) layer' (m + 1) := by
  have nk : ∀ x, x ∈ N → x ∈ keys := by
    intro x hx
    have c := (hN x).mp hx
    cases c with
    | base i _ => exact (I.c _ i).1
    | step _ hs _ => exact ((hC _ _).mp hs).1
  have dn : ∀ x, x ∈ keys → (x ∈ N ↔ Dist h p m x) := fun x hx => (hN x).trans (I.clo hC hcl hx)
  have dom : ∀ t, t ∈ (F ++ N.map fun x => (x, m)).map (·.1) ↔ t ∈ F.map (·.1) ∨ t ∈ N := fun t => by
    rw [List.map_append, List.map_map, List.mem_append]
    have e : N.map ((·.1) ∘ fun x => ((x, m) : St4 × Nat)) = N := by
      conv => rhs; rw [← List.map_id N]
      rfl
    rw [e]
  refine ⟨?_, fun t j e => ?_, fun t j ht hj d => ?_, fun t ht => ?_, fun t ht b no => ?_⟩
  · rw [List.map_append, List.map_map]
    have e : N.map ((·.1) ∘ fun x => ((x, m) : St4 × Nat)) = N := by
      conv => rhs; rw [← List.map_id N]
      rfl
    rw [e]
    refine List.nodup_append.mpr ⟨I.nd, nd, fun a ha b hb e => ?_⟩
    subst e
    exact ((hN a).mp hb).ok ha
  · rcases List.mem_append.mp e with e | e
    · obtain ⟨h1, h2, h3⟩ := I.a t j e
      exact ⟨by omega, h2, h3⟩
    · obtain ⟨x, hx, e2⟩ := List.mem_map.mp e
      injection e2 with e3 e4
      subst e3 e4
      exact ⟨Nat.lt_succ_self _, (dn _ (nk _ hx)).mp hx, nk _ hx⟩
  · rcases Nat.lt_succ_iff_lt_or_eq.mp hj with hj | hj
    · exact List.mem_append_left _ (I.b t j ht hj d)
    · subst hj
      exact List.mem_append_right _ (List.mem_map.mpr ⟨t, (dn t ht).mpr d, rfl⟩)
  · obtain ⟨⟨x, hx, hp⟩, no⟩ := (hl t).mp ht
    obtain ⟨h1, k, h2⟩ := (hS t x).mp hp
    exact ⟨h1, .sent h2 ((dn x (nk x hx)).mp hx).1, no⟩
  · obtain ⟨k, u, hk, r⟩ := b
    have hu := hsl t ht k u hk
    rw [dom, not_or] at no
    refine (hl t).mpr ⟨⟨u, ?_, (hS t u).mpr ⟨ht, k, hk⟩⟩, fun z => (dom t).mp z |>.elim no.1 no.2⟩
    obtain ⟨j, hj, d⟩ := r.dist
    rcases Nat.lt_or_eq_of_le hj with hj | hj
    · -- then t is nearer
      obtain ⟨i, hi, d2⟩ := (Rch.sent hk d.1 : Rch h p (j + 1) t).dist
      rcases Nat.lt_or_eq_of_le (show i ≤ m by omega) with hi2 | hi2
      · exact absurd (List.mem_map.mpr ⟨(t, i), I.b t i ht hi2 d2, rfl⟩) no.1
      · rw [hi2] at d2
        exact absurd ((dn t ht).mpr d2) no.2
    · rw [hj] at d
      exact (dn u hu).mpr d
theorem dist_down (hcl : ∀ t ∈ keys, ∀ u ∈ comeAt h t, u ∈ keys) (hsl : ∀ t ∈ keys, ∀ k u, (k, u) ∈ sentFrom h p t → u ∈ keys) {m : Nat} {t : St4} (ht : t ∈ keys) (d : Dist h p (m + 1) t) : ∃ u ∈ keys, Dist h p m u := by
  have := Dist.back (h := h) (p := p) (m := m + 1) (fun t => t ∈ keys → ∃ u ∈ keys, Dist h p m u) (fun t b d ht => by
    obtain ⟨k, u, hk, du⟩ := b.dist d
    exact ⟨u, hsl t ht k u hk, du⟩) (fun t u hu _ _ ih ht => ih (hcl t ht u hu)) d
  exact this ht
theorem NI.done {F : List (St4 × Nat)} {m : Nat} (I : NI h p keys F [] m) (hcl : ∀ t ∈ keys, ∀ u ∈ comeAt h t, u ∈ keys) (hsl : ∀ t ∈ keys, ∀ k u, (k, u) ∈ sentFrom h p t → u ∈ keys) {t : St4} (ht : t ∈ keys) (j : Nat) : (t, j) ∈ F ↔ Dist h p j t := by
  refine ⟨fun e => (I.a t j e).2.1, fun d => ?_⟩
  have none_m : ∀ t ∈ keys, ¬ Dist h p m t := fun t ht d => by
    have := Dist.back (h := h) (p := p) (m := m) (fun t => t ∈ keys → False) (fun t b d ht => nomatch I.d t ht b (I.notin d)) (fun t u hu _ _ ih ht => ih (hcl t ht u hu)) d
    exact this ht
  have none_ge : ∀ i, ∀ t ∈ keys, ¬ Dist h p (m + i) t := by
    intro i
    induction i with
    | zero => exact none_m
    | succ i ih =>
      intro t ht d
      obtain ⟨u, hu, du⟩ := dist_down hcl hsl ht (show Dist h p (m + i + 1) t from d)
      exact ih u hu du
  by_cases hj : j < m
  · exact I.b t j ht hj d
  · exact absurd (by rw [show m + (j - m) = j by omega]; exact d) (none_ge (j - m) t ht)
end
end K14

/-! Plain Lean: layers of pairs, good pairs. -/
namespace K14
theorem lay_zero {h : Hd} {log : List Nat} (q : Pr) : Lay h log 0 q ↔ Clo (fun x => x = ((0, none) : Pr)) (fun _ => True) (comeP h) q := by
  constructor
  · intro l
    generalize e : 0 = i at l
    induction l with
    | zero => exact .base rfl trivial
    | come _ hq ih => exact .step (ih e) hq trivial
    | send _ _ _ _ => cases e
  · intro c
    induction c with
    | base e _ => rw [e]; exact .zero
    | step _ hq _ ih => exact .come ih hq
theorem lay_succ {h : Hd} {log : List Nat} {i k : Nat} (hk : log[i]? = some k) (q : Pr) : Lay h log (i + 1) q ↔ Clo (fun x => ∃ q0, Lay h log i q0 ∧ x ∈ sendP h q0 k) (fun _ => True) (comeP h) q := by
  constructor
  · intro l
    generalize e : i + 1 = j at l
    induction l with
    | zero => cases e
    | come _ hq ih => exact .step (ih e) hq trivial
    | send l' hk' hq _ =>
      have e2 := Nat.succ.inj e
      subst e2
      rw [hk] at hk'
      cases hk'
      exact .base ⟨_, l', hq⟩ trivial
  · intro c
    induction c with
    | base e _ =>
      obtain ⟨q0, l, hq⟩ := e
      exact .send l hk hq
    | step _ hq _ ih => exact .come ih hq
inductive Up (h : Hd) (g : Pr → Prop) : Pr → Prop
  | base {q} : g q → Up h g q
  | come {q q'} : q' ∈ comeP h q → Up h g q' → Up h g q
theorem gd_last {h : Hd} {log : List Nat} {T : Nat → Prop} (q : Pr) : Gd h log T log.length q ↔ Up h (fun q => q.2 = none ∧ T q.1) q := by
  constructor
  · intro g
    generalize e : log.length = i at g
    induction g with
    | goal t => exact .base ⟨rfl, t⟩
    | come hq _ ih => exact .come hq (ih e)
    | send hk _ _ _ =>
      have := (List.getElem?_eq_some_iff.mp hk).1
      omega
  · intro u
    induction u with
    | @base q e =>
      obtain ⟨o, hd⟩ := q
      obtain ⟨e1, e2⟩ := e
      have e1' : hd = none := e1
      subst e1'
      exact .goal e2
    | come hq _ ih => exact .come hq ih
theorem gd_at {h : Hd} {log : List Nat} {T : Nat → Prop} {i k : Nat} (hk : log[i]? = some k) (q : Pr) : Gd h log T i q ↔ Up h (fun q => ∃ q' ∈ sendP h q k, Gd h log T (i + 1) q') q := by
  constructor
  · intro g
    induction g with
    | goal _ =>
      rw [List.getElem?_eq_none (Nat.le_refl _)] at hk
      cases hk
    | come hq _ ih => exact .come hq (ih hk)
    | send hk' hq g _ =>
      rw [hk] at hk'
      cases hk'
      exact .base ⟨_, hq, g⟩
  · intro u
    induction u with
    | base e =>
      obtain ⟨q', hq, g⟩ := e
      exact .send hk hq g
    | come hq _ ih => exact .come hq ih
theorem Up.mono {h : Hd} {g g' : Pr → Prop} {ps : List Pr} (hcl : ∀ q ∈ ps, ∀ q' ∈ comeP h q, q' ∈ ps) (hg : ∀ q ∈ ps, g q → g' q) {q : Pr} (hq : q ∈ ps) (u : Up h g q) : Up h g' q := by
  induction u with
  | base e => exact .base (hg _ hq e)
  | come e _ ih => exact .come e (ih (hcl _ hq _ e))
/-- while good_pairs runs -/
structure GI (h : Hd) (ps goals F fresh : List Pr) : Prop where
  nd : F.Nodup
  fnd : fresh.Nodup
  a : ∀ q ∈ F, q ∈ ps ∧ Up h (fun x => x ∈ goals) q
  b : ∀ q ∈ fresh, q ∈ ps ∧ Up h (fun x => x ∈ goals) q ∧ q ∉ F
  c : ∀ q ∈ goals, q ∈ ps → q ∈ F ∨ q ∈ fresh
  d : ∀ q ∈ ps, ∀ q' ∈ comeP h q, q' ∈ F → q ∈ F ∨ q ∈ fresh
theorem GI.start {h : Hd} {ps goals fresh : List Pr} (fn : fresh.Nodup) (hf : ∀ q, q ∈ fresh ↔ q ∈ ps ∧ q ∈ goals) : GI h ps goals [] fresh where
  nd := List.nodup_nil
  fnd := fn
  a := fun q hq => nomatch hq
  b := fun q hq => ⟨((hf q).mp hq).1, .base ((hf q).mp hq).2, fun z => nomatch z⟩
  c := fun q hq hp => .inr ((hf q).mpr ⟨hp, hq⟩)
  d := fun q _ q' _ hF => nomatch hF
theorem GI.next {h : Hd} {ps goals F fresh fresh' : List Pr} (I : GI h ps goals F fresh) (fn : fresh'.Nodup) (hf : ∀ q, q ∈ fresh' ↔ q ∈ ps ∧ q ∉ F ++ fresh ∧ ∃ q' ∈ comeP h q, q' ∈ F ++ fresh) : GI h ps goals (F ++ fresh) fresh' := by
  have up : ∀ q ∈ F ++ fresh, q ∈ ps ∧ Up h (fun x => x ∈ goals) q := fun q hq => by
    rcases List.mem_append.mp hq with hq | hq
    · exact I.a q hq
    · exact ⟨(I.b q hq).1, (I.b q hq).2.1⟩
  refine ⟨List.nodup_append.mpr ⟨I.nd, I.fnd, fun a ha b hb e => (I.b b hb).2.2 (e ▸ ha)⟩, fn, up, fun q hq => ?_, fun q hq hp => .inl (List.mem_append.mpr (I.c q hq hp)), fun q hq q' hq' hF => ?_⟩
  · obtain ⟨h1, h2, q', h3, h4⟩ := (hf q).mp hq
    exact ⟨h1, .come h3 (up q' h4).2, h2⟩
  · by_cases m : q ∈ F ++ fresh
    · exact .inl m
    · exact .inr ((hf q).mpr ⟨hq, m, q', hq', hF⟩)
theorem GI.done {h : Hd} {ps goals F : List Pr} (I : GI h ps goals F []) (hcl : ∀ q ∈ ps, ∀ q' ∈ comeP h q, q' ∈ ps) (q : Pr) : q ∈ F ↔ q ∈ ps ∧ Up h (fun x => x ∈ goals) q := by
  refine ⟨I.a q, fun z => ?_⟩
  obtain ⟨hp, u⟩ := z
  revert hp
  induction u with
  | base e => exact fun hp => (I.c _ e hp).elim id fun z => nomatch z
  | come e _ ih => exact fun hp => (I.d _ hp _ e (ih (hcl _ hp _ e))).elim id fun z => nomatch z
end K14

set_option maxHeartbeats 2000000
/-! W1: immutable data (DV), the tuples stay (TX), dicts whose keys are nested tuples (ND). -/
namespace K14
open PySem PySem.Spec PyProof.Rows L2
/-! ### data -/
mutual
/-- the value v is the datum k -/
def DV (K : PySem.W.Frag) (H : Hp) : NestedKey → V → Prop
  | .none, v => v = .non
  | .num i, v => v = .int i
  | .text x, v => v = .str x
  | .tup ks, v => ∃ a vs, v = .ref a ∧ SqT K H a vs ∧ DVs K H ks vs
def DVs (K : PySem.W.Frag) (H : Hp) : List NestedKey → List V → Prop
  | [], vs => vs = []
  | k :: ks, vs => ∃ v r, vs = v :: r ∧ DV K H k v ∧ DVs K H ks r
end
/-- what is a tuple, what is locked, stays -/
structure TX (H H' : Hp) : Prop where
  tup : ∀ a xs, H a = some (.tup xs) → H' a = some (.tup xs)
  frz : ∀ a o u, H a = some (.frz o u) → H' a = some (.frz o u)
theorem TX.refl (H : Hp) : TX H H := ⟨fun _ _ e => e, fun _ _ _ e => e⟩
theorem TX.trans {H H1 H2 : Hp} (a : TX H H1) (b : TX H1 H2) : TX H H2 := ⟨fun c xs e => b.tup c xs (a.tup c xs e), fun c o u e => b.frz c o u (a.frz c o u e)⟩
theorem TX.same {H H' : Hp} (e : Same H H') : TX H H' := ⟨fun _ _ h => e _ _ h, fun _ _ _ h => e _ _ h⟩
theorem TX.new {H : Hp} {p : Addr} {o : HO} (e : H p = Option.none) : TX H (upd H p o) :=
  ⟨fun a xs h => by rw [upd_ne (ne_of_none h e)]; exact h, fun a q u h => by rw [upd_ne (ne_of_none h e)]; exact h⟩
theorem TX.mut {H : Hp} {p : Addr} {o : HO} (m : Mut (H p)) : TX H (upd H p o) :=
  ⟨fun a xs h => by rw [upd_ne (fun e => by subst e; rw [h] at m; exact m)]; exact h, fun a q u h => by rw [upd_ne (fun e => by subst e; rw [h] at m; exact m)]; exact h⟩
theorem TX.lst {H : Hp} {p : Addr} {xs : List V} {o : HO} (e : H p = some (.lst xs)) : TX H (upd H p o) := TX.mut (by rw [e]; trivial)
theorem same_new {H : Hp} {p : Addr} {o : HO} (e : H p = Option.none) : Same H (upd H p o) := fun a q h => by rw [upd_ne (ne_of_none h e)]; exact h
/-- a local thing is changed: what stood ahead of it stands -/
theorem same_upd {H0 H : Hp} {p : Addr} {o : HO} (s : Same H0 H) (e : H0 p = Option.none) : Same H0 (upd H p o) := fun a q h => by rw [upd_ne (ne_of_none h e)]; exact s a q h
section
variable {K : PySem.W.Frag} {H H' : Hp}
theorem rd_tx {a : Addr} {xs : List V} (t : TX H H') (h : Rd H a (.tup xs)) : Rd H' a (.tup xs) := by
  rcases h with h | ⟨o, h⟩
  · exact .inl (t.tup _ _ h)
  · exact .inr ⟨o, t.frz _ _ _ h⟩
theorem sqT_tx {a : Addr} {xs : List V} (t : TX H H') (h : SqT K H a xs) : SqT K H' a xs := h.imp (rd_tx t) fun z => z
mutual
theorem DV.tx (t : TX H H') : ∀ {k : NestedKey} {v : V}, DV K H k v → DV K H' k v
  | .none, _, h => h
  | .num _, _, h => h
  | .text _, _, h => h
  | .tup ks, v, h => by
    unfold DV at h ⊢
    obtain ⟨a, vs, e, q, d⟩ := h
    exact ⟨a, vs, e, sqT_tx t q, DVs.tx t d⟩
theorem DVs.tx (t : TX H H') : ∀ {ks : List NestedKey} {vs : List V}, DVs K H ks vs → DVs K H' ks vs
  | [], _, h => h
  | k :: ks, vs, h => by
    unfold DVs at h ⊢
    obtain ⟨v, r, e, d, ds⟩ := h
    exact ⟨v, r, e, d.tx t, DVs.tx t ds⟩
end
theorem dv_num {i : Int} : DV K H (.num i) (.int i) := by unfold DV; rfl
theorem dv_non : DV K H .none .non := by unfold DV; rfl
theorem dv_text {x : Str} : DV K H (.text x) (.str x) := by unfold DV; rfl
theorem of_num {i : Int} {v : V} (h : DV K H (.num i) v) : v = .int i := by unfold DV at h; exact h
theorem of_non {v : V} (h : DV K H .none v) : v = .non := by unfold DV at h; exact h
theorem of_tup {ks : List NestedKey} {v : V} (h : DV K H (.tup ks) v) : ∃ a vs, v = .ref a ∧ SqT K H a vs ∧ DVs K H ks vs := by unfold DV at h; exact h
theorem dv_tup {ks : List NestedKey} {a : Addr} {vs : List V} (q : SqT K H a vs) (d : DVs K H ks vs) : DV K H (.tup ks) (.ref a) := by unfold DV; exact ⟨a, vs, rfl, q, d⟩
theorem dvs_nil : DVs K H [] [] := by unfold DVs; rfl
theorem dvs_cons {k : NestedKey} {ks : List NestedKey} {v : V} {vs : List V} (d : DV K H k v) (ds : DVs K H ks vs) : DVs K H (k :: ks) (v :: vs) := by unfold DVs; exact ⟨v, vs, rfl, d, ds⟩
theorem of_nil {vs : List V} (h : DVs K H [] vs) : vs = [] := by unfold DVs at h; exact h
theorem of_cons {k : NestedKey} {ks : List NestedKey} {vs : List V} (h : DVs K H (k :: ks) vs) : ∃ v r, vs = v :: r ∧ DV K H k v ∧ DVs K H ks r := by unfold DVs at h; exact h
theorem DVs.length : ∀ {ks : List NestedKey} {vs : List V}, DVs K H ks vs → vs.length = ks.length
  | [], vs, h => by rw [of_nil h]; rfl
  | k :: ks, vs, h => by
    obtain ⟨v, r, e, _, ds⟩ := of_cons h
    rw [e, List.length_cons, List.length_cons, ds.length]
theorem DVs.get : ∀ {ks : List NestedKey} {vs : List V} {i : Nat} {k : NestedKey}, DVs K H ks vs → ks[i]? = some k → ∃ v, vs[i]? = some v ∧ DV K H k v
  | [], _, _, _, _, e => by simp at e
  | k :: ks, vs, 0, k', h, e => by
    obtain ⟨v, r, e2, d, _⟩ := of_cons h
    have : k = k' := by simpa using e
    subst this
    exact ⟨v, by rw [e2]; rfl, d⟩
  | k :: ks, vs, i + 1, k', h, e => by
    obtain ⟨v, r, e2, _, ds⟩ := of_cons h
    obtain ⟨u, h1, h2⟩ := ds.get (i := i) (k := k') (by simpa using e)
    exact ⟨u, by rw [e2]; simpa using h1, h2⟩
theorem DVs.getV {ks : List NestedKey} {vs : List V} {i : Nat} {v : V} (h : DVs K H ks vs) (e : vs[i]? = some v) : ∃ k, ks[i]? = some k ∧ DV K H k v := by
  have hl := h.length
  have hi : i < vs.length := (List.getElem?_eq_some_iff.mp e).1
  obtain ⟨u, h1, h2⟩ := h.get (i := i) (k := ks[i]'(by omega)) (List.getElem?_eq_getElem (by omega))
  rw [e] at h1
  cases h1
  exact ⟨_, List.getElem?_eq_getElem (by omega), h2⟩
theorem DVs.append : ∀ {ks js : List NestedKey} {vs us : List V}, DVs K H ks vs → DVs K H js us → DVs K H (ks ++ js) (vs ++ us)
  | [], js, vs, us, h, g => by rw [of_nil h]; exact g
  | k :: ks, js, vs, us, h, g => by
    obtain ⟨v, r, e, d, ds⟩ := of_cons h
    rw [e]
    exact dvs_cons d (ds.append g)
theorem DVs.snoc {ks : List NestedKey} {vs : List V} {k : NestedKey} {v : V} (h : DVs K H ks vs) (d : DV K H k v) : DVs K H (ks ++ [k]) (vs ++ [v]) := h.append (dvs_cons d dvs_nil)
/-- the last one apart -/
theorem DVs.last {ks : List NestedKey} {vs : List V} (h : DVs K H ks vs) (ne : ks ≠ []) : ∃ js k us v, ks = js ++ [k] ∧ vs = us ++ [v] ∧ DVs K H js us ∧ DV K H k v := by
  induction ks generalizing vs with
  | nil => exact absurd rfl ne
  | cons k ks ih =>
    obtain ⟨v, r, e, d, ds⟩ := of_cons h
    cases ks with
    | nil =>
      rw [of_nil ds] at e
      exact ⟨[], k, [], v, rfl, e, dvs_nil, d⟩
    | cons k2 ks =>
      obtain ⟨js, k', us, v', e1, e2, h1, h2⟩ := ih ds (by simp)
      exact ⟨k :: js, k', v :: us, v', by rw [e1]; rfl, by rw [e, e2]; rfl, dvs_cons d h1, h2⟩
/-! ### integers -/
def nk (n : Nat) : NestedKey := .num (n : Int)
def iv (n : Nat) : V := .int (n : Int)
def lk (l : List Nat) : NestedKey := .tup (l.map nk)
theorem dv_nk {n : Nat} : DV K H (nk n) (iv n) := dv_num
theorem dvs_nks : ∀ {l : List Nat}, DVs K H (l.map nk) (l.map iv)
  | [] => dvs_nil
  | _ :: _ => dvs_cons dv_nk dvs_nks
theorem of_nks : ∀ {l : List Nat} {vs : List V}, DVs K H (l.map nk) vs → vs = l.map iv
  | [], _, h => of_nil h
  | n :: l, vs, h => by
    obtain ⟨v, r, e, d, ds⟩ := of_cons (show DVs K H (nk n :: l.map nk) vs from h)
    rw [e, of_num d, of_nks ds]
    rfl
theorem of_lk {l : List Nat} {v : V} (h : DV K H (lk l) v) : ∃ a, v = .ref a ∧ SqT K H a (l.map iv) := by
  obtain ⟨a, vs, e, q, d⟩ := of_tup h
  rw [of_nks d] at q
  exact ⟨a, e, q⟩
theorem dv_lk {l : List Nat} {a : Addr} (q : SqT K H a (l.map iv)) : DV K H (lk l) (.ref a) := dv_tup q dvs_nks
end
theorem nk_inj {a b : Nat} (e : nk a = nk b) : a = b := by
  unfold nk at e
  injection e with e
  exact Int.ofNat.inj e
theorem nks_inj : ∀ {l m : List Nat}, l.map nk = m.map nk → l = m
  | [], [], _ => rfl
  | [], _ :: _, e => by simp at e
  | _ :: _, [], e => by simp at e
  | a :: l, b :: m, e => by
    rw [List.map_cons, List.map_cons] at e
    injection e with e1 e2
    rw [nk_inj e1, nks_inj e2]
theorem lk_inj {l m : List Nat} (e : lk l = lk m) : l = m := by
  unfold lk at e
  injection e with e
  exact nks_inj e
/-! ### data by the library's other words -/
mutual
theorem DV.dp {K : PySem.W.Frag} {H : Hp} : ∀ {k : NestedKey} {v : V}, DV K H k v → Dp K H v k.data
  | .none, v, h => by rw [of_non h]; exact Dp.non
  | .num i, v, h => by rw [of_num h]; exact Dp.int i
  | .text x, v, h => by
    unfold DV at h
    rw [h]; exact Dp.str x
  | .tup ks, v, h => by
    obtain ⟨a, vs, e, q, d⟩ := of_tup h
    rw [e]
    exact Dp.tup q d.dp
theorem DVs.dp {K : PySem.W.Frag} {H : Hp} : ∀ {ks : List NestedKey} {vs : List V}, DVs K H ks vs → DpAll K H vs (NestedKey.datas ks)
  | [], vs, h => by rw [of_nil h]; exact DpAll.nil
  | k :: ks, vs, h => by
    obtain ⟨v, r, e, d, ds⟩ := of_cons h
    rw [e]
    exact DpAll.cons d.dp ds.dp
end
mutual
theorem eqv_data : ∀ (a b : NestedKey), PyData.eqv a.data b.data = decide (a = b)
  | .none, .none => rfl
  | .none, .num _ => rfl
  | .none, .text _ => rfl
  | .none, .tup _ => rfl
  | .num _, .none => rfl
  | .num i, .num j => by
    rw [NestedKey.decide_eq]
    show (i == j) = decide (i = j)
    exact Bool.beq_eq_decide_eq i j
  | .num _, .text _ => rfl
  | .num _, .tup _ => rfl
  | .text _, .none => rfl
  | .text _, .num _ => rfl
  | .text x, .text y => by
    rw [NestedKey.decide_eq]
    show (x == y) = decide (x = y)
    exact Bool.beq_eq_decide_eq x y
  | .text _, .tup _ => rfl
  | .tup _, .none => rfl
  | .tup _, .num _ => rfl
  | .tup _, .text _ => rfl
  | .tup a, .tup b => by
    rw [NestedKey.decide_eq]
    show PyData.eqvAll (NestedKey.datas a) (NestedKey.datas b) = NestedKey.beqAll a b
    exact eqv_datas a b
theorem eqv_datas : ∀ (a b : List NestedKey), PyData.eqvAll (NestedKey.datas a) (NestedKey.datas b) = NestedKey.beqAll a b
  | [], [] => rfl
  | [], _ :: _ => rfl
  | _ :: _, [] => rfl
  | a :: as, b :: bs => by
    show (PyData.eqv a.data b.data && PyData.eqvAll (NestedKey.datas as) (NestedKey.datas bs)) = (NestedKey.beq a b && NestedKey.beqAll as bs)
    rw [eqv_data a b, eqv_datas as bs, NestedKey.decide_eq]
end
mutual
/-- no text in it -/
def noTx : NestedKey → Bool
  | .none => true
  | .num _ => true
  | .text _ => false
  | .tup ks => noTxs ks
def noTxs : List NestedKey → Bool
  | [] => true
  | k :: ks => noTx k && noTxs ks
end
mutual
theorem data_lay : ∀ k : NestedKey, noTx k = true → k.data.canLay0 = true
  | .none, _ => by simp [NestedKey.data, PyData.canLay0]
  | .num _, _ => by simp [NestedKey.data, PyData.canLay0]
  | .text _, h => by simp [noTx] at h
  | .tup ks, h => by
    have h' : noTxs ks = true := by simpa [noTx] using h
    simp [NestedKey.data, PyData.canLay0, datas_lay ks h']
theorem datas_lay : ∀ ks : List NestedKey, noTxs ks = true → PyData.canLayAll0 (NestedKey.datas ks) = true
  | [], _ => by simp [NestedKey.datas, PyData.canLayAll0]
  | k :: ks, h => by
    have h' : noTx k = true ∧ noTxs ks = true := by simpa [noTxs] using h
    simp [NestedKey.datas, PyData.canLayAll0, data_lay k h'.1, datas_lay ks h'.2]
end
theorem noTxs_nks : ∀ l : List Nat, noTxs (l.map nk) = true
  | [] => by simp [noTxs]
  | n :: l => by
    show (noTx (nk n) && noTxs (l.map nk)) = true
    rw [noTxs_nks l]
    simp [nk, noTx]
theorem noTxs_all : ∀ {ks : List NestedKey}, (∀ k ∈ ks, noTx k = true) → noTxs ks = true
  | [], _ => by simp [noTxs]
  | k :: ks, h => by
    show (noTx k && noTxs ks) = true
    rw [h k List.mem_cons_self, noTxs_all fun j hj => h j (List.mem_cons_of_mem _ hj)]
    rfl
mutual
theorem data_depth : ∀ k : NestedKey, k.data.depth = k.depth
  | .none => by simp [NestedKey.data, PyData.depth, NestedKey.depth]
  | .num _ => by simp [NestedKey.data, PyData.depth, NestedKey.depth]
  | .text _ => by simp [NestedKey.data, PyData.depth, NestedKey.depth]
  | .tup ks => by simp [NestedKey.data, PyData.depth, NestedKey.depth, datas_depth ks]
theorem datas_depth : ∀ ks : List NestedKey, PyData.depthAll (NestedKey.datas ks) = NestedKey.depthAll ks
  | [] => by simp [NestedKey.datas, PyData.depthAll, NestedKey.depthAll]
  | k :: ks => by simp [NestedKey.datas, PyData.depthAll, NestedKey.depthAll, data_depth k, datas_depth ks]
end
/-- small data -/
def Sm (k : NestedKey) : Prop := k.depth ≤ 8 ∧ SeqAt.shaped k.data = true
theorem data_shaped {k : NestedKey} (h : k.depth ≤ 8) (n : noTx k = true) : SeqAt.shaped k.data = true := by
  show (k.data.canLay0 && decide (k.data.depth ≤ 64)) = true
  rw [data_lay k n, data_depth, Bool.true_and]
  exact decide_eq_true (by omega)
theorem nks_depth : ∀ l : List Nat, NestedKey.depthAll (l.map nk) = 0
  | [] => by simp [NestedKey.depthAll]
  | n :: l => by
    show max (NestedKey.depth (nk n)) (NestedKey.depthAll (l.map nk)) = 0
    rw [nks_depth l]
    simp [nk, NestedKey.depth]
theorem sm_lk (l : List Nat) : Sm (lk l) := by
  have e : (lk l).depth = 1 := by
    show NestedKey.depthAll (l.map nk) + 1 = 1
    rw [nks_depth l]
  refine ⟨by omega, data_shaped (by omega) ?_⟩
  show noTxs (l.map nk) = true
  exact noTxs_nks l
theorem lk_depth (l : List Nat) : (lk l).depth = 1 := by
  show NestedKey.depthAll (l.map nk) + 1 = 1
  rw [nks_depth l]
section
variable {X : Cx} {pins : List (Addr × Obj)} {σ : L2.St} {H : Hp} {s : Shared}
mutual
theorem DV.is (I : Inv X pins σ H s) : ∀ {k : NestedKey} {v : V} {u : Value}, DV X.K H k v → RelV v u → NestedIs s.heap k u
  | .none, v, u, h, r => by
    rw [of_non h] at r
    cases r
    exact .none
  | .num i, v, u, h, r => by
    rw [of_num h] at r
    obtain ⟨t, rfl⟩ := r
    exact .int i t
  | .text x, v, u, h, r => by
    unfold DV at h
    rw [h] at r
    obtain ⟨t, rfl⟩ := r
    exact .text x t
  | .tup ks, v, u, h, r => by
    obtain ⟨a, vs, e, q, d⟩ := of_tup h
    rw [e] at r
    cases r
    obtain ⟨its, rv, ⟨o, h1, h2, n, h3⟩, _⟩ := I.tuple q
    exact .tup h1 h2 h3 (by simpa using DVs.is I d rv)
theorem DVs.is (I : Inv X pins σ H s) : ∀ {ks : List NestedKey} {vs : List V} {us : List Value}, DVs X.K H ks vs → Vals vs us → NestedAll s.heap ks us
  | [], vs, us, h, r => by
    rw [of_nil h] at r
    cases r
    exact .nil
  | k :: ks, vs, us, h, r => by
    obtain ⟨v, vr, e, d, ds⟩ := of_cons h
    rw [e] at r
    cases r with
    | cons r1 r2 => exact .cons (DV.is I d r1) (DVs.is I ds r2)
end
end

/-! ### == of data -/
section
variable {X : Cx}
/-- == and != of two data -/
def rDEq (K : PySem.W.Frag) (f : Bool → Bool) : R2 := fun x y H Q => ∃ a b, DV K H a x ∧ DV K H b y ∧ Sm a ∧ Sm b ∧ Q (.bl (f (decide (a = b)))) H
theorem op_deq (hu : X.A.units + 64 < cLine) : OpR X (compareOp .Eq) (rDEq X.K fun b => b) := by
  intro ps s σ H x y v u Q J rx ry hq
  obtain ⟨a, b, ha, hb, da, db, q⟩ := hq
  exact op_eqD hu ps s σ H x y v u Q J rx ry ⟨_, _, ha.dp, hb.dp, da.2, db.2, by rw [eqv_data]; exact q⟩
theorem op_dne (hu : X.A.units + 64 < cLine) : OpR X (compareOp .NotEq) (rDEq X.K fun b => !b) := by
  intro ps s σ H x y v u Q J rx ry hq
  obtain ⟨a, b, ha, hb, da, db, q⟩ := hq
  exact op_neD hu ps s σ H x y v u Q J rx ry ⟨_, _, ha.dp, hb.dp, da.2, db.2, by rw [eqv_data]; exact q⟩
/-- x in a list of data -/
def rDIn (K : PySem.W.Frag) : R2 := fun x y H Q => ∃ k ks a vs, y = .ref a ∧ SqL K H a vs ∧ DVs K H ks vs ∧ DV K H k x ∧ Sm k ∧ (∀ j ∈ ks, j.depth ≤ 8 ∧ noTx j = true) ∧ Q (.bl (decide (k ∈ ks))) H
theorem depthAll_le {m : Nat} : ∀ {ks : List NestedKey}, (∀ k ∈ ks, k.depth ≤ m) → NestedKey.depthAll ks ≤ m
  | [], _ => by simp [NestedKey.depthAll]
  | k :: ks, h => by
    have h1 := h k List.mem_cons_self
    have h2 := depthAll_le (ks := ks) fun j hj => h j (List.mem_cons_of_mem _ hj)
    show max k.depth (NestedKey.depthAll ks) ≤ m
    omega
theorem datas_map : ∀ ks : List NestedKey, NestedKey.datas ks = ks.map NestedKey.data
  | [] => rfl
  | k :: ks => by
    show k.data :: NestedKey.datas ks = _
    rw [datas_map ks, List.map_cons]
theorem op_din (hu : X.A.units + 65 < cLine) : OpR X (compareOp .In) (rDIn X.K) := by
  intro ps s σ H x y v u Q J rx ry hq
  obtain ⟨k, ks, a, vs, e, hl, hds, hd, dk, dks, q⟩ := hq
  have hsh : SeqAt.shaped (.list (NestedKey.datas ks)) = true := by
    have h1 := depthAll_le fun j hj => (dks j hj).1
    show (PyData.canLay0 (.list (NestedKey.datas ks)) && decide (PyData.depth (.list (NestedKey.datas ks)) ≤ 64)) = true
    rw [Bool.and_eq_true]
    refine ⟨by simp only [PyData.canLay0]; exact datas_lay ks (noTxs_all fun j hj => (dks j hj).2), decide_eq_true ?_⟩
    simp only [PyData.depth, datas_depth]
    omega
  refine op_inD hu ps s σ H x y v u Q J rx ry ⟨k.data, NestedKey.datas ks, hd.dp, ?_, dk.2, hsh, ?_⟩
  · rw [e]
    exact Dp.lst hl hds.dp
  · have e2 : ((NestedKey.datas ks).any fun z => PyData.eqv z k.data) = decide (k ∈ ks) := by
      rw [datas_map, List.any_map, Bool.eq_iff_iff, List.any_eq_true, decide_eq_true_iff]
      constructor
      · rintro ⟨j, hj, ej⟩
        have ej' : PyData.eqv j.data k.data = true := ej
        rw [eqv_data] at ej'
        rw [← of_decide_eq_true ej']
        exact hj
      · intro hk
        exact ⟨k, hk, by show PyData.eqv k.data k.data = true; rw [eqv_data]; exact decide_eq_true rfl⟩
    rw [e2]
    exact q
end

/-! ### dicts with nested keys -/
/-- entries: key, where its tuple stands, value -/
abbrev Ent : Type := NestedKey × Addr × V
abbrev EntR : Ent → NestedKey × Addr × Value → Prop := fun p q => p.1 = q.1 ∧ p.2.1 = q.2.1 ∧ RelV p.2.2 q.2.2
structure DctP (P : Program) (w : World) (d : Addr) (xs : List Ent) (h : Heap) : Prop where
  low : (d == sysModules) = false
  len : xs.length ≤ sizeLine
  nd : (xs.map (·.1)).Nodup
  ex : ∃ ys : List (NestedKey × Addr × Value), Paired EntR xs ys ∧ ∃ o es ep, h.get? d = some o ∧ o.ExactDict ∧ o.data = .dict es ep ∧ es.toList = ys.map (entryOfKey (nestedKind P w))
def dctO (P : Program) (w : World) (d : Addr) (xs : List Ent) : HO := .ext (DctP P w d xs)
def kvOf (xs : List Ent) : List (NestedKey × V) := xs.map fun x => (x.1, x.2.2)
/-- the keys' tuples stand -/
def KeysAt (K : PySem.W.Frag) (H : Hp) (xs : List Ent) : Prop := ∀ x ∈ xs, DV K H x.1 (.ref x.2.1) ∧ x.1.depth ≤ 8
/-- at d stands a dict that may be read, that may be written -/
def NDr (P : Program) (w : World) (K : PySem.W.Frag) (H : Hp) (d : Addr) (kvs : List (NestedKey × V)) : Prop := ∃ xs, Rd H d (dctO P w d xs) ∧ kvs = kvOf xs ∧ KeysAt K H xs
def ND (P : Program) (w : World) (K : PySem.W.Frag) (H : Hp) (d : Addr) (kvs : List (NestedKey × V)) : Prop := ∃ xs, H d = some (dctO P w d xs) ∧ kvs = kvOf xs ∧ KeysAt K H xs
theorem KeysAt.tx {K : PySem.W.Frag} {H H' : Hp} {xs : List Ent} (k : KeysAt K H xs) (t : TX H H') : KeysAt K H' xs := fun x hx => ⟨(k x hx).1.tx t, (k x hx).2⟩
section
variable {P : Program} {w : World} {K : PySem.W.Frag} {H H' : Hp} {d : Addr} {kvs : List (NestedKey × V)}
theorem ND.r (n : ND P w K H d kvs) : NDr P w K H d kvs := let ⟨xs, h, e, k⟩ := n; ⟨xs, .inl h, e, k⟩
theorem ND.mut (n : ND P w K H d kvs) : Mut (H d) := by
  obtain ⟨xs, h, _⟩ := n
  rw [h]; trivial
theorem ND.keep (n : ND P w K H d kvs) (t : TX H H') (e : H' d = H d) : ND P w K H' d kvs := let ⟨xs, h, e1, k⟩ := n; ⟨xs, e.trans h, e1, k.tx t⟩
theorem ND.same (n : ND P w K H d kvs) (s : Same H H') : ND P w K H' d kvs := let ⟨xs, h, e1, k⟩ := n; ⟨xs, s _ _ h, e1, k.tx (.same s)⟩
theorem NDr.same (n : NDr P w K H d kvs) (s : Same H H') : NDr P w K H' d kvs := by
  obtain ⟨xs, h, e1, k⟩ := n
  refine ⟨xs, ?_, e1, k.tx (.same s)⟩
  rcases h with h | ⟨o, h⟩
  · exact .inl (s _ _ h)
  · exact .inr ⟨o, s _ _ h⟩
/-- another thing is changed -/
theorem ND.upd (n : ND P w K H d kvs) {p : Addr} {o : HO} (ne : d ≠ p) (t : TX H (upd H p o)) : ND P w K (upd H p o) d kvs := n.keep t (upd_ne ne)
theorem dctP_ok {xs : List Ent} {h : Heap} (x : DctP P w d xs h) : ObjOk P w H h d (dctO P w d xs) := by
  refine ⟨x, ?_, fun h1 h2 y k => ?_⟩
  · obtain ⟨ys, _, o, _, _, e, _⟩ := x.ex
    exact ⟨o, e⟩
  · obtain ⟨ys, r, o, es, ep, e, q⟩ := y.ex
    exact ⟨y.low, y.len, y.nd, ys, r, o, es, ep, k _ e, q⟩
theorem ents_keys {xs : List Ent} {ys : List (NestedKey × Addr × Value)} (r : Paired EntR xs ys) : xs.map (·.1) = ys.map (·.1) := by
  induction r with
  | nil => rfl
  | cons h _ ih => rw [List.map_cons, List.map_cons, ih, h.1]
theorem ents_val {xs : List Ent} {ys : List (NestedKey × Addr × Value)} (r : Paired EntR xs ys) (k : NestedKey) : RelO (valV (kvOf xs) k) ((atKey ys k).map (·.2)) := by
  induction r with
  | nil => exact True.intro
  | @cons p q ps qs h _ ih =>
    obtain ⟨h1, h2, h3⟩ := h
    show RelO (valV ((p.1, p.2.2) :: kvOf ps) k) _
    by_cases e : p.1 = k
    · have b : atKey (q :: qs) k = some q.2 := by simp [atKey, List.find?_cons, h1.symm.trans e]
      rw [valV_pos (p := (p.1, p.2.2)) e, b]
      exact h3
    · have b : atKey (q :: qs) k = atKey qs k := by simp [atKey, List.find?_cons, show ¬ q.1 = k from fun z => e (h1.trans z)]
      rw [valV_neg (p := (p.1, p.2.2)) e, b]
      exact ih
/-- a store: in its place, or at the end -/
def putE (xs : List Ent) (k : NestedKey) (b : Addr) (v : V) : List Ent := if (valV (kvOf xs) k).isSome = true then xs.map (fun x => if x.1 = k then (x.1, x.2.1, v) else x) else xs ++ [(k, b, v)]
theorem kvOf_put (xs : List Ent) (k : NestedKey) (b : Addr) (v : V) : kvOf (putE xs k b v) = putK (kvOf xs) k v := by
  unfold putE putK
  rw [valV_any]
  by_cases q : (valV (kvOf xs) k).isSome = true
  · rw [if_pos q, if_pos q]
    unfold kvOf
    rw [List.map_map, List.map_map]
    refine List.map_congr_left fun x _ => ?_
    show ((if x.1 = k then (x.1, x.2.1, v) else x : Ent).1, (if x.1 = k then (x.1, x.2.1, v) else x : Ent).2.2) = if x.1 = k then (x.1, v) else (x.1, x.2.2)
    by_cases e : x.1 = k
    · rw [if_pos e, if_pos e]
    · rw [if_neg e, if_neg e]
  · rw [if_neg q, if_neg q]
    unfold kvOf
    rw [List.map_append]
    rfl
theorem put_pairs {xs : List Ent} {ys : List (NestedKey × Addr × Value)} (r : Paired EntR xs ys) (k : NestedKey) (b : Addr) {v : V} {u : Value} (rv : RelV v u) : Paired EntR (putE xs k b v) (storedH ys k b u) := by
  unfold putE storedH
  have e := (ents_val r k).isSome_eq
  rw [Option.isSome_map] at e
  rw [e]
  by_cases q : (atKey ys k).isSome = true
  · rw [if_pos q, if_pos q]
    clear e q
    induction r with
    | nil => exact .nil
    | @cons p q ps qs h _ ih =>
      obtain ⟨h1, h2, h3⟩ := h
      rw [List.map_cons, List.map_cons]
      refine .cons ?_ ih
      unfold putAt
      by_cases z : p.1 = k
      · rw [if_pos z, if_pos (h1.symm.trans z)]; exact ⟨h1, h2, rv⟩
      · rw [if_neg z, if_neg (fun y => z (h1.trans y))]; exact ⟨h1, h2, h3⟩
  · rw [if_neg q, if_neg q]
    exact Paired.snoc r ⟨rfl, rfl, rv⟩
theorem put_nodup {xs : List Ent} {k : NestedKey} {b : Addr} {v : V} (n : (xs.map (·.1)).Nodup) : ((putE xs k b v).map (·.1)).Nodup := by
  unfold putE
  by_cases q : (valV (kvOf xs) k).isSome = true
  · rw [if_pos q]
    have e : (xs.map fun x => if x.1 = k then (x.1, x.2.1, v) else x).map (·.1) = xs.map (·.1) := by
      rw [List.map_map]
      refine List.map_congr_left fun x _ => ?_
      show (if x.1 = k then (x.1, x.2.1, v) else x : Ent).1 = x.1
      by_cases e : x.1 = k
      · rw [if_pos e]
      · rw [if_neg e]
    rw [e]
    exact n
  · rw [if_neg q, List.map_append]
    refine List.nodup_append.mpr ⟨n, by simp, fun a ha c hc e => q ?_⟩
    have hc' : c = k := by simpa using hc
    rw [← valV_any]
    obtain ⟨x, hx, rfl⟩ := List.mem_map.mp ha
    refine List.any_eq_true.mpr ⟨(x.1, x.2.2), List.mem_map.mpr ⟨x, hx, rfl⟩, decide_eq_true ?_⟩
    show x.1 = k
    rw [← hc', e]
theorem put_keys {xs : List Ent} {k : NestedKey} {b : Addr} {v : V} (n : KeysAt K H xs) (d : DV K H k (.ref b)) (hd : k.depth ≤ 8) : KeysAt K H (putE xs k b v) := by
  intro x hx
  unfold putE at hx
  by_cases q : (valV (kvOf xs) k).isSome = true
  · rw [if_pos q] at hx
    obtain ⟨y, hy, e⟩ := List.mem_map.mp hx
    subst e
    by_cases z : y.1 = k
    · rw [if_pos z]; exact n y hy
    · rw [if_neg z]; exact n y hy
  · rw [if_neg q] at hx
    rcases List.mem_append.mp hx with hx | hx
    · exact n x hx
    · have e : x = (k, b, v) := by simpa using hx
      subst e
      exact ⟨d, hd⟩
theorem put_len (xs : List Ent) (k : NestedKey) (b : Addr) (v : V) : (putE xs k b v).length ≤ xs.length + 1 := by
  unfold putE
  by_cases q : (valV (kvOf xs) k).isSome = true
  · rw [if_pos q, List.length_map]; omega
  · rw [if_neg q, List.length_append]; simp
theorem kvOf_len (xs : List Ent) : (kvOf xs).length = xs.length := by unfold kvOf; rw [List.length_map]
end
section
variable {X : Cx} {pins : List (Addr × Obj)} {σ : L2.St} {H : Hp} {s : Shared} {d : Addr}
theorem nkind_in1 {A : Around} (hu : A.units + 9 < cLine) : (nestedKind X.prog X.w).room A.in1 := by
  show A.in1.units + 8 < cLine
  rw [Around.in1_units]
  omega
theorem ndr_raw {xs : List Ent} (I : Inv X pins σ H s) (h : Rd H d (dctO X.prog X.w d xs)) (k : KeysAt X.K H xs) :
    (d == sysModules) = false ∧ xs.length ≤ sizeLine ∧ ∃ ys, Paired EntR xs ys ∧ s.heap.DictOfH (nestedKind X.prog X.w) d ys := by
  have x : DctP X.prog X.w d xs s.heap := (show ObjOk X.prog X.w H s.heap d (dctO X.prog X.w d xs) from h.ok I.hok).1
  obtain ⟨ys, r, o, es, ep, h1, h2, h3, h4⟩ := x.ex
  refine ⟨x.low, x.len, ys, r, o, es, ep, h1, h2, h3, h4, ?_, by rw [← ents_keys r]; exact x.nd⟩
  have all : ∀ {l : List Ent} {m : List (NestedKey × Addr × Value)}, Paired EntR l m → KeysAt X.K H l → ∀ y ∈ m, (nestedKind X.prog X.w).is s.heap y.1 y.2.1 := by
    intro l m q
    induction q with
    | nil => intro _ y hy; exact nomatch hy
    | @cons p q ps qs hq _ ih =>
      intro kl y hy
      rcases List.mem_cons.mp hy with e | hy
      · subst e
        obtain ⟨z1, z2⟩ := kl p List.mem_cons_self
        rw [← hq.1, ← hq.2.1]
        exact ⟨DV.is I z1 rfl, z2⟩
      · exact ih (fun x hx => kl x (List.mem_cons_of_mem _ hx)) y hy
  exact all r k
/-- what the dict at d holds at the key y -/
def NGet (P : Program) (w : World) (K : PySem.W.Frag) (H : Hp) (d : Addr) (y : V) (o : Option V) : Prop := ∃ kvs k a, NDr P w K H d kvs ∧ y = .ref a ∧ DV K H k y ∧ k.depth ≤ 8 ∧ o = valV kvs k
theorem nget_of {P : Program} {w : World} {K : PySem.W.Frag} {kvs : List (NestedKey × V)} {y : V} {ks : List NestedKey} (n : NDr P w K H d kvs) (h : DV K H (.tup ks) y) (hd : (NestedKey.tup ks).depth ≤ 8) : NGet P w K H d y (valV kvs (.tup ks)) := by
  obtain ⟨a, vs, e, q, dd⟩ := of_tup h
  exact ⟨kvs, _, a, n, e, h, hd, rfl⟩
variable {y v : V} {o : Option V} {u : Value} {A : Around} {E : Value → Shared → Prop}
theorem nget_raw (I : Inv X pins σ H s) (g : NGet X.prog X.w X.K H d y o) (ry : RelV y u) :
    ∃ k a ys, u = .ref a ∧ (nestedKind X.prog X.w).is s.heap k a ∧ (d == sysModules) = false ∧ s.heap.DictOfH (nestedKind X.prog X.w) d ys ∧ RelO o ((atKey ys k).map (·.2)) := by
  obtain ⟨kvs, k, a, ⟨xs, h, e, kk⟩, ey, hk, hd, eo⟩ := g
  obtain ⟨low, _, ys, r, dd⟩ := ndr_raw I h kk
  subst ey
  cases ry
  exact ⟨k, a, ys, rfl, ⟨DV.is I hk rfl, hd⟩, low, dd, by rw [eo, e]; exact ents_val r k⟩
theorem n_in {Q : Value → Shared → Prop} (hu : A.units + 9 < cLine) (I : Inv X pins σ H s) (g : NGet X.prog X.w X.K H d y o) (ry : RelV y u) (h : ∀ s', Inv X pins σ H s' → Q (.bool o.isSome) s') : wpAny (model X.prog X.w) A (compareOp .In u (.ref d)) Q E s := by
  obtain ⟨k, a, ys, rfl, hk, low, dd, r⟩ := nget_raw I g ry
  refine wpAny_in_heap (nkind_in1 hu) hk low dd ?_
  have e := r.isSome_eq
  rw [Option.isSome_map] at e
  rw [← e]
  exact h _ (I.tok _)
theorem n_notIn {Q : Value → Shared → Prop} (hu : A.units + 9 < cLine) (I : Inv X pins σ H s) (g : NGet X.prog X.w X.K H d y o) (ry : RelV y u) (h : ∀ s', Inv X pins σ H s' → Q (.bool (!o.isSome)) s') : wpAny (model X.prog X.w) A (compareOp .NotIn u (.ref d)) Q E s := by
  obtain ⟨k, a, ys, rfl, hk, low, dd, r⟩ := nget_raw I g ry
  refine wpAny_notIn_heap (nkind_in1 hu) hk low dd ?_
  have e := r.isSome_eq
  rw [Option.isSome_map] at e
  rw [← e]
  exact h _ (I.tok _)
theorem n_getItem {Q : Value → Shared → Prop} (hu : A.units + 9 < cLine) (I : Inv X pins σ H s) (g : NGet X.prog X.w X.K H d y (some v)) (ry : RelV y u) (h : ∀ w' s', Inv X pins σ H s' → RelV v w' → Q w' s') : wpAny (model X.prog X.w) A (getItem (.ref d) u) Q E s := by
  obtain ⟨k, a, ys, rfl, hk, low, dd, r⟩ := nget_raw I g ry
  obtain ⟨w', hw, rw'⟩ := RelO.some_of r
  obtain ⟨p, hp, hp2⟩ := Option.map_eq_some_iff.mp hw
  refine wpAny_getItem_heap (nkind_in1 hu) hk dd hp ?_
  rw [hp2]
  exact h w' _ (I.tok _) rw'
theorem n_setItem {r : Value} {kvs : List (NestedKey × V)} {ks : List NestedKey} {Q : Unit → Shared → Prop} (hu : A.units + 9 < cLine) (I : Inv X pins σ H s) (n : ND X.prog X.w X.K H d kvs) (hy : DV X.K H (.tup ks) y) (hd : (NestedKey.tup ks).depth ≤ 8) (hl : kvs.length < sizeLine) (ry : RelV y u) (rv : RelV v r)
    (h : ∀ xs s', Inv X pins σ (upd H d (dctO X.prog X.w d xs)) s' → putK kvs (.tup ks) v = kvOf xs → KeysAt X.K H xs → Q () s') : wpAny (model X.prog X.w) A (setItem (.ref d) u r) Q E s := by
  obtain ⟨xs, hH, e, kk⟩ := n
  obtain ⟨low, hlen, ys, pr, dd⟩ := ndr_raw I (.inl hH) kk
  obtain ⟨a, vs, ea, _, _⟩ := of_tup hy
  subst ea
  cases ry
  have hx : DctP X.prog X.w d xs s.heap := (show ObjOk X.prog X.w H s.heap d (dctO X.prog X.w d xs) from I.hok d _ hH).1
  have hz : ys.length ≤ sizeLine := by rw [← Paired.length pr]; exact hlen
  refine wpAny_setItem_heap (hsz := hz) (nkind_in1 hu) ⟨DV.is I hy rfl, hd⟩ dd fun h' dd' hs => ?_
  obtain ⟨q, es, ep, hq, h2, h3, h4, _, _⟩ := dd'
  have hl2 : (putE xs (.tup ks) a v).length ≤ sizeLine := by
    have h1 := put_len xs (.tup ks) a v
    rw [e, kvOf_len] at hl
    omega
  refine h (putE xs (.tup ks) a v) _ (d_write I (by rw [hH]; trivial) hs ⟨q, hq⟩ (dctP_ok ⟨low, hl2, put_nodup hx.nd, _, put_pairs pr (.tup ks) a rv, q, es, ep, hq, h2, h3, h4⟩)) ?_ (put_keys kk hy hd)
  rw [kvOf_put, e]
theorem n_type (I : Inv X pins σ H s) {kvs : List (NestedKey × V)} (n : NDr X.prog X.w X.K H d kvs) : s.TypeIs (.ref d) "dict" ∧ (∀ b, Value.ref d = .ref b → ∃ ob, s.heap.get? b = some ob ∧ ob.dict = none) ∧ (d == sysModules) = false := by
  obtain ⟨xs, h, e, kk⟩ := n
  obtain ⟨low, _, ys, _, dd⟩ := ndr_raw I h kk
  refine ⟨dd.typeIs, fun b q => ?_, low⟩
  cases q
  obtain ⟨ob, _, _, h1, h2, _⟩ := dd
  exact ⟨ob, h1, h2.2.1⟩
end
end K14

/-! W2: rules for dicts with nested keys (in, [], get, store, walks, list(d)), locking for good, == []. -/
namespace K14
open PySem PySem.Spec PyProof.Rows L2
section
variable {X : Cx} {a b e o i f : Expr} {ta tb te td ty tx : TE} {pos apos cpos : Pos}
theorem un9 {A : Around} {k : Nat} (hr : Room k A) : A.units + 9 < cLine := Nat.lt_of_le_of_lt (Nat.add_le_add_left (by decide : 9 ≤ 64) _) hr.units
theorem un65 {A : Around} {k : Nat} (hr : Room k A) : A.units + 65 < cLine := by have := hr.un; omega
/-- an expression that is never asked -/
theorem pe_off : PE X e (fun _ _ _ => False) := ⟨fun _ _ _ _ _ _ z => False.elim z⟩
theorem pt_off : PT X e (fun _ _ _ => False) := ⟨fun _ _ _ _ _ _ z => False.elim z⟩
/-! ### locked for good -/
def tFrzE (t : TE) : TE := fun σ H Q => t σ H fun v H1 => ∃ d u, v = .ref d ∧ H1 d = some u ∧ Mut (some u) ∧ ∀ od, Q v (upd H1 d (.frz od u))
theorem pe_frz (h : PE X e te) : PE X e (tFrzE te) := by
  constructor
  intro ps s σ H Q J hw
  refine thn (h.run ps s σ H _ J hw) fun v s1 hv => ?_
  obtain ⟨x, H1, J1, r, d, u, ex, hd, mu, q⟩ := hv
  obtain ⟨od, J2⟩ := J1.lock hd mu
  exact ⟨x, _, J2, r, q od⟩
def tFrzS (t : TS) : TS := fun D σ H => ∃ d u, H d = some u ∧ Mut (some u) ∧ ∀ od, t D σ (upd H d (.frz od u))
theorem ps_frz {st : Stmt} {t : TS} (h : PS X st t) : PS X st (tFrzS t) := by
  constructor
  intro ps s σ H D J hw
  obtain ⟨d, u, hd, mu, q⟩ := hw
  obtain ⟨od, J2⟩ := J.lock hd mu
  exact h.run ps s σ _ D J2 (q od)
theorem tx_frz {H : Hp} {d : Addr} {u : HO} {od : Obj} (hd : H d = some u) (mu : Mut (some u)) : TX H (upd H d (.frz od u)) := TX.mut (by rw [hd]; exact mu)

/-! ### dicts with nested keys -/
def rNIn (P : Program) (w : World) (K : PySem.W.Frag) (g : Bool → Bool) : R2 := fun x y H Q => ∃ d o, y = .ref d ∧ NGet P w K H d x o ∧ Q (.bl (g o.isSome)) H
theorem op_nin {k : Nat} (hr : Room k X.A) : OpR X (compareOp .In) (rNIn X.prog X.w X.K fun b => b) := by
  intro ps s σ H x y v u Q J rx ry hq
  obtain ⟨d, o, ey, g, q⟩ := hq
  subst ey
  cases ry
  exact n_in (un9 hr) J g rx fun s' J' => ⟨.bl _, H, J', rfl, q⟩
theorem op_nnotin {k : Nat} (hr : Room k X.A) : OpR X (compareOp .NotIn) (rNIn X.prog X.w X.K fun b => !b) := by
  intro ps s σ H x y v u Q J rx ry hq
  obtain ⟨d, o, ey, g, q⟩ := hq
  subst ey
  cases ry
  exact n_notIn (un9 hr) J g rx fun s' J' => ⟨.bl _, H, J', rfl, q⟩
def tNGet (P : Program) (w : World) (K : PySem.W.Frag) (td ty : TE) : TE := fun σ H Q => td σ H fun x H1 => ty σ H1 fun y H2 => ∃ d v, x = .ref d ∧ NGet P w K H2 d y (some v) ∧ Q v H2
theorem nget_type {pins : List (Addr × Obj)} {σ : L2.St} {H : Hp} {s : Shared} {d : Addr} {y : V} {r : Option V} (J : Inv X pins σ H s) (g : NGet X.prog X.w X.K H d y r) : s.TypeIs (.ref d) "dict" := by
  obtain ⟨kvs, _, _, n, _⟩ := g
  exact (n_type J n).1
theorem pe_nget {k : Nat} (hr : Room k X.A) (ho : PE X o td) (hi : PE X i ty) (hs : NoSl i) : PE X (.Subscript o i pos) (tNGet X.prog X.w X.K td ty) := by
  constructor
  intro ps s σ H Q J hw
  refine subD_of PySem.F.slot_dict_getitem.lookup hs ?_
  refine thn (ho.run ps s σ H _ J hw) fun u s1 hu => ?_
  obtain ⟨x, H1, J1, rx, q1⟩ := hu
  refine thn (hi.run ps s1 σ H1 _ J1 q1) fun w2 s2 hw2 => ?_
  obtain ⟨y, H2, J2, ry, d, v, ex, g, q2⟩ := hw2
  subst ex
  obtain rfl : u = Value.ref d := rx
  exact ⟨nget_type J2 g, n_getItem (un9 hr) J2 g ry fun w3 s3 J3 r3 => ⟨v, H2, J3, r3, q2⟩⟩
/-- d[k] = v -/
def setND (P : Program) (w : World) (K : PySem.W.Frag) : TSet := fun o i v H Q => ∃ d ks kvs, o = .ref d ∧ ND P w K H d kvs ∧ DV K H (.tup ks) i ∧ (NestedKey.tup ks).depth ≤ 8 ∧ kvs.length < sizeLine ∧
  ∀ H', (∀ c, c ≠ d → H' c = H c) → TX H H' → ND P w K H' d (putK kvs (.tup ks) v) → Q H'
theorem set_nd {k : Nat} (hr : Room k X.A) : PSet X (setND X.prog X.w X.K) := by
  intro ps s σ H o i v ov iv u Q J ro ri rv hq
  obtain ⟨d, ks, kvs, eo, n, hi, hd, hl, q⟩ := hq
  subst eo
  cases ro
  refine n_setItem (un9 hr) J n hi hd hl ri rv fun xs s' J' e kk => ?_
  have t : TX H (upd H d (dctO X.prog X.w d xs)) := TX.mut n.mut
  exact ⟨_, J', q _ (fun c hc => upd_ne hc) t ⟨xs, upd_same, e, kk.tx t⟩⟩
/-- {} -/
def tNNew (P : Program) (w : World) (K : PySem.W.Frag) : TE := fun _ H Q => ∀ p H', H p = none → (∀ c, c ≠ p → H' c = H c) → Same H H' → ND P w K H' p [] → Q (.ref p) H'
theorem dct_empty {P : Program} {w : World} {h : Heap} (hb : sysModules < h.objs.size) : DctP P w h.objs.size [] (h.push { cls := .type "dict", data := .dict #[] }) where
  low := beq_eq_false_iff_ne.mpr (Ne.symm (Nat.ne_of_lt hb))
  len := Nat.zero_le _
  nd := List.nodup_nil
  ex := ⟨[], .nil, _, #[], 0, Heap.get?_push_size _ rfl, ⟨rfl, rfl, rfl⟩, rfl, rfl⟩
theorem pe_nnew : PE X (.Dict [] [] pos) (tNNew X.prog X.w X.K) := by
  constructor
  intro ps s σ H Q J hw
  have hn := J.hok.fresh (Nat.le_refl s.heap.objs.size)
  have J2 := J.laid (a := s.heap.objs.size) (o := dctO X.prog X.w s.heap.objs.size []) (h' := s.heap.push { cls := .type "dict", data := .dict #[] }) (t' := s.toks) (fun _ _ z => Heap.get?_push_of_some _ z) (Nat.le_refl _) (dctP_ok (dct_empty J.big))
  refine wpAny_Dict_empty ⟨.ref _, _, J2, rfl, hw _ _ hn (fun c hc => upd_ne hc) (same_new hn) ⟨[], upd_same, rfl, fun x hx => nomatch hx⟩⟩
/-- d.get(k), d.get(k, x) -/
def tNGet1 (P : Program) (w : World) (K : PySem.W.Frag) (td ty : TE) : TE := fun σ H Q => td σ H fun x H1 => ∃ d kvs, x = .ref d ∧ NDr P w K H1 d kvs ∧ ty σ H1 fun y H2 => ∃ r, NGet P w K H2 d y r ∧ Q (r.getD .non) H2
def tNGet2 (P : Program) (w : World) (K : PySem.W.Frag) (td ty tx : TE) : TE := fun σ H Q => td σ H fun x H1 => ∃ d kvs, x = .ref d ∧ NDr P w K H1 d kvs ∧ ty σ H1 fun y H2 => tx σ H2 fun z H3 => ∃ r, NGet P w K H3 d y r ∧ Q (r.getD z) H3
theorem pe_nget1 {k : Nat} (hr : Room k X.A) (ho : PE X o td) (he : PE X e ty) (m : M1 X o "get" apos e cpos) : PE X (.Call (.Attribute o "get" apos) [e] [] cpos) (tNGet1 X.prog X.w X.K td ty) := by
  constructor
  intro ps s σ H Q J hw
  refine wpAny_Call_method m.base m.few m.line PySem.F.plainAttrs_dict PySem.F.slot_dict_get PySem.F.type_dict_get ?_
  refine thn (ho.run ps s σ H _ J hw) fun u s1 hu => ?_
  obtain ⟨x, H1, J1, rx, d, kvs, ex, n, q1⟩ := hu
  subst ex
  obtain rfl : u = Value.ref d := rx
  obtain ⟨t1, t2, low⟩ := n_type J1 n
  refine ⟨t1, t2, ?_⟩
  rw [m.trees]
  refine Calls.callWith_builtin rfl (Calls.evalArgs_plain (Calls.spliced_cons (thn (he.run ps s1 σ H1 _ J1 q1) fun w2 s2 hw2 => ?_)))
  obtain ⟨y, H2, J2, ry, r, g, q2⟩ := hw2
  refine Calls.spliced_nil ?_
  obtain ⟨kk, a, ys, rfl, hk, low2, dd, rr⟩ := nget_raw J2 g ry
  refine call_meetsIn PySem.F.slot_dict_get dd.typeIs PySem.F.entry_dict_get (PySem.F.args_dict_get_2 _ _) (meetsH_dict_get (nestedKind X.prog X.w) d a low2) ⟨nkind_in1 (un9 hr), kk, ys, hk, dd, ?_⟩
  exact ⟨r.getD .non, H2, J2.tok _, rr.getD (show L2.RelV .non .none from rfl), q2⟩
theorem pe_nget2 {k : Nat} (hr : Room k X.A) (ho : PE X o td) (he : PE X e ty) (hf : PE X f tx) (m : M2 X o "get" apos e f cpos) : PE X (.Call (.Attribute o "get" apos) [e, f] [] cpos) (tNGet2 X.prog X.w X.K td ty tx) := by
  constructor
  intro ps s σ H Q J hw
  refine wpAny_Call_method m.base m.few m.line PySem.F.plainAttrs_dict PySem.F.slot_dict_get PySem.F.type_dict_get ?_
  refine thn (ho.run ps s σ H _ J hw) fun u s1 hu => ?_
  obtain ⟨x, H1, J1, rx, d, kvs, ex, n, q1⟩ := hu
  subst ex
  obtain rfl : u = Value.ref d := rx
  obtain ⟨t1, t2, low⟩ := n_type J1 n
  refine ⟨t1, t2, ?_⟩
  rw [m.trees]
  refine Calls.callWith_builtin rfl (Calls.evalArgs_plain (Calls.spliced_cons (thn (he.run ps s1 σ H1 _ J1 q1) fun w2 s2 hw2 => ?_)))
  obtain ⟨y, H2, J2, ry, q2⟩ := hw2
  refine Calls.spliced_cons (thn (hf.run ps s2 σ H2 _ J2 q2) fun w3 s3 hw3 => ?_)
  obtain ⟨z, H3, J3, rz, r, g, q3⟩ := hw3
  refine Calls.spliced_nil ?_
  obtain ⟨kk, a, ys, rfl, hk, low2, dd, rr⟩ := nget_raw J3 g ry
  refine call_meetsIn PySem.F.slot_dict_get dd.typeIs PySem.F.entry_dict_get (PySem.F.args_dict_get_3 _ _ _) (meetsH_dict_get_default (nestedKind X.prog X.w) d a low2 w3) ⟨nkind_in1 (un9 hr), kk, ys, hk, dd, ?_⟩
  exact ⟨r.getD z, H3, J3.tok _, rr.getD rz, q3⟩
end

/-! ### a locked dict is walked -/
section
variable {X : Cx} {pins : List (Addr × Obj)} {σ : L2.St} {H : Hp} {s : Shared} {d : Addr} {o : Obj} {xs : List Ent}
/-- a locked dict with nested keys -/
def NDf (P : Program) (w : World) (K : PySem.W.Frag) (H : Hp) (d : Addr) (o : Obj) (xs : List Ent) : Prop := H d = some (.frz o (dctO P w d xs)) ∧ KeysAt K H xs
theorem NDf.r {P : Program} {w : World} {K : PySem.W.Frag} (n : NDf P w K H d o xs) : NDr P w K H d (kvOf xs) := ⟨xs, .inr ⟨o, n.1⟩, rfl, n.2⟩
theorem NDf.tx {P : Program} {w : World} {K : PySem.W.Frag} {H' : Hp} (n : NDf P w K H d o xs) (t : TX H H') : NDf P w K H' d o xs := ⟨t.frz _ _ _ n.1, n.2.tx t⟩
theorem NDr.of_frz {P : Program} {w : World} {K : PySem.W.Frag} {H' : Hp} (n : NDf P w K H d o xs) (t : TX H H') : NDr P w K H' d (kvOf xs) := (n.tx t).r
theorem frz_raw (J : Inv X pins σ H s) (h : H d = some (.frz o (dctO X.prog X.w d xs))) :
    (d == sysModules) = false ∧ ∃ es ep, s.heap.DictRaw d es ep ∧ o.data = .dict es ep ∧ es.size = xs.length ∧ ∀ (j : Nat) (x : Ent), xs[j]? = some x → ∃ en : DictEntry, es[j]? = some en ∧ en.key = .ref x.2.1 ∧ RelV x.2.2 en.val := by
  obtain ⟨hd, z⟩ := J.hok d _ h
  have x : DctP X.prog X.w d xs s.heap := (show ObjOk X.prog X.w H s.heap d (dctO X.prog X.w d xs) from z).1
  obtain ⟨ys, r, o', es, ep, h1, h2, h3, h4⟩ := x.ex
  rw [hd] at h1
  cases h1
  refine ⟨x.low, es, ep, ⟨o, hd, h2, h3⟩, h3, ?_, fun j y hy => ?_⟩
  · have e1 : es.size = ys.length := by rw [← Array.length_toList, h4, List.length_map]
    have e2 : xs.length = ys.length := Paired.length r
    omega
  · obtain ⟨q, hq, e1, e2, e3⟩ := paired_get r hy
    refine ⟨_, by rw [← Array.getElem?_toList, h4, List.getElem?_map, hq]; rfl, ?_, e3⟩
    show Value.ref q.2.1 = _
    rw [e2]
/-- the keys, the pairs -/
def ItN (P : Program) (w : World) (d : Addr) (o : Obj) (xs : List Ent) : It :=
  ⟨fun j H => H d = some (.frz o (dctO P w d xs)) ∧ j < xs.length, fun j H x H' => H' = H ∧ ∃ y : Ent, xs[j]? = some y ∧ x = .ref y.2.1, fun j H => H d = some (.frz o (dctO P w d xs)) ∧ xs.length ≤ j⟩
def ItP (P : Program) (w : World) (d : Addr) (o : Obj) (xs : List Ent) : It :=
  ⟨fun j H => H d = some (.frz o (dctO P w d xs)) ∧ j < xs.length, fun j H x H' => ∃ (T : Addr) (y : Ent), xs[j]? = some y ∧ x = .ref T ∧ H T = none ∧ H' = upd H T (.tup [.ref y.2.1, y.2.2]), fun j H => H d = some (.frz o (dctO P w d xs)) ∧ xs.length ≤ j⟩
theorem walk_N {P : Program} {w : World} : Walk (ItN P w d o xs) xs.length (fun H => H d = some (.frz o (dctO P w d xs))) (fun j H x H' => H' = H ∧ ∃ y : Ent, xs[j]? = some y ∧ x = .ref y.2.1) :=
  ⟨fun _ _ hj q => ⟨q, hj⟩, fun _ q => ⟨q, Nat.le_refl _⟩, fun _ _ _ _ _ _ y => y⟩
theorem walk_P {P : Program} {w : World} : Walk (ItP P w d o xs) xs.length (fun H => H d = some (.frz o (dctO P w d xs))) (fun j H x H' => ∃ (T : Addr) (y : Ent), xs[j]? = some y ∧ x = .ref T ∧ H T = none ∧ H' = upd H T (.tup [.ref y.2.1, y.2.2])) :=
  ⟨fun _ _ hj q => ⟨q, hj⟩, fun _ q => ⟨q, Nat.le_refl _⟩, fun _ _ _ _ _ _ y => y⟩
theorem dict_one {o : Obj} {es fs : Array DictEntry} {ep eq : Nat} (h : o.data = .dict es ep) (g : o.data = .dict fs eq) : fs = es ∧ eq = ep := by
  rw [h] at g
  cases g
  exact ⟨rfl, rfl⟩
variable {P : Program} {w : World} {K : PySem.W.Frag} {tg : Expr} {es : Array DictEntry} {ep : Nat}
theorem turn_N (it : Addr) (hod : o.data = .dict es ep) (hsz : es.size = xs.length) : Turn P w K tg (ItN P w d o xs) [it] it (fun j h => h.IsKeyIter it d j es.size ep) where
  mem := List.mem_singleton_self it
  obj := fun j h st c hc => by
    have ec : c = it := List.mem_singleton.mp hc
    obtain ⟨oi, e1, _, e3⟩ := st
    exact ⟨oi, by rw [ec]; exact e1, fun v z => by rw [e3] at z; cases z⟩
  keep := fun j h h' st k => st.at fun oi e1 => k it (List.mem_singleton_self it) oi e1
  item := by
    intro Y hP hw hK hc j ps s1 σ1 H1 E1 J hf st hg
    subst hP hw hK
    obtain ⟨hd, hj⟩ := hg
    obtain ⟨f0, f1, f2, f3, f4, f5⟩ := hf it (List.mem_singleton_self it)
    obtain ⟨low, es', ep', raw, hdt, hs2, ent⟩ := frz_raw J hd
    obtain ⟨rfl, rfl⟩ := dict_one hod hdt
    obtain ⟨en, hen, hkey, hval⟩ := ent j xs[j] (List.getElem?_eq_getElem hj)
    have hlt : j < es'.size := by rw [hs2]; exact hj
    refine wpAny_pyNext_keys_item_raw st raw hlt fun h' st' sb => ?_
    have eg : es'[j] = en := by
      rw [Array.getElem?_eq_getElem hlt] at hen
      exact Option.some.inj hen
    rw [eg, hkey]
    have J2 : Inv Y ps σ1 H1 { s1 with heap := h' } := J.turned (t' := s1.toks) (fun c oc hc2 e1 => (sb.2 c hc2).trans e1) f0 f1 f3 f4 f5
    obtain ⟨oi, e1, e2, e3⟩ := id st'
    refine ⟨_, rfl, go_of (s := { s1 with heap := h' }) e1 e2 e3 (by decide) ⟨.ref (xs[j]).2.1, H1, J2, rfl, ⟨rfl, xs[j], List.getElem?_eq_getElem hj, rfl⟩, st', fun c hc2 => ?_⟩⟩
    rw [List.mem_singleton.mp hc2]
    exact f0
  done := by
    intro Y hP hw hK hc j ps s1 σ1 H1 E1 J hf st hg
    subst hP hw hK
    obtain ⟨hd, hj⟩ := hg
    obtain ⟨f0, f1, f2, f3, f4, f5⟩ := hf it (List.mem_singleton_self it)
    obtain ⟨low, es', ep', raw, hdt, hs2, ent⟩ := frz_raw J hd
    obtain ⟨rfl, rfl⟩ := dict_one hod hdt
    exact wpAny_pyNext_keys_end_raw (J.ok.hd hc) st raw (by rw [hs2]; exact hj) fun h' eb => ⟨rfl, J.turned (t' := s1.toks) (fun c oc hc2 e1 => eb c oc hc2 e1) f0 f1 f3 f4 f5⟩
  self := fun A j s1 Q E1 st hq => wpAny_pyIter_keyiter st hq
theorem turn_P {elts : List Expr} {kk : Nat} {tpos : Pos} (it : Addr) (hod : o.data = .dict es ep) (hsz : es.size = xs.length) : Turn P w K (.Tuple elts kk tpos) (ItP P w d o xs) [it] it (fun j h => ∃ ok ov, IsItemIter h it d j es.size ep ok ov) where
  mem := List.mem_singleton_self it
  obj := fun j h st c hc => by
    have ec : c = it := List.mem_singleton.mp hc
    obtain ⟨ok, ov, e1⟩ := st
    exact ⟨_, by rw [ec]; exact e1, fun v z => by cases z⟩
  keep := fun j h h' st k => let ⟨ok, ov, e1⟩ := st; ⟨ok, ov, k it (List.mem_singleton_self it) _ e1⟩
  item := by
    intro Y hP hw hK hc j ps s1 σ1 H1 E1 J hf st hg
    subst hP hw hK
    obtain ⟨hd, hj⟩ := hg
    obtain ⟨low, es', ep', raw, hdt, hs2, ent⟩ := frz_raw J hd
    obtain ⟨rfl, rfl⟩ := dict_one hod hdt
    obtain ⟨en, hen, hkey, hval⟩ := ent j xs[j] (List.getElem?_eq_getElem hj)
    have hlt : j < es'.size := by rw [hs2]; exact hj
    obtain ⟨ok, ov, he⟩ := st
    have hil : it < s1.heap.objs.size := Heap.lt_size he
    refine wpAny_pyNext_items_item_raw he raw hlt fun h' ho hT hz hk => ?_
    have eg : es'[j] = en := by
      rw [Array.getElem?_eq_getElem hlt] at hen
      exact Option.some.inj hen
    rw [eg, hkey] at ho hT
    refine ⟨_, rfl, wpAny_letOwnedTupleGo_items (s := { s1 with heap := h' }) ho fun h2 he2 sb => ?_⟩
    have hT2 : h2.get? s1.heap.objs.size = some { cls := .type "tuple", data := .seq #[.ref (xs[j]).2.1, en.val] } := (sb.2 _ (Nat.ne_of_gt hil)).trans hT
    have nw : ObjOk Y.prog Y.w (upd H1 s1.heap.objs.size (.tup [.ref (xs[j]).2.1, (xs[j]).2.2])) h2 s1.heap.objs.size (.tup [.ref (xs[j]).2.1, (xs[j]).2.2]) :=
      ⟨(show 2 ≤ sizeLine by decide), [.ref (xs[j]).2.1, en.val], .cons rfl (.cons hval .nil), ⟨_, hT2, rfl, _, rfl⟩⟩
    have J2 := J.turnedNew (t' := s1.toks) (ch := [it]) (h' := h2) (fun c oc hb e1 => (sb.2 c (fun z => hb (List.mem_singleton.mpr z))).trans (hk c oc (fun z => hb (List.mem_singleton.mpr z)) e1)) hf (Nat.le_refl _) nw
    refine ⟨.ref s1.heap.objs.size, _, J2, rfl, ⟨_, xs[j], List.getElem?_eq_getElem hj, rfl, J.hok.fresh (Nat.le_refl _), rfl⟩, ⟨_, _, he2⟩, fun c hc2 => ?_⟩
    rw [List.mem_singleton.mp hc2, upd_ne (Nat.ne_of_lt hil)]
    exact (hf it (List.mem_singleton_self it)).1
  done := by
    intro Y hP hw hK hc j ps s1 σ1 H1 E1 J hf st hg
    subst hP hw hK
    obtain ⟨hd, hj⟩ := hg
    obtain ⟨f0, f1, f2, f3, f4, f5⟩ := hf it (List.mem_singleton_self it)
    obtain ⟨low, es', ep', raw, hdt, hs2, ent⟩ := frz_raw J hd
    obtain ⟨rfl, rfl⟩ := dict_one hod hdt
    obtain ⟨ok, ov, he⟩ := st
    exact wpAny_pyNext_items_end_raw (J.ok.hd hc) he raw (by rw [hs2]; exact hj) fun h' eb => ⟨rfl, J.turned (t' := s1.toks) (fun c oc hc2 e1 => eb c oc hc2 e1) f0 f1 f3 f4 f5⟩
  self := fun A j s1 Q E1 st hq => let ⟨_, _, e1⟩ := st; wpAny_pyIter_itemiter e1 hq
def iN (P : Program) (w : World) (td : TE) : TI := fun σ H R => td σ H fun x H1 => ∃ d o xs, x = .ref d ∧ H1 d = some (.frz o (dctO P w d xs)) ∧ R (ItN P w d o xs) H1
def iP (P : Program) (w : World) (td : TE) : TI := fun σ H R => td σ H fun x H1 => ∃ d o xs, x = .ref d ∧ H1 d = some (.frz o (dctO P w d xs)) ∧ R (ItP P w d o xs) H1
theorem pi_N {e : Expr} {td : TE} (he : PE X e td) : PI X tg e (iN X.prog X.w td) := by
  constructor
  intro ps s1 σ1 H1 R J hw
  refine thn (he.run ps s1 σ1 H1 _ J hw) fun u s2 hu => ?_
  obtain ⟨x, H2, J2, rx, d, o, xs, ex, hd, q⟩ := hu
  subst ex
  obtain rfl : u = Value.ref d := rx
  obtain ⟨low, es, ep, raw, hdt, hsz, _⟩ := frz_raw J2 hd
  exact wpAny_pyIter_dict_raw low raw (pi_one (tk := s2.toks) J2 _ (turn_N _ hdt hsz) ⟨_, Heap.get?_push_size _ rfl, rfl, rfl⟩ q)
theorem pi_P {e : Expr} {td : TE} {elts : List Expr} {kk : Nat} {tpos apos cpos : Pos} (he : PE X e td) (hbase : attributeBase e "items" X.env (eval e X.env) = eval e X.env := by rfl) (hline : (apos.endLine == cpos.line) = true := by rfl) :
    PI X (.Tuple elts kk tpos) (.Call (.Attribute e "items" apos) [] [] cpos) (iP X.prog X.w td) := by
  constructor
  intro ps s1 σ1 H1 R J hw
  refine wpAny_Call_method (T := "dict") (id := "dict.items") hbase rfl hline F.plainAttrs_dict F.slot_dict_items F.type_dict_items ?_
  refine thn (he.run ps s1 σ1 H1 _ J hw) fun u s2 hu => ?_
  obtain ⟨x, H2, J2, rx, d, o, xs, ex, hd, q⟩ := hu
  subst ex
  obtain rfl : u = Value.ref d := rx
  obtain ⟨low, es, ep, raw, hdt, hsz, _⟩ := frz_raw J2 hd
  obtain ⟨od, hod, hxd, hdd⟩ := id raw
  refine ⟨raw.typeIs, fun c z => by cases z; exact ⟨od, hod, hxd.2.1⟩, ?_⟩
  have J3 : Inv X ps σ1 H2 { s2 with heap := s2.heap.push { cls := .type "dict_items", data := .fields #[.ref d] } } := J2.kept (t' := s2.toks) fun c oc z => Heap.get?_push_of_some _ z
  have fin : wpAny (model X.prog X.w) X.A (pyIter (.ref s2.heap.objs.size)) (PIE X ps σ1 (.Tuple elts kk tpos) R) X.xe { s2 with heap := s2.heap.push { cls := .type "dict_items", data := .fields #[.ref d] } } := by
    refine wpAny_pyIter_items_raw (d := d) ⟨_, Heap.get?_push_size _ rfl, rfl, rfl⟩ (raw.at fun oc z => Heap.get?_push_of_some _ z) ?_
    exact pi_one (tk := s2.toks) J3 _ (turn_P _ hdt hsz) ⟨.none, .none, Heap.get?_push_size _ rfl⟩ q
  show wpAny _ _ (callWith cpos (.builtin "dict.items") [.ref d] [] []) _ X.xe s2
  exact method_meetsIn F.slot_dict_items F.entry_dict_items rfl (PySem.evalArgs_none ⟨rfl, raw.typeIs, F.args_dict_items_1 _, _, meets_dict_items_raw d low, ⟨es, ep, raw⟩, fin⟩)
/-- list(d) -/
def rNList (P : Program) (w : World) : List V → Hp → VK → Prop := fun vs H Q => ∃ d xs, vs = [.ref d] ∧ Rd H d (dctO P w d xs) ∧ ∀ p, H p = none → Q (.ref p) (upd H p (.lst (xs.map fun x => .ref x.2.1)))
theorem refs_vals : ∀ {xs : List Ent} {us : List Value}, us.length = xs.length → (∀ (j : Nat) (v : Value), us[j]? = some v → ∃ x : Ent, xs[j]? = some x ∧ v = .ref x.2.1) → Vals (xs.map fun x => V.ref x.2.1) us
  | [], [], _, _ => .nil
  | x :: xs, u :: us, hl, h => by
    obtain ⟨y, e1, e2⟩ := h 0 u rfl
    have e3 : x = y := Option.some.inj e1
    subst e3
    exact .cons e2 (refs_vals (by simpa using hl) fun j v e => by
      obtain ⟨y, e1, e2⟩ := h (j + 1) v (by simpa using e)
      exact ⟨y, by simpa using e1, e2⟩)
  | [], _ :: _, hl, _ => by simp at hl
  | _ :: _, [], hl, _ => by simp at hl
theorem rd_raw {xs : List Ent} (J : Inv X pins σ H s) (h : Rd H d (dctO X.prog X.w d xs)) : (d == sysModules) = false ∧ xs.length ≤ sizeLine ∧ ∃ es ep, s.heap.DictRaw d es ep ∧ es.size = xs.length ∧
    ∀ (acc : Array Value), PySem.ItemsOf (fun i v => ∃ hi : i < es.size, v = es[i].key) acc es.size → Vals (xs.map fun x => V.ref x.2.1) acc.toList := by
  have x : DctP X.prog X.w d xs s.heap := (show ObjOk X.prog X.w H s.heap d (dctO X.prog X.w d xs) from h.ok J.hok).1
  obtain ⟨ys, r, o', es, ep, h1, h2, h3, h4⟩ := x.ex
  have hsz : es.size = xs.length := by
    have e1 : es.size = ys.length := by rw [← Array.length_toList, h4, List.length_map]
    have e2 : xs.length = ys.length := Paired.length r
    omega
  refine ⟨x.low, x.len, es, ep, ⟨o', h1, h2, h3⟩, hsz, fun acc hacc => ?_⟩
  refine refs_vals (by rw [Array.length_toList, hacc.1, hsz]) fun j v e => ?_
  obtain ⟨hi, ev⟩ := hacc.2 j v (by rw [← Array.getElem?_toList]; exact e)
  have hj : j < xs.length := by rw [← hsz]; exact hi
  obtain ⟨q, hq, e1, e2, e3⟩ := paired_get r (List.getElem?_eq_getElem hj)
  refine ⟨xs[j], List.getElem?_eq_getElem hj, ?_⟩
  have e5 : es[j]? = some (entryOfKey (nestedKind X.prog X.w) q) := by rw [← Array.getElem?_toList, h4, List.getElem?_map, hq]; rfl
  rw [Array.getElem?_eq_getElem hi] at e5
  rw [ev, Option.some.inj e5]
  show Value.ref q.2.1 = _
  rw [e2]
theorem cr_nlist (hc : X.calm = true) : CallR X (.type "list") (rNList X.prog X.w) := by
  intro ps s1 σ1 H1 vs us Q J r q
  obtain ⟨d, xs, ev, hd, q⟩ := q
  subst ev
  obtain ⟨u, eu, ru⟩ := vals1 r
  subst eu
  cases ru
  obtain ⟨low, hlen, es, ep, raw, hsz, fin⟩ := rd_raw J hd
  refine PySem.W.kdl_call (KdlSrc.rawDict (es := es) (ep := ep) low) (J.ok.hd hc) raw (by rw [hsz]; exact hlen) fun h' tk acc c2 hk hD hacc => ?_
  have nw : ObjOk X.prog X.w (upd H1 s1.heap.objs.size (.lst (xs.map fun x => V.ref x.2.1))) h' s1.heap.objs.size (.lst (xs.map fun x => V.ref x.2.1)) :=
    ⟨by rw [List.length_map]; exact hlen, acc.toList, c2, fin acc hacc, by rw [Array.toArray_toList]; exact hD⟩
  exact ⟨.ref _, _, J.laid (t' := tk) hk (Nat.le_refl _) nw, rfl, q _ (J.hok.fresh (Nat.le_refl _))⟩
end
end K14

/-! W3: enumerate(tuple), enumerate(dict with int keys). -/
namespace K14
open PySem PySem.Spec PyProof.Rows L2
/-! ### what the iterator of a dict's keys hands on -/
section
variable {prog : Program} {w : World} {A : Around} {E : Value → Shared → Prop} {s : Shared}
theorem next_key {it d : Addr} {j ep : Nat} {es : Array DictEntry} {Q : Value → Shared → Prop} (hit : s.heap.IsKeyIter it d j es.size ep) (hm : s.heap.DictRaw d es ep) (hlt : j < es.size)
    (hQ : ∀ h', h'.IsKeyIter it d (j + 1) es.size ep → Heap.SameBut it s.heap h' → Q es[j].key { s with heap := h' }) : wpAny (model prog w) A (Builtin.SmallTypes.nextOf (.ref it)) Q E s := by
  obtain ⟨oi, g1, g2, g3⟩ := id hit
  obtain ⟨od, d1, d2, d3⟩ := id hm
  have own : Builtin.Dict_items.ownsTuple "dict_keyiterator" = false := by decide
  have up : (s.heap.update it (Obj.mapFields (·.setIfInBounds 1 (rawInt ((j : Int) + 1))))).IsKeyIter it d (j + 1) es.size ep := by
    refine ⟨_, Heap.get?_update_self _ g1 (Obj.isFreed_of_fields (Obj.data_mapFields g3 _)), (Obj.cls_mapFields ..).trans g2, ?_⟩
    rw [Obj.data_mapFields g3]
    simp [rawInt]
  unfold Builtin.SmallTypes.nextOf
  have body : wpAny (model prog w) A (Builtin.SmallTypes.nextOf (.ref it)) Q E s := by
    unfold Builtin.SmallTypes.nextOf
    refine wpAny_bind (wpAny_callSpecial?_slot (name := Str.ofString "__next__") hit.typeIs F.slot_dict_keyiterator_next (wpAny_call_entry F.slot_dict_keyiterator_next hit.typeIs F.entry_dict_keyiterator_next ?_ (F.args_dict_keyiterator_next_1 _)))
    refine wpAny_bind (wpAny_pure (wpAny_bind (wpAny_bind ?_)))
    first | refine wpAny_bind (wpAny_typeNameOfWhole_keyiter hit.typeIs (wpAny_pure ?_)) | refine wpAny_bind (wpAny_typeNameOf_keyiter hit.typeIs (wpAny_pure ?_))
    refine wpAny_bind (wpAny_fieldsOf g1 g3 ?_)
    simp only [own, Bool.false_eq_true, if_false]
    show wpAny _ _ (if (Value.ref d == Value.none) = true then _ else _) _ _ s
    rw [if_neg (show ¬ ((Value.ref d == Value.none) = true) from Bool.false_ne_true)]
    refine wpAny_bind (wpAny_pure (wpAny_bind (wpAny_dictEntries d1 d3 ?_)))
    rw [if_neg (by simp)]
    refine wpAny_bind (wpAny_pure (wpAny_bind (wpAny_dictEpoch d1 d3 ?_)))
    rw [if_neg (by simp)]
    refine wpAny_pure ?_
    simp only [show ¬ ((j : Int) < 0) from by omega, if_false, Int.toNat_natCast, Array.getElem?_eq_getElem hlt]
    refine wpAny_bind ?_
    first | refine wpAny_bind (wpAny_typeNameOfWhole_keyiter hit.typeIs (wpAny_pure ?_)) | refine wpAny_bind (wpAny_typeNameOf_keyiter hit.typeIs (wpAny_pure ?_))
    refine wpAny_bind (wpAny_isOneOf_keyiter hit.typeIs ?_)
    show wpAny _ _ (setField (.ref it) 1 (rawInt ((j : Int) + 1)) >>= _) _ _ s
    refine wpAny_bind (wpAny_setField g1 g3 (by simp) (wpAny_bind (wpAny_holding ?_)))
    refine wpAny_bind (wpAny_isOneOf_keyiter (s := { s with heap := s.heap.update it (Obj.mapFields (·.setIfInBounds 1 (rawInt ((j : Int) + 1)))) }) up.typeIs ?_)
    show wpAny _ _ (pure es[j].key) _ _ _
    exact wpAny_pure (wpAny_pure ⟨_, rfl, wpAny_pure (hQ _ up (Heap.SameBut.update ..))⟩)
  unfold Builtin.SmallTypes.nextOf at body
  exact body
theorem next_key_stop {it d : Addr} {j ep : Nat} {es : Array DictEntry} {Q : Value → Shared → Prop} (hh : A.handled = none) (hit : s.heap.IsKeyIter it d j es.size ep) (hm : s.heap.DictRaw d es ep) (hge : es.size ≤ j)
    (hE : ∀ h' e, Heap.ExtBut it s.heap h' → (∃ o, h'.get? e = some o ∧ o.cls = .type "StopIteration") → E (.ref e) { s with heap := h' }) : wpAny (model prog w) A (Builtin.SmallTypes.nextOf (.ref it)) Q E s := by
  obtain ⟨oi, g1, g2, g3⟩ := id hit
  obtain ⟨od, d1, d2, d3⟩ := id hm
  have own : Builtin.Dict_items.ownsTuple "dict_keyiterator" = false := by decide
  unfold Builtin.SmallTypes.nextOf
  refine wpAny_bind (wpAny_callSpecial?_slot (name := Str.ofString "__next__") hit.typeIs F.slot_dict_keyiterator_next (wpAny_call_entry F.slot_dict_keyiterator_next hit.typeIs F.entry_dict_keyiterator_next ?_ (F.args_dict_keyiterator_next_1 _)))
  refine wpAny_bind (wpAny_pure (wpAny_bind (wpAny_bind ?_)))
  first | refine wpAny_bind (wpAny_typeNameOfWhole_keyiter hit.typeIs (wpAny_pure ?_)) | refine wpAny_bind (wpAny_typeNameOf_keyiter hit.typeIs (wpAny_pure ?_))
  refine wpAny_bind (wpAny_fieldsOf g1 g3 ?_)
  simp only [own, Bool.false_eq_true, if_false]
  show wpAny _ _ (if (Value.ref d == Value.none) = true then _ else _) _ _ s
  rw [if_neg (show ¬ ((Value.ref d == Value.none) = true) from Bool.false_ne_true)]
  refine wpAny_bind (wpAny_pure (wpAny_bind (wpAny_dictEntries d1 d3 ?_)))
  rw [if_neg (by simp)]
  refine wpAny_bind (wpAny_pure (wpAny_bind (wpAny_dictEpoch d1 d3 ?_)))
  rw [if_neg (by simp)]
  refine wpAny_pure ?_
  simp only [show ¬ ((j : Int) < 0) from by omega, if_false, Int.toNat_natCast, Array.getElem?_eq_none hge]
  refine wpAny_bind ?_
  first | refine wpAny_bind (wpAny_typeNameOfWhole_keyiter hit.typeIs (wpAny_pure ?_)) | refine wpAny_bind (wpAny_typeNameOf_keyiter hit.typeIs (wpAny_pure ?_))
  show wpAny _ _ (setField (.ref it) 0 .none >>= _) _ _ s
  refine wpAny_bind (wpAny_setField g1 g3 (by simp) ?_)
  show wpAny _ _ (newExc (.type "StopIteration") [] >>= _) _ _ _
  refine wpAny_bind ?_
  simp only [newExc, newTuple]
  refine wpAny_bind (wpAny_newObj_type ?_ (by size_fits))
  refine wpAny_bind (m := firstArgMember _ _) (wpAny_of_eq (a := Value.none) (by first | rfl | (simp only [firstArgMember]; rfl)) (wpAny_newObj_type ?_ (by size_fits)))
  simp only [raiseNew]
  refine wpAny_bind (wpAny_handled ?_)
  first | rw [show A.in1.handled = none from hh] | rw [hh]
  exact wpAny_bind (wpAny_pure (wpAny_throw (hE _ _ (((Heap.SameBut.update ..).extBut.push _).push _) ⟨_, Heap.get?_push_size _ rfl, rfl⟩)))
theorem draws_keys (hh : A.handled = none) (it d : Addr) (hne : d ≠ it) (es : Array DictEntry) (ep : Nat) :
    Draws prog w A it [it, d] es.size (fun i v => ∃ hi : i < es.size, v = es[i].key) (fun i h => h.IsKeyIter it d i es.size ep ∧ h.DictRaw d es ep) where
  live := fun _ _ st => let ⟨o, ho, _⟩ := st.1; ⟨o, ho⟩
  frame := fun _ _ _ st hk => ⟨st.1.at fun o e => hk it (by simp) o e, st.2.at fun o e => hk d (by simp) o e⟩
  item := fun i s1 Q E1 hi st hQ => next_key st.1 st.2 hi fun h' st' sb => hQ _ h' s1.toks ⟨hi, rfl⟩ ⟨st', st.2.at fun o e => (sb.2 d hne).trans e⟩ sb
  done := fun s1 Q E1 st hE => next_key_stop hh st.1 st.2 (Nat.le_refl _) hE
theorem begins_dict (d : Addr) (low : (d == sysModules) = false) (es : Array DictEntry) (ep : Nat) : Begins (.ref d) { cls := .type "dict_keyiterator", data := .fields #[.ref d, .int 0 0, .int es.size 0, .int ep 0] } fun h => h.DictRaw d es ep where
  iter := fun prog w A E s Q hl h => wpAny_pyIter_dict_raw low hl h
  keeps := fun h h' x hk => x.at fun o e => hk d o e
  free := rfl
end
/-! ### enumerate(v) -/
set_option maxHeartbeats 4000000 in
theorem meets_enum1 {v : Value} {o : Obj} {H : Heap → Prop} (B : Begins v o H) :
    Meets (Builtin.«enumerate.__new__» ⟨[.type "enumerate", v], []⟩) (fun _ R s => H s.heap ∧
      R (.ok (.ret (.ref (s.heap.push o).objs.size))) { s with heap := (s.heap.push o).push { cls := .type "enumerate", data := .fields #[.none, .bool false, .ref s.heap.objs.size, rawInt 0, .none, .none] } }) := by
  refine .of_wp fun prog w A R s hs => ?_
  obtain ⟨hp, g, d, tk, os⟩ := s
  obtain ⟨h1, hR⟩ := hs
  have hsub := sub_enumerate
  have qi : ∀ {A2 : Around} {E2 : Value → Shared → Prop} {Q2 : Value → Shared → Prop}, Q2 (.ref hp.objs.size) ⟨hp.push o, g, d, tk, os⟩ → wpAny (model prog w) A2 (pyIter v) Q2 E2 ⟨hp, g, d, tk, os⟩ :=
    fun z => B.iter prog w _ _ ⟨hp, g, d, tk, os⟩ _ h1 z
  wp_walk using qi
  refine wpAny_stack_any fun st => wpAny_pure ?_
  split
  · rename_i c _ _ _ _ _
    cases (c == Value.type "enumerate")
    · wp_walk using qi
      exact ⟨_, rfl, hR⟩
    · wp_walk using qi
      exact ⟨_, rfl, hR⟩
  · wp_walk using qi
    exact ⟨_, rfl, hR⟩
theorem call_enum1 {prog : Program} {w : World} {A : Around} {E : Value → Shared → Prop} {s : Shared} {v : Value} {o : Obj} {H : Heap → Prop} {Q : Value → Shared → Prop} (B : Begins v o H) (h1 : H s.heap)
    (hQ : ∀ h', IsEnum h' (s.heap.objs.size + 1) s.heap.objs.size 0 .none → h'.get? s.heap.objs.size = some o → (∀ b o, s.heap.get? b = some o → h'.get? b = some o) → Q (.ref (s.heap.objs.size + 1)) { s with heap := h' }) :
    wpAny (model prog w) A (call (.type "enumerate") [v]) Q E s := by
  refine callType_new F.called_enumerate (by decide) (F.typeCall_enumerate_1 _) (F.newCall_enumerate_1 _) (fun obj => F.args_object_init_2 obj _) F.entry_enumerate_new (meets_enum1 B) ⟨h1, ?_⟩
  have hz : (s.heap.push o).objs.size = s.heap.objs.size + 1 := Heap.size_push ..
  have he := Heap.get?_push_size (s.heap.push o) (o := { cls := .type "enumerate", data := .fields #[.none, .bool false, .ref s.heap.objs.size, rawInt 0, .none, .none] }) rfl
  rw [hz] at he
  show _ ∧ _
  rw [hz]
  exact ⟨⟨_, he, rfl⟩, hQ _ he (Heap.get?_push_of_some _ (Heap.get?_push_size _ B.free)) fun b ob x => Heap.get?_push_of_some _ (Heap.get?_push_of_some _ x)⟩
/-- a new pair (i, y) at each turn, y by Y -/
def ItE (n : Nat) (G : Hp → Prop) (Y : Nat → V) : It := ⟨fun j H => G H ∧ j < n, fun j H x H' => ∃ T, x = .ref T ∧ H T = none ∧ H' = upd H T (.tup [.int (j : Nat), Y j]), fun j H => G H ∧ j = n⟩
theorem walk_E {n : Nat} {G : Hp → Prop} {Y : Nat → V} : Walk (ItE n G Y) n G (fun j H x H' => ∃ T, x = .ref T ∧ H T = none ∧ H' = upd H T (.tup [.int (j : Nat), Y j])) :=
  ⟨fun _ _ hj q => ⟨q, hj⟩, fun _ q => ⟨q, rfl⟩, fun _ _ _ _ _ _ y => y⟩
section
variable {P : Program} {w : World} {K : PySem.W.Frag}
/-- the turns of enumerate over an iterator told by Draws: what it draws (Pv), its own object at it, the walked thing at src (not the iterator's) -/
theorem turn_E {elts : List Expr} {kk : Nat} {tpos : Pos} {e it : Addr} {n : Nat} {G : Hp → Prop} {Y : Nat → V} {St : Nat → Heap → Prop}
    (hne : e ≠ it)
    (hobj : ∀ j h, St j h → ∃ o, h.get? it = some o ∧ ∀ v, o.data ≠ .cell v)
    (hkeep : ∀ j h h', St j h → (∀ o, h.get? it = some o → h'.get? it = some o) → St j h')
    (hdr : ∀ (X : Cx) (ps : List (Addr × Obj)) (σ : L2.St) (H : Hp) (s : Shared), X.prog = P → X.w = w → X.K = K → X.calm = true → Inv X ps σ H s → G H → (∀ b ∈ [e, it], H b = none) → (∃ c old, IsEnum s.heap e it c old) → (∃ j, St j s.heap) →
      ∃ (fp : List Addr) (Pd : Nat → Value → Prop) (S : Nat → Heap → Prop), Draws P w X.A.in1 it fp n Pd S ∧ e ∉ fp ∧ (∀ j h, (∀ b o, s.heap.get? b = some o → b ≠ e → b ≠ it → h.get? b = some o) → (S j h ↔ St j h)) ∧ ∀ j v, j < n → Pd j v → L2.RelV (Y j) v) :
    Turn P w K (.Tuple elts kk tpos) (ItE n G Y) [e, it] e (fun j h => (∃ old, IsEnum h e it ((j : Nat) : Int) old) ∧ St j h) where
  mem := List.mem_cons_self
  obj := fun j h st c hc => by
    obtain ⟨⟨old, he⟩, st⟩ := st
    rcases List.mem_cons.mp hc with z | z
    · exact ⟨_, by rw [z]; exact he, fun v q => by cases q⟩
    · rw [List.mem_singleton.mp z]
      exact hobj j h st
  keep := fun j h h' st k => by
    obtain ⟨⟨old, he⟩, st⟩ := st
    exact ⟨⟨old, k e List.mem_cons_self _ he⟩, hkeep j h h' st fun o q => k it (by simp) o q⟩
  item := by
    intro X hP hw hK hc j ps s σ H E J hf st hg
    obtain ⟨⟨old, he⟩, st⟩ := st
    obtain ⟨hG, hj⟩ := hg
    obtain ⟨fp, Pd, S, D, hef, iff, rel⟩ := hdr X ps σ H s hP hw hK hc J hG (fun b hb => (hf b hb).1) ⟨_, _, he⟩ ⟨_, st⟩
    subst hP hw hK
    have st1 : S j s.heap := (iff j s.heap fun b o q _ _ => q).mpr st
    have hel : e < s.heap.objs.size := Heap.lt_size he
    have hil : it < s.heap.objs.size := by
      obtain ⟨o, q⟩ := D.live _ _ st1
      exact Heap.lt_size q
    refine wpAny_pyNext_enum_itemC D he st1 hj hne hef fun x h' tk hx ho st' hT hsz hk => ?_
    refine ⟨_, rfl, wpAny_letOwnedTupleGo_enum (s := { s with heap := h', toks := tk + 1 }) ho fun h2 he2 sb => ?_⟩
    have rx := rel j x hj hx
    have hT2 : h2.get? s.heap.objs.size = some { cls := .type "tuple", data := .seq #[.int j tk, x] } := (sb.2 _ (Nat.ne_of_gt hel)).trans hT
    have nw : ObjOk X.prog X.w (upd H s.heap.objs.size (.tup [.int (j : Nat), Y j])) h2 s.heap.objs.size (.tup [.int (j : Nat), Y j]) :=
      ⟨(show 2 ≤ sizeLine by decide), [.int j tk, x], .cons ⟨_, rfl⟩ (.cons rx .nil), ⟨_, hT2, rfl, _, rfl⟩⟩
    have kp : ∀ b o, s.heap.get? b = some o → b ≠ e → b ≠ it → h2.get? b = some o := fun b o q n1 n2 => (sb.2 b n1).trans (hk b o n1 n2 q)
    have J2 := J.turnedNew (t' := tk + 1) (ch := [e, it]) (h' := h2) (fun c oc hb q => kp c oc q (fun z => hb (by rw [z]; exact List.mem_cons_self)) (fun z => hb (by rw [z]; simp))) hf (Nat.le_refl _) nw
    refine ⟨.ref s.heap.objs.size, _, J2, rfl, ⟨_, rfl, J.hok.fresh (Nat.le_refl _), rfl⟩, ⟨⟨x, ?_⟩, ?_⟩, fun c hc2 => ?_⟩
    · have e1 : ((j + 1 : Nat) : Int) = (j : Int) + 1 := by omega
      rw [e1]; exact he2
    · have st2 : S (j + 1) h2 := D.frame _ _ _ st' fun b hb o q => (sb.2 b fun z => hef (z ▸ hb)).trans q
      exact (iff (j + 1) h2 kp).mp st2
    · have hlt : c < s.heap.objs.size := by
        rcases List.mem_cons.mp hc2 with z | z
        · rw [z]; exact hel
        · rw [List.mem_singleton.mp z]; exact hil
      rw [upd_ne (Nat.ne_of_lt hlt)]
      exact (hf c hc2).1
  done := by
    intro X hP hw hK hc j ps s σ H E J hf st hg
    obtain ⟨⟨old, he⟩, st⟩ := st
    obtain ⟨hG, hj⟩ := hg
    obtain ⟨fp, Pd, S, D, hef, iff, rel⟩ := hdr X ps σ H s hP hw hK hc J hG (fun b hb => (hf b hb).1) ⟨_, _, he⟩ ⟨_, st⟩
    subst hP hw hK
    subst hj
    have st1 : S j s.heap := (iff j s.heap fun b o q _ _ => q).mpr st
    obtain ⟨f0, f1, f2, f3, f4, f5⟩ := hf it (by simp)
    exact wpAny_pyNext_enum_endD D he st1 fun h' eb => ⟨rfl, J.turned (t' := s.toks) (fun c oc hc2 e1 => eb c oc hc2 e1) f0 f1 f3 f4 f5⟩
  self := fun A j s Q E st hq => let ⟨⟨_, he⟩, _⟩ := st; wpAny_pyIter_enum he hq
theorem turn_ET {elts : List Expr} {kk : Nat} {tpos : Pos} {e it a : Addr} {xs : List V} (hne : e ≠ it) :
    Turn P w K (.Tuple elts kk tpos) (ItE xs.length (fun H => SqT K H a xs) (fun j => xs.getD j .non)) [e, it] e (fun j h => (∃ old, IsEnum h e it ((j : Nat) : Int) old) ∧ h.IsTupleIter it a j) := by
  refine turn_E hne (fun j h st => ?_) (fun j h h' st k => st.at k) fun X ps σ H s hP hw hK hc J hG hnone he hst => ?_
  · obtain ⟨o, e1, _, e3⟩ := st
    exact ⟨o, e1, fun v z => by rw [e3] at z; cases z⟩
  · subst hP hw hK
    obtain ⟨its, rv, pt, hz⟩ := J.tuple hG
    obtain ⟨ot, t1, t2, tn, t3⟩ := id pt
    obtain ⟨c0, old0, he⟩ := he
    obtain ⟨j0, oi, i1, i2, i3⟩ := hst
    have ne1 : a ≠ it := fun z => by
      subst z
      rw [t1] at i1
      cases i1
      rw [t2] at i2
      injection i2 with i2
      exact absurd i2 (by decide)
    have ne2 : a ≠ e := fun z => by
      subst z
      have he' : s.heap.get? a = some _ := he
      rw [t1] at he'
      cases he'
      injection t2 with t2
      exact absurd t2 (by decide)
    have e0 : xs.length = its.toArray.size := by rw [List.size_toArray]; exact rv.length
    refine ⟨[it, a], _, _, by rw [e0]; exact Draws.tuple (A := X.A.in1) (by rw [show X.A.in1.handled = X.A.handled from rfl]; exact J.ok.hd hc) it a ne1 its.toArray, fun hm => ?_, fun j h kp => ?_, fun j v hj hv => ?_⟩
    · rcases List.mem_cons.mp hm with z | z
      · exact hne z
      · exact ne2 (List.mem_singleton.mp z).symm
    · exact ⟨fun z => z.1, fun z => ⟨z, ot, kp a ot t1 ne2 ne1, t2, tn, t3⟩⟩
    · have hv' : its[j]? = some v := by simpa using hv
      obtain ⟨u, hu, ru⟩ := rv.get (List.getElem?_eq_getElem hj)
      rw [hv'] at hu
      cases hu
      have ex : xs.getD j .non = xs[j] := by simp [List.getD, List.getElem?_eq_getElem hj]
      rw [ex]
      exact ru
/-- what the j-th key is -/
def keyAt (kvs : List (Key × V)) (j : Nat) : V := (kvs[j]?.map fun p => kV p.1).getD .non
theorem turn_EK {elts : List Expr} {kk : Nat} {tpos : Pos} {e it d : Addr} {o : Obj} {kvs : List (Key × V)} {es : Array DictEntry} {ep : Nat} (hne : e ≠ it) (hod : o.data = .dict es ep) (hsz : es.size = kvs.length) :
    Turn P w K (.Tuple elts kk tpos) (ItE kvs.length (fun H => H d = some (.frz o (.dK kvs))) (keyAt kvs)) [e, it] e (fun j h => (∃ old, IsEnum h e it ((j : Nat) : Int) old) ∧ h.IsKeyIter it d j es.size ep) := by
  refine turn_E hne (fun j h st => ?_) (fun j h h' st k => st.at k) fun X ps σ H s hP hw hK hc J hG hnone he hst => ?_
  · obtain ⟨oi, e1, _, e3⟩ := st
    exact ⟨oi, e1, fun v z => by rw [e3] at z; cases z⟩
  · subst hP hw hK
    obtain ⟨low, hgd, hx, es', ep', vs, hdt, hs2, kv, hm⟩ := J.frzK hG
    obtain ⟨rfl, rfl⟩ := dict_one hod hdt
    have ne1 : d ≠ it := fun z => by
      have q := hnone it (by simp)
      rw [← z, hG] at q; cases q
    have ne2 : d ≠ e := fun z => by
      have q := hnone e (by simp)
      rw [← z, hG] at q; cases q
    refine ⟨[it, d], _, _, by rw [← hsz]; exact draws_keys (A := X.A.in1) (by rw [show X.A.in1.handled = X.A.handled from rfl]; exact J.ok.hd hc) it d ne1 es' ep', fun hm2 => ?_, fun j h kp => ?_, fun j v hj hv => ?_⟩
    · rcases List.mem_cons.mp hm2 with z | z
      · exact hne z
      · exact ne2 (List.mem_singleton.mp z).symm
    · exact ⟨fun z => z.1, fun z => ⟨z, o, kp d o hgd ne2 ne1, hx, hdt⟩⟩
    · obtain ⟨hi, ev⟩ := hv
      obtain ⟨o2, es2, m1, m2, m3, m4⟩ := hm
      rw [hgd] at m1
      cases m1
      obtain ⟨rfl, _⟩ := dict_one hdt m3
      obtain ⟨p, hp⟩ : ∃ p, kvs[j]? = some p := ⟨kvs[j], List.getElem?_eq_getElem hj⟩
      obtain ⟨u, hu, ru⟩ := kv_get kv (k := p.1) (v := p.2) hp
      have q := m4.2.1.get? (e := es2[j]) (i := j) (by simp [hi]) hu
      unfold keyAt
      rw [hp, ev]
      exact relV_key q.1
end
/-! ### the rules -/
section
variable {X : Cx}
def iET (K : PySem.W.Frag) (ta : TA) : TI := fun σ H R => ta σ H fun vs H1 => ∃ a xs, vs = [.ref a] ∧ SqT K H1 a xs ∧ R (ItE xs.length (fun H => SqT K H a xs) (fun j => xs.getD j .non)) H1
def iEK (ta : TA) : TI := fun σ H R => ta σ H fun vs H1 => ∃ d o kvs, vs = [.ref d] ∧ H1 d = some (.frz o (.dK kvs)) ∧ R (ItE kvs.length (fun H => H d = some (.frz o (.dK kvs))) (keyAt kvs)) H1
theorem enum_fp {ps : List (Addr × Obj)} {σ : L2.St} {H : Hp} {s : Shared} (J : Inv X ps σ H s) : ∀ b ∈ [s.heap.objs.size + 1, s.heap.objs.size], FpOk X ps H b := fun b hb => by
  have hle : s.heap.objs.size ≤ b := by
    rcases List.mem_cons.mp hb with z | z
    · rw [z]; exact Nat.le_succ _
    · rw [List.mem_singleton.mp z]; exact Nat.le_refl _
  exact J.fpOk hle (J.hok.fresh hle)
theorem pi_ET {e : Expr} {ta : TA} {p pos tpos : Pos} {elts : List Expr} {kk : Nat} (hg : Gl X "enumerate") (hm : X.mg "enumerate" = none) (ha : PA X [e] ta) (hs : starEach [e] X.env = [(false, eval e X.env)] := by rfl) :
    PI X (.Tuple elts kk tpos) (.Call (.Name "enumerate" p) [e] [] pos) (iET X.K ta) := by
  constructor
  intro ps s σ H R J hw
  refine Call_ (ld_blt J hg hm boot_enumerate (PyProof.Rows.callWith_type1 (thn (ha.run pos ps s σ H _ J hw) fun us s1 hu => ?_) hs rfl))
  obtain ⟨vs, H1, J1, r1, a, xs, ev, hq, q⟩ := hu
  subst ev
  obtain ⟨u, eu, ru⟩ := vals1 r1
  subst eu
  cases ru
  obtain ⟨its, rv, pt, hz⟩ := J1.tuple hq
  refine call_enum1 (begins_tuple a its.toArray) (show s1.heap.IsTuple a its.toArray from pt) fun h' he hit hk => wpAny_pyIter_enum he ?_
  have J2 : Inv X ps σ H1 { s1 with heap := h' } := J1.kept (t' := s1.toks) hk
  exact ⟨s1.heap.objs.size + 1, [s1.heap.objs.size + 1, s1.heap.objs.size], _, _, H1, rfl, J2, turn_ET (a := a) (Nat.succ_ne_self _), ⟨⟨.none, he⟩, _, hit, rfl, rfl⟩, enum_fp J1, q⟩
theorem pi_EK {e : Expr} {ta : TA} {p pos tpos : Pos} {elts : List Expr} {kk : Nat} (hg : Gl X "enumerate") (hm : X.mg "enumerate" = none) (ha : PA X [e] ta) (hs : starEach [e] X.env = [(false, eval e X.env)] := by rfl) :
    PI X (.Tuple elts kk tpos) (.Call (.Name "enumerate" p) [e] [] pos) (iEK ta) := by
  constructor
  intro ps s σ H R J hw
  refine Call_ (ld_blt J hg hm boot_enumerate (PyProof.Rows.callWith_type1 (thn (ha.run pos ps s σ H _ J hw) fun us s1 hu => ?_) hs rfl))
  obtain ⟨vs, H1, J1, r1, d, o, kvs, ev, hq, q⟩ := hu
  subst ev
  obtain ⟨u, eu, ru⟩ := vals1 r1
  subst eu
  cases ru
  obtain ⟨low, hgd, hx, es, ep, ws, hdt, hsz, _, _⟩ := J1.frzK hq
  refine call_enum1 (begins_dict d low es ep) ⟨o, hgd, hx, hdt⟩ fun h' he hit hk => wpAny_pyIter_enum he ?_
  have J2 : Inv X ps σ H1 { s1 with heap := h' } := J1.kept (t' := s1.toks) hk
  exact ⟨s1.heap.objs.size + 1, [s1.heap.objs.size + 1, s1.heap.objs.size], _, _, H1, rfl, J2, turn_EK (d := d) (Nat.succ_ne_self _) hdt hsz, ⟨⟨.none, he⟩, _, hit, rfl, rfl⟩, enum_fp J1, q⟩
end
end K14

set_option maxHeartbeats 4000000
/-! W4: == [], set(ints), sorted(dict with nested keys), {(a, b): v}. -/
namespace K14
open PySem PySem.Spec PyProof.Rows L2
section
variable {X : Cx}
/-! ### a list against the empty one -/
def rNil (K : PySem.W.Frag) (g : Bool → Bool) : R2 := fun x y H Q => ∃ l xs b, x = .ref l ∧ y = .ref b ∧ SqL K H l xs ∧ SqL K H b [] ∧ Q (.bl (g xs.isEmpty)) H
theorem op_nenil {k : Nat} (hr : Room k X.A) : OpR X (compareOp .NotEq) (rNil X.K fun b => !b) := by
  intro ps s σ H x y v u Q J rx ry hq
  obtain ⟨l, xs, b, ex, ey, h1, h2, q⟩ := hq
  subst ex ey
  cases rx
  cases ry
  obtain ⟨its, rv, p1, _⟩ := J.list h1
  obtain ⟨its2, rv2, p2, _⟩ := J.list h2
  cases rv2
  have hu : X.A.units < cLine := hr.units0
  cases rv with
  | nil => exact SeqAt.RcNeAt.lists (e := fun _ => true) p1.isList p2.isList rfl hu (fun j h1 _ => absurd h1 (Nat.not_lt_zero j)) X.prog X.w X.xe _ ⟨.bl false, H, J, rfl, q⟩
  | cons r t => exact SeqAt.RcNeAt.lists_lengths p1.isList p2.isList (by simp) hu X.prog X.w X.xe _ ⟨.bl true, H, J, rfl, q⟩
theorem op_eqnil {k : Nat} (hr : Room k X.A) : OpR X (compareOp .Eq) (rNil X.K fun b => b) := by
  intro ps s σ H x y v u Q J rx ry hq
  obtain ⟨l, xs, b, ex, ey, h1, h2, q⟩ := hq
  subst ex ey
  cases rx
  cases ry
  obtain ⟨its, rv, p1, _⟩ := J.list h1
  obtain ⟨its2, rv2, p2, _⟩ := J.list h2
  cases rv2
  have hu : X.A.units < cLine := hr.units0
  cases rv with
  | nil => exact SeqAt.eq_listAt (e := fun _ => true) p1.isList p2.isList rfl hu (fun j h1 _ => absurd h1 (Nat.not_lt_zero j)) ⟨.bl true, H, J, rfl, q⟩
  | cons r t => exact SeqAt.eq_list_lengthsAt p1.isList p2.isList (by simp) hu ⟨.bl false, H, J, rfl, q⟩
/-! ### sorted(d), d a dict with nested keys that are alike: a new list of as many things -/
def rNSort (P : Program) (w : World) (K : PySem.W.Frag) : List V → Hp → VK → Prop := fun vs H Q => ∃ d xs, vs = [.ref d] ∧ Rd H d (dctO P w d xs) ∧ KeysAt K H xs ∧
  (∀ x ∈ xs, ∀ y ∈ xs, PySem.W.alike (NestedKey.data x.1) (NestedKey.data y.1) = true) ∧ (∀ x ∈ xs, ∃ k ks, x.1 = .tup (k :: ks)) ∧ ∀ p ys, H p = none → Q (.ref p) (upd H p (.lst ys))
theorem backs : ∀ {us : List Value}, (∀ u ∈ us, ∃ a, u = Value.ref a) → ∃ ys : List V, Vals ys us
  | [], _ => ⟨[], .nil⟩
  | u :: us, h => by
    obtain ⟨a, e⟩ := h u List.mem_cons_self
    obtain ⟨ys, r⟩ := backs fun x hx => h x (List.mem_cons_of_mem _ hx)
    exact ⟨.ref a :: ys, .cons e r⟩
theorem cr_nsort (hc : X.calm = true) {k : Nat} (hr : Room k X.A) : CallR X (.builtin "sorted") (rNSort X.prog X.w X.K) := by
  intro ps s σ H vs us Q J r hq
  obtain ⟨d, xs, ev, hd, hk, hal, htup, q⟩ := hq
  subst ev
  obtain ⟨u, eu, ru⟩ := vals1 r
  subst eu
  cases ru
  obtain ⟨low, hlen, es, ep, raw, hsz, fin⟩ := rd_raw J hd
  refine Calls.call_function_entry PyProof.Rows.kind_sorted PyProof.Rows.plain_sorted PyProof.Rows.entry_sorted (PyProof.Rows.args_sorted1 _) ?_
  unfold Builtin.«sorted»
  refine wpAny_bind (m := checkCount "sorted" 1 1 _) (wpAny_pure ?_)
  refine wpAny_bind (PySem.W.kdu_collect (A := X.A.in1) (KdlSrc.rawDict (es := es) (ep := ep) low) (J.ok.hd hc) raw (by rw [hsz]; exact hlen) fun h' tk acc kp hacc => ?_)
  have rv : Vals (xs.map fun x => V.ref x.2.1) acc.toList := fin acc hacc
  have hl : acc.toList.length = xs.length := by rw [← rv.length, List.length_map]
  have J1 : Inv X ps σ H { s with heap := h', toks := tk } := J.kept kp
  refine wpAny_bind (wpAny_newList ?_ (by rw [hl]; exact hlen))
  have hoL : (h'.push (seqObj "list" acc.toList.toArray 0)).get? h'.objs.size = some (seqObj "list" acc.toList.toArray 0) := Heap.get?_push_size _ rfl
  show wpAny _ _ _ _ _ { s with heap := h'.push (seqObj "list" acc.toList.toArray 0), toks := tk }
  have each : PySem.W.EachIs (fun v (x : Ent) => ∃ as, PySem.Reads h' v (NestedKey.data x.1) as) acc.toList xs := by
    have go : ∀ {l : List Ent} {us : List Value}, Vals (l.map fun x => V.ref x.2.1) us → KeysAt X.K H l → PySem.W.EachIs (fun v (x : Ent) => ∃ as, PySem.Reads h' v (NestedKey.data x.1) as) us l := by
      intro l
      induction l with
      | nil => intro us r _; cases r; exact .nil
      | cons x l ih =>
        intro us r hkl
        cases r with
        | cons r1 r2 => exact .cons (Dp.reads J1 _ _ _ (hkl x List.mem_cons_self).1.dp r1) (ih r2 fun y hy => hkl y (List.mem_cons_of_mem _ hy))
    exact go rv hk
  have each2 : PySem.W.EachIs (fun v (x : Ent) => ∃ as, PySem.Reads (PySem.W.sortingHeap (h'.push (seqObj "list" acc.toList.toArray 0)) h'.objs.size acc.toList) v (NestedKey.data x.1) as) acc.toList xs :=
    each.mono fun v x hx => by
      obtain ⟨as, z⟩ := hx
      exact ⟨as, PyProof.Rows.Reads.keeps (fun b o e => PySem.W.sortingHeap_old (Nat.ne_of_lt (Heap.lt_size e)) (Heap.get?_push_of_some _ e)) z⟩
  have allA : PySem.W.AllAlike (xs.map fun x => NestedKey.data x.1) := by
    intro d1 h1 d2 h2
    obtain ⟨x, hx, rfl⟩ := List.mem_map.mp h1
    obtain ⟨y, hy, rfl⟩ := List.mem_map.mp h2
    exact hal x hx y hy
  have srt : PySem.W.Sortable (xs.map fun x => NestedKey.data x.1) := by
    refine .inl fun d1 h1 => ?_
    obtain ⟨x, hx, rfl⟩ := List.mem_map.mp h1
    obtain ⟨k1, ks, ek⟩ := htup x hx
    rw [ek]
    exact ⟨k1.data, NestedKey.datas ks, rfl⟩
  refine wpAny_bind (wpAny_holding (wpAny_call_entry PyProof.Rows.slot_list_sort ⟨_, hoL, rfl⟩ PyProof.Rows.entry_list_sort
    (PySem.W.list_sort_vals (s := { s with heap := h'.push (seqObj "list" acc.toList.toArray 0), toks := tk }) hoL
      (PySem.W.SortsAt.data (s := { s with heap := PySem.W.sortingHeap (h'.push (seqObj "list" acc.toList.toArray 0)) h'.objs.size acc.toList, toks := tk }) (PySem.W.each_map (R := fun v dd => ∃ as, PySem.Reads _ v dd as) (fun x : Ent => NestedKey.data x.1) each2) allA srt fun d1 h1 => ?_)
      (by rw [hl]; exact hlen) ⟨_, rfl, ?_⟩)
    (PyProof.Rows.args_list_sort _)))
  · obtain ⟨x, hx, rfl⟩ := List.mem_map.mp h1
    have z := (hk x hx).2
    have hu := hr.un
    rw [data_depth]
    simp only [Around.in1_units]
    omega
  · generalize hO : PySem.W.sortVals _ false acc.toList acc.toList = out
    have hmem : ∀ v ∈ out, ∃ a, v = Value.ref a := by
      intro v hv
      rw [← hO] at hv
      unfold PySem.W.sortVals at hv
      obtain ⟨p, hp, rfl⟩ := List.mem_map.mp hv
      have hp2 := (List.mergeSort_perm _ _).mem_iff.mp hp
      obtain ⟨p1, p2⟩ := p
      have hp3 : p2 ∈ acc.toList := (List.of_mem_zip hp2).2
      have all : ∀ {l : List Ent} {us : List Value}, Vals (l.map fun x => V.ref x.2.1) us → ∀ v ∈ us, ∃ a, v = Value.ref a := by
        intro l
        induction l with
        | nil => intro us r v hv; cases r; cases hv
        | cons x l ih =>
          intro us r v hv
          cases r with
          | cons r1 r2 =>
            rcases List.mem_cons.mp hv with e | hv
            · exact ⟨_, e.trans r1⟩
            · exact ih r2 v hv
      exact all rv p2 hp3
    have hol : out.length = xs.length := by rw [← hO, PySem.W.sortVals_length false rfl, hl]
    obtain ⟨ys, ry⟩ := backs hmem
    obtain ⟨e', he'⟩ := PyProof.Rows.sortedHeap_at (vs := acc.toList) (out := out.toArray) hoL
    have nw : ObjOk X.prog X.w (upd H h'.objs.size (.lst ys)) (PyProof.Rows.sortedHeap (h'.push (seqObj "list" acc.toList.toArray 0)) h'.objs.size acc.toList out.toArray) h'.objs.size (.lst ys) :=
      ⟨by rw [ry.length, hol]; exact hlen, out, e', ry, he'⟩
    refine wpAny_pure ⟨_, rfl, .ref h'.objs.size, upd H h'.objs.size (.lst ys), J1.laid (t' := tk) (fun b u e => ?_) (Nat.le_refl _) nw, rfl, q _ ys (J1.hok.fresh (Nat.le_refl _))⟩
    have hb : b < h'.objs.size := Heap.lt_size e
    rw [PyProof.Rows.sortedHeap_old (Nat.ne_of_lt hb) (by rw [size_push']; exact Nat.lt_succ_of_lt hb)]
    exact Heap.get?_push_of_some _ e
/-! ### set(t), t a tuple of ints -/
def rSetT (K : PySem.W.Frag) (w : World) : List V → Hp → VK → Prop := fun vs H Q => ∃ (p : Addr) (ns : List Int), vs = [V.ref p] ∧ SqT K H p (ns.map V.int) ∧ ns.length ≤ 40 ∧
  ∀ (a : Addr) (c : Nat), c ≤ ns.length → H a = none → Q (.ref a) (upd H a (SetO w a (fun j => decide (j ∈ ns)) c))
theorem setR_ok {P : Program} {w : World} {H : Hp} {h : Heap} {a : Addr} {S : Int → Bool} {n : Nat} (R : SetR w h a S n) : ObjOk P w H h a (SetO w a S n) := by
  obtain ⟨o, es, ep, t, ho, _⟩ := id R
  exact ⟨R, ⟨o, ho⟩, fun h1 h2 x k => x.at k⟩
theorem cr_setT (hc : X.calm = true) : CallR X (.type "set") (rSetT X.K X.w) := by
  intro ps s σ H vs us Q J r hq
  obtain ⟨p, ns, ev, hs, h40, q⟩ := hq
  subst ev
  obtain ⟨u, eu, ru⟩ := vals1 r
  subst eu
  cases ru
  obtain ⟨its, rv, pt, hz⟩ := J.tuple hs
  have hi : IntsAre its.toArray.toList ns := ints_of_vals rv
  refine call_set_tupI ns (J.ok.hd hc) (show s.heap.IsTuple p its.toArray from pt) hi (by unfold scanBound; omega) fun h' tk c R hcn kp => ?_
  exact ⟨.ref s.heap.objs.size, _, J.laid (t' := tk) kp (Nat.le_refl _) (setR_ok R), rfl, q _ c hcn (J.hok.fresh (Nat.le_refl _))⟩
end
end K14

/-! W5: rules by data: items of tuples, new tuples, comprehensions, callees by their promises. -/
namespace K14
open PySem PySem.Spec PyProof.Rows L2
/-! ### data of a handler, a pair, a stand, a plan -/
def kk1 (p : Nat × List Nat) : NestedKey := .tup [nk p.1, lk p.2]
def hk (h : Hd) : NestedKey := .tup [lk h.labs, .tup (h.kinds.map kk1)]
def ok1 : Option Nat → NestedKey
  | none => .none
  | some g => nk g
def pk (q : Pr) : NestedKey := .tup [nk q.1, lk q.2.toList]
def sk (t : St4) : NestedKey := .tup [nk t.pl, nk t.s, nk t.o, lk t.held.toList]
def ek (x : Nat × St4) : NestedKey := .tup [nk x.1, sk x.2]
def plk (p : Pl) : NestedKey := .tup [lk p.ends, .tup (p.rows.map fun r => .tup (r.map ok1))]
section
variable {X : Cx} {a b e o i f : Expr} {ta tb te td ty tx : TE} {pos apos cpos : Pos}
/-! ### weaker readings -/
theorem wkE {t u : TE} (h : PE X e t) (m : ∀ σ H Q, u σ H Q → t σ H Q) : PE X e u := ⟨fun ps s σ H Q J w => h.run ps s σ H Q J (m σ H Q w)⟩
theorem wkO {op : Value → Value → Sem Value} {r u : R2} (h : OpR X op r) (m : ∀ x y H Q, u x y H Q → r x y H Q) : OpR X op u := fun ps s σ H x y v w Q J rx ry q => h ps s σ H x y v w Q J rx ry (m x y H Q q)
theorem wkC {g : Value} {r u : List V → Hp → VK → Prop} (h : CallR X g r) (m : ∀ vs H Q, u vs H Q → r vs H Q) : CallR X g u := fun ps s σ H vs us Q J r1 q => h ps s σ H vs us Q J r1 (m vs H Q q)
/-! ### an item of a tuple, by data -/
def rIxD (K : PySem.W.Frag) : R2 := fun x y H Q => ∃ ks j k, DV K H (.tup ks) x ∧ y = iv j ∧ ks[j]? = some k ∧ ∀ v, DV K H k v → Q v H
theorem ix_dat : IxR X (rIxD X.K) := by
  intro value slice ps s σ H x y v u Q J rx ry hq hs
  obtain ⟨ks, j, k, hx, ey, ek, q⟩ := hq
  obtain ⟨p, vs, ex, sq, ds⟩ := of_tup hx
  obtain ⟨z, ez, dz⟩ := ds.get ek
  exact ix_tup value slice ps s σ H x y v u Q J rx ry ⟨p, vs, j, z, ex, ey, sq, atI_nat ez, q z dz⟩ hs
/-- an item of a list -/
def rIxM (K : PySem.W.Frag) : R2 := fun x y H Q => ∃ p vs j v, x = .ref p ∧ SqL K H p vs ∧ y = iv j ∧ vs[j]? = some v ∧ Q v H
theorem ix_lst : IxR X (rIxM X.K) := by
  intro value slice ps s σ H x y v u Q J rx ry hq hs
  obtain ⟨p, vs, j, z, ex, sq, ey, ez, q⟩ := hq
  exact ix_list value slice ps s σ H x y v u Q J rx ry ⟨p, vs, j, z, ex, ey, sq, atI_nat ez, q⟩ hs
/-! ### a new tuple, by data -/
def tTupD (K : PySem.W.Frag) (t : TA) : TE := fun σ H Q => t σ H fun vs H1 => ∃ ks, DVs K H1 ks vs ∧ ks.length ≤ sizeLine ∧ ∀ v H2, Same H1 H2 → DV K H2 (.tup ks) v → Q v H2
theorem pe_tupD {es : List Expr} {k} {t : TA} (h : PA X es t) : PE X (.Tuple es k pos) (tTupD X.K t) := by
  refine ⟨fun ps s σ H Q J hq => ?_⟩
  refine wpAny_Tuple_spliced (thn (h.run pos ps s σ H _ J hq) fun us s1 hu => ?_)
  obtain ⟨vs, H1, J1, r, ks, ds, hl, q⟩ := hu
  have hz : vs.length ≤ sizeLine := by rw [ds.length]; exact hl
  have nw : H1 s1.heap.objs.size = none := J1.hok.fresh (Nat.le_refl _)
  have J2 : Inv X ps σ (upd H1 s1.heap.objs.size (.tup vs)) { s1 with heap := s1.heap.push { cls := .type "tuple", data := .seq us.toArray } } :=
    J1.laid (t' := s1.toks) (fun b u z => Heap.get?_push_of_some _ z) (Nat.le_refl _) ⟨hz, us, r, ⟨_, Heap.get?_push_size _ rfl, rfl, _, rfl⟩⟩
  exact ⟨by rw [← r.length]; exact hz, .ref _, _, J2, rfl, q _ _ (same_new nw) (dv_tup (SqT.of upd_same) (ds.tx (.same (same_new nw))))⟩
/-- tuple(xs), xs a list of data -/
def rTupOf (K : PySem.W.Frag) : List V → Hp → VK → Prop := fun vs H Q => ∃ p us ks, vs = [.ref p] ∧ SqL K H p us ∧ DVs K H ks us ∧ ∀ v H2, Same H H2 → DV K H2 (.tup ks) v → Q v H2
theorem cr_tupOf : CallR X (.type "tuple") (rTupOf X.K) := wkC call_tuple_of fun vs H Q hq => by
  obtain ⟨p, us, ks, ev, hs, ds, q⟩ := hq
  exact ⟨p, us, ev, .inl ⟨hs, fun l hl => q _ _ (same_new hl) (dv_tup (SqT.of upd_same) (ds.tx (.same (same_new hl))))⟩⟩
/-! ### an int in a tuple of ints -/
def rInT (K : PySem.W.Frag) (g : Bool → Bool) : R2 := fun x y H Q => ∃ n l, x = iv n ∧ DV K H (lk l) y ∧ Q (.bl (g (decide (n ∈ l)))) H
theorem flat_ivs : ∀ l : List Nat, (l.map iv).all flatV = true
  | [] => rfl
  | n :: l => by
    rw [List.map_cons, List.all_cons, flat_ivs l]
    rfl
theorem inV_ivs (n : Nat) : ∀ l : List Nat, inV (iv n) (l.map iv) = decide (n ∈ l)
  | [] => by simp [inV]
  | m :: l => by
    have h := inV_ivs n l
    unfold inV at h ⊢
    rw [List.map_cons, List.any_cons, h]
    have e : eqV (iv m) (iv n) = decide (n = m) := by
      show ((m : Int) == (n : Int)) = decide (n = m)
      by_cases q : n = m
      · subst q; simp
      · rw [decide_eq_false q]
        exact beq_eq_false_iff_ne.mpr fun z => q (Int.ofNat.inj z).symm
    rw [e]
    by_cases q : n = m
    · simp [q]
    · simp [q]
theorem op_inT : OpR X (compareOp .In) (rInT X.K fun c => c) := wkO op_in_seq fun x y H Q hq => by
  obtain ⟨n, l, ex, d, q⟩ := hq
  obtain ⟨p, ey, sq⟩ := of_lk d
  refine ⟨p, l.map iv, ey, .inr sq, by rw [ex]; rfl, flat_ivs l, ?_⟩
  rw [ex, inV_ivs]
  exact q
theorem op_notinT : OpR X (compareOp .NotIn) (rInT X.K fun c => !c) := wkO op_notIn_seq fun x y H Q hq => by
  obtain ⟨n, l, ex, d, q⟩ := hq
  obtain ⟨p, ey, sq⟩ := of_lk d
  refine ⟨p, l.map iv, ey, .inr sq, by rw [ex]; rfl, flat_ivs l, ?_⟩
  rw [ex, inV_ivs]
  exact q
/-! ### ints of Nat -/
theorem iv_inj {m n : Nat} (h : iv m = iv n) : m = n := by
  unfold iv at h
  injection h with h
  exact Int.ofNat.inj h
theorem iv_add (m n : Nat) : V.int ((m : Int) + (n : Int)) = iv (m + n) := by unfold iv; rw [Int.natCast_add]
/-! ### extend and + that only read the other list -/
def rExtS : V → List V → Hp → VK → Prop := fun x vs H Q => ∃ l b xs zs, x = .ref l ∧ vs = [.ref b] ∧ H l = some (.lst xs) ∧ Rd H b (.lst zs) ∧ xs.length + zs.length ≤ sizeLine ∧ Q .non (upd H l (.lst (xs ++ zs)))
theorem rd_lst {ps : List (Addr × Obj)} {σ : L2.St} {H : Hp} {s : Shared} {c : Addr} {zs : List V} (J : Inv X ps σ H s) (h : Rd H c (.lst zs)) :
    zs.length ≤ sizeLine ∧ ∃ (its : List Value) (n : Nat), Vals zs its ∧ zs.length = its.length ∧ s.heap.get? c = some { cls := .type "list", data := .seq its.toArray n } := by
  obtain ⟨z, its, n, r, q⟩ := h.ok J.hok
  exact ⟨z, its, n, r, r.length, q⟩
theorem mt_extS : MtM X "list.extend" rExtS := by
  intro ps s σ H x vs v us Q J rx rv hq
  obtain ⟨l, b, xs, zs, ex, ev, hl, hb, hz, q⟩ := hq
  subst ex ev
  cases rx
  obtain ⟨u, eu, ru⟩ := rv.one
  subst eu
  cases ru
  obtain ⟨z, its, n, r, n1, g1⟩ := J.lstM hl
  obtain ⟨z2, its2, n2, r2, m2, g2⟩ := rd_lst J hb
  have fits : its.toArray.size + its2.toArray.size ≤ sizeLine := by rw [List.size_toArray, List.size_toArray]; omega
  have short : ¬ (!its.toArray.isEmpty && Builtin.List.listTooLong (its.toArray.size + its2.toArray.size)) = true := by
    rw [notLongL fits, Bool.and_false]
    decide
  refine call_meets F.slot_list_extend ⟨_, g1, rfl⟩ F.entry_list_extend (F.args_list_extend_2 _ _) (AutoSeq1.list_extend_list_list_0 l its.toArray n b its2.toArray n2 short (by rw [List.size_toArray]; omega) (by omega)) ⟨g1, g2, ?_⟩
  exact ⟨.non, _, J.lset (its' := its ++ its2) hl g1 (by simp) (r.append r2) (by rw [List.length_append]; omega), rfl, q⟩
def rCatS : R2 := fun x y H Q => ∃ l b xs zs, x = .ref l ∧ y = .ref b ∧ Rd H l (.lst xs) ∧ Rd H b (.lst zs) ∧ xs.length + zs.length ≤ sizeLine ∧ ∀ p, H p = none → Q (.ref p) (upd H p (.lst (xs ++ zs)))
theorem op_catS : OpR X (binaryOp .Add) rCatS := by
  intro ps s σ H x y v u Q J rx ry hq
  obtain ⟨l, b, xs, zs, ex, ey, hl, hb, hz, q⟩ := hq
  subst ex ey
  cases rx
  cases ry
  obtain ⟨z, its, n, r, n1, g1⟩ := rd_lst J hl
  obtain ⟨z2, its2, n2, r2, m2, g2⟩ := rd_lst J hb
  refine PySem.P.add_list g1 g2 ?_ (by rw [List.size_toArray, List.size_toArray]; omega)
  rw [show its.toArray ++ its2.toArray = (its ++ its2).toArray by simp]
  exact ⟨.ref _, _, J.lnew (t' := s.toks) (r.append r2) (by rw [List.length_append]; omega), rfl, q _ J.fresh⟩
/-! ### {k: v}, k a tuple -/
def tNOne (P : Program) (w : World) (K : PySem.W.Frag) (tk tv : TE) : TE := fun σ H Q => ∀ p H', H p = none → (∀ c, c ≠ p → H' c = H c) → Same H H' → ND P w K H' p [] →
  tk σ H' fun x H1 => tv σ H1 fun y H2 => ND P w K H2 p [] ∧ ∃ ks, DV K H2 (.tup ks) x ∧ (NestedKey.tup ks).depth ≤ 8 ∧ ∀ H3, (∀ c, c ≠ p → H3 c = H2 c) → TX H2 H3 → ND P w K H3 p [(.tup ks, y)] → Q (.ref p) H3
theorem pe_none1 {k : Nat} (hr : Room k X.A) {tk tv : TE} {ke ve : Expr} (hk : PE X ke tk) (hv : PE X ve tv)
    (hsh : (evalEachOpt [some ke] X.env).zip ((evalEach [ve] X.env).map fun v => do let x ← v; standAt pos; pure x) = [(some (eval ke X.env), (do let x ← eval ve X.env; standAt pos; pure x))] := by rfl) : PE X (.Dict [some ke] [ve] pos) (tNOne X.prog X.w X.K tk tv) := by
  refine ⟨fun ps s σ H Q J hq => ?_⟩
  have nw := J.hok.fresh (Nat.le_refl s.heap.objs.size)
  have J2 := J.laid (a := s.heap.objs.size) (o := dctO X.prog X.w s.heap.objs.size []) (h' := s.heap.push { cls := .type "dict", data := .dict #[] }) (t' := s.toks) (fun _ _ z => Heap.get?_push_of_some _ z) (Nat.le_refl _) (dctP_ok (dct_empty J.big))
  have q0 := hq _ _ nw (fun c hc => upd_ne hc) (same_new nw) ⟨[], upd_same, rfl, fun x hx => nomatch hx⟩
  have e0 := dictDisplay_pairs [(eval ke X.env, (do let x ← eval ve X.env; standAt pos; pure x : Sem Value))] (by simp) (by simp)
  simp only [List.map_cons, List.map_nil] at e0
  rw [arm_eval_Dict, hsh, e0]
  refine wpAny_bind (wpAny_standAt (wpAny_bind (wpAny_subDictH (knd := nestedKind X.prog X.w) (by show X.A.units + 8 < cLine; have := un9 hr; omega) (by simp) ?_)))
  unfold evalPairs
  refine wpAny_bind (thn (hk.run ps _ σ _ _ J2 q0) fun u s1 hu => ?_)
  obtain ⟨x, H1, J1, rx, q1⟩ := hu
  refine wpAny_bind (wpAny_holding ?_)
  refine wpAny_bind (thn (hv.run ps s1 σ H1 _ J1 q1) fun v s2 hv2 => ?_)
  obtain ⟨y, H2, J3, ry, nd, ks, dx, hd, q2⟩ := hv2
  refine wpAny_bind (wpAny_standAt (wpAny_pure ?_))
  refine wpAny_bind (wpAny_holding ?_)
  unfold evalPairs
  refine wpAny_pure (wpAny_pure ?_)
  obtain ⟨xs, hH, ee, kk⟩ := nd
  have exs : xs = [] := by
    cases xs with
    | nil => rfl
    | cons z zs => exact nomatch ee
  subst exs
  obtain ⟨low, hlen, ys, pr, dd⟩ := ndr_raw J3 (.inl hH) kk
  cases pr
  obtain ⟨a, vs, ea, _, _⟩ := of_tup dx
  subst ea
  cases rx
  refine ⟨[(.tup ks, a, v)], ⟨rfl, rfl, ⟨DV.is J3 dx rfl, hd⟩, trivial⟩, dd, fun h' tk2 dk sb => wpAny_pure ?_⟩
  obtain ⟨q, es, ep, hq1, h2, h3, h4, h5, h6⟩ := id dk
  have t : TX H2 (upd H2 s.heap.objs.size (dctO X.prog X.w s.heap.objs.size [(.tup ks, a, y)])) := TX.mut (by rw [hH]; trivial)
  refine ⟨.ref _, _, d_write (t' := tk2) J3 (by rw [hH]; trivial) sb ⟨q, hq1⟩ (dctP_ok (xs := [(.tup ks, a, y)]) ⟨low, (by show 1 ≤ sizeLine; decide), (by simp), [(.tup ks, a, v)], .cons ⟨rfl, rfl, ry⟩ .nil, q, es, ep, hq1, h2, h3, h4⟩), rfl, ?_⟩
  refine q2 _ (fun c hc => upd_ne hc) t ⟨_, upd_same, rfl, fun z hz => ?_⟩
  have ez : z = (.tup ks, a, y) := by simpa using hz
  subst ez
  exact ⟨dx.tx t, hd⟩
/-! ### callees by their promises -/
structure Ok (P : Program) (w : World) (K : PySem.W.Frag) (mg : Str → Option Value) (base : Heap) (x : Str) (k : Nat) (ps : List Str) (sp : Sp) : Prop where
  ex : ∃ f fd, FnOk P w K mg base CX0 k f fd ps sp ∧ mg x = some (.ref f) ∧ PySem.W.keepIn K (.ref f) = true ∧ Binds K fd ps []
structure OkM (P : Program) (w : World) (K : PySem.W.Frag) (mg : Str → Option Value) (base : Heap) (C : Addr) (m : Str) (k : Nat) (ps : List Str) (sp : Sp) : Prop where
  ex : ∃ f fd, FnOk P w K mg base CX0 k f fd ps sp ∧ Meth K C m f ∧ Binds K fd ps []
def tCal (sp : Sp) (t : TA) : TE := fun σ H Q => t σ H fun vs H1 => sp vs H1 Q E0
def tCalM (C : Addr) (m : Str) (sp : Sp) (ta : TE) (t : TA) : TE := fun σ H Q => ta σ H fun x H1 => ∃ c dx fs, x = .ref c ∧ H1 c = some (.ins C dx fs) ∧ fs.lookup m = none ∧ t σ H1 fun vs H2 => sp (x :: vs) H2 Q E0
section
variable {k : Nat} {C : Addr} {ps : List Str} {sp : Sp} {x m : Str} {p : Pos} {es : List Expr} {t : TA}
theorem tCall_nil : tCall sp [] E0 t = tCal sp t := by
  unfold tCall tCal
  simp only [List.append_nil]
theorem tMeth_nil : tMeth C m sp [] E0 ta t = tCalM C m sp ta t := by
  unfold tMeth tCalM
  simp only [List.append_nil]
theorem pe_callO (G : Ok X.prog X.w X.K X.mg X.base x k ps sp) (hr : Room k X.A) (hg : Gl X x) (ha : PA X (e :: es) t) (hdb : (x == ("__debug__" : Str)) = false := by decide)
    (he : starEach (e :: es) X.env = (false, eval e X.env) :: starEach es X.env := by rfl) (hpl : (backTo pos (starEach es X.env)).any (·.1) = false := by rfl) : PE X (.Call (.Name x p) (e :: es) [] pos) (tCal sp t) := by
  obtain ⟨f, fd, F, hm, kp, b⟩ := G.ex
  rw [← tCall_nil]
  exact pe_call F hr hg hm kp b .nil pass0 ha hdb he hpl
theorem pe_methO {pl : Sem Bool} (ho : PE X o ta) (c : Cls X.K C) (G : OkM X.prog X.w X.K X.mg X.base C m k ps sp) (hr : Room k X.A) (ha : PA X (e :: es) t)
    (hst : starEach (e :: es) X.env = (false, eval e X.env) :: starEach es X.env := by rfl) (hpl : (backTo pos (starEach es X.env)).any (·.1) = false := by rfl)
    (ht : eval (.Call (.Attribute o m apos) (e :: es) [] pos) X.env = (do
      let ov ← eval o X.env
      standAt apos.atName
      let (f, first) ← holding [ov] (getMethod ov m pl)
      callWith pos f first (backTo pos (starEach (e :: es) X.env)) (backToKw pos (keywordEach [] X.env))) := by rfl) : PE X (.Call (.Attribute o m apos) (e :: es) [] pos) (tCalM C m sp ta t) := by
  obtain ⟨f, fd, F, hm, b⟩ := G.ex
  rw [← tMeth_nil]
  exact pe_meth ho c hm F hr b .nil pass0 ha hst hpl ht
end
end
/-! ### a comprehension that makes data -/
theorem lc_dat {K : PySem.W.Frag} {J : It} {n : Nat} {G : Hp → Prop} {Y : Nat → Hp → V → Hp → Prop} (w : Walk J n G Y) {g : TG} {tt : TT} {te : TE} {vs : List Nat} {σ : L2.St} {H1 : Hp} {D : Addr} {Qd : Hp → Prop}
    (f : Nat → Option NestedKey) (hD : H1 D = none) (hn : n < sizeLine) (hG : ∀ H, Same H1 H → G H)
    (hs : ∀ i x H H' (Nx : Hp → Prop), i < n → Same H1 H → Y i H x H' → (f i = none → ∀ H4, Same H H4 → Nx H4) →
      (∀ k y H4, f i = some k → Same H H4 → DV K H4 k y → ∃ acc, H4 D = some (.lst acc) ∧ acc.length < sizeLine ∧ Nx (upd H4 D (.lst (acc ++ [y])))) →
      g x (wipe σ vs) H' fun σ2 H2 => wipe σ2 vs = wipe σ vs ∧ tt σ2 H2 fun b H3 =>
        if b = true then te σ2 H3 fun y H4 => ∃ acc, H4 D = some (.lst acc) ∧ acc.length < sizeLine ∧ Nx (upd H4 D (.lst (acc ++ [y]))) else Nx H3)
    (hd : ∀ H us, Same H1 H → H D = some (.lst us) → DVs K H ((List.range n).filterMap f) us → Qd H) :
    ∃ W : Nat → Nat → Hp → Prop, (∃ m, W 0 m (upd H1 D (.lst []))) ∧ ∀ i m H, W i m H →
      (J.stop i H ∧ Qd H) ∨ (J.go i H ∧ ∃ Nx : Hp → Prop, (∀ H', Nx H' → ∃ m', m' < m ∧ W (i + 1) m' H') ∧ ∀ x H', J.yld i H x H' → g x (wipe σ vs) H' fun σ2 H2 => wipe σ2 vs = wipe σ vs ∧ tt σ2 H2 fun b H3 =>
        if b = true then te σ2 H3 fun y H4 => ∃ acc, H4 D = some (.lst acc) ∧ acc.length < sizeLine ∧ Nx (upd H4 D (.lst (acc ++ [y]))) else Nx H3) := by
  have len : ∀ i, ((List.range i).filterMap f).length ≤ i := fun i => by
    have := List.length_filterMap_le f (List.range i)
    rwa [List.length_range] at this
  refine lc_it w (fun i H => Same H1 H ∧ ∃ us, H D = some (.lst us) ∧ DVs K H ((List.range i).filterMap f) us) ⟨same_new hD, [], upd_same, dvs_nil⟩ (fun i H _ p => hG H p.1) (fun i x H H' hi p y => ?_) (fun H p => ?_)
  · obtain ⟨s1, us, hu, ds⟩ := p
    refine hs i x H H' _ hi s1 y (fun e H4 s4 => ⟨fun c o z => s4 _ _ (s1 _ _ z), us, s4 _ _ hu, ?_⟩) fun k v H4 e s4 dv => ⟨us, s4 _ _ hu, ?_, same_upd (fun c o z => s4 _ _ (s1 _ _ z)) hD, _, upd_same, ?_⟩
    · rw [List.range_succ, List.filterMap_append]
      simp only [List.filterMap_cons, List.filterMap_nil, e, List.append_nil]
      exact ds.tx (.same s4)
    · rw [ds.length]
      have := len i
      omega
    · rw [List.range_succ, List.filterMap_append]
      simp only [List.filterMap_cons, List.filterMap_nil, e]
      have t : TX H4 (upd H4 D (.lst (us ++ [v]))) := TX.lst (s4 _ _ hu)
      exact ((ds.tx (.same s4)).tx t).snoc (dv.tx t)
  · obtain ⟨s1, us, hu, ds⟩ := p
    exact hd H us s1 hu ds
end K14

set_option maxHeartbeats 0
namespace K14
open PySem PySem.Spec PyProof.Rows L2
def top (i : Nat) : Stmt := PySem.Challenge.pw_twicesafe_k14_whole_least_handlers_answe.main.body.getD i (.Pass ⟨0, 0, 0, 0⟩)
abbrev s_is_integer : Stmt := top 8
abbrev s_require_kind : Stmt := top 9
abbrev s_require_log : Stmt := top 10
abbrev s_require_state : Stmt := top 11
abbrev s_end_from : Stmt := top 12
abbrev s_state_behind : Stmt := top 13
abbrev s_first_logs : Stmt := top 14
abbrev s_reached_states : Stmt := top 15
abbrev s_first_log : Stmt := top 16
abbrev s_in_order : Stmt := top 18
abbrev s_alike_classes : Stmt := top 19
abbrev s_tell_apart : Stmt := top 20
abbrev s_with_two : Stmt := top 21
abbrev s_least_handler : Stmt := top 22
abbrev s_require_hold : Stmt := top 24
abbrev s_is_row : Stmt := top 26
abbrev s_are_ends : Stmt := top 27
abbrev s_plan_error : Stmt := top 28
abbrev s_is_plan : Stmt := top 29
abbrev m_init : Stmt := inClass (top 31) 0
abbrev m_sender_of : Stmt := inClass (top 31) 1
abbrev m_led : Stmt := inClass (top 31) 2
abbrev m_is_free : Stmt := inClass (top 31) 3
abbrev m_may_hold : Stmt := inClass (top 31) 4
abbrev m_with_one : Stmt := inClass (top 31) 5
abbrev m_ready_kinds : Stmt := inClass (top 31) 6
abbrev m_come_from : Stmt := inClass (top 31) 7
abbrev m_send_from : Stmt := inClass (top 31) 8
abbrev m_closed : Stmt := inClass (top 31) 9
abbrev m_sent_from : Stmt := inClass (top 31) 10
abbrev m_come_at : Stmt := inClass (top 31) 11
abbrev s_all_moves : Stmt := top 33
abbrev s_sources : Stmt := top 34
abbrev s_is_wrong : Stmt := top 35
abbrev s_needs_of : Stmt := top 36
abbrev s_near_ones : Stmt := top 37
abbrev s_first_wrong_log : Stmt := top 38
abbrev s_end_of : Stmt := top 40
abbrev s_pair_layers : Stmt := top 41
abbrev s_leads_to : Stmt := top 42
abbrev s_good_pairs : Stmt := top 43
abbrev s_good_layers : Stmt := top 44
abbrev s_held_kinds : Stmt := top 45
abbrev s_behind_event : Stmt := top 46
abbrev s_is_good : Stmt := top 47
abbrev s_held_step : Stmt := top 48
abbrev s_sent_step : Stmt := top 49
abbrev s_smallest_order : Stmt := top 50
abbrev s_unlike_states : Stmt := top 51
abbrev s_told_by : Stmt := top 52
abbrev s_find_wrong : Stmt := top 53
abbrev s_L_opened : Stmt := top 55
abbrev s_L_draw : Stmt := top 56
abbrev s_L_one : Stmt := top 57
abbrev s_L_kind : Stmt := top 58
abbrev s_L_handler : Stmt := top 59
abbrev s_L_plan : Stmt := top 60
abbrev s_L_log : Stmt := top 61
abbrev s_L_lead : Stmt := top 62
abbrev s_L_parted_right : Stmt := top 63
abbrev s_law : Stmt := top 64
end K14

set_option maxHeartbeats 4000000
/-! W6: the first defs. -/
namespace K14
open PySem PySem.Spec PyProof.Rows L2
abbrev FnP (K : PySem.W.Frag) (x q : Str) (st : Stmt) (f : Addr) (fd : FuncData) : Prop := FunD K x q (defArgs st) (defBody st) (defScope st) [] [] f fd
/-- what the top has left, of builtins, constants and the class -/
structure Txt (K : PySem.W.Frag) (mg : Str → Option Value) (C S : Addr) (tH tP : Tok) : Prop where
  z_len : mg "len" = none
  z_range : mg "range" = none
  z_sorted : mg "sorted" = none
  z_tuple : mg "tuple" = none
  z_list : mg "list" = none
  z_enumerate : mg "enumerate" = none
  z_zip : mg "zip" = none
  z_all : mg "all" = none
  z_any : mg "any" = none
  z_min : mg "min" = none
  z_dict : mg "dict" = none
  z_set : mg "set" = none
  z_isinstance : mg "isinstance" = none
  z_int : mg "int" = none
  z_bool : mg "bool" = none
  z_abs : mg "abs" = none
  cl : Cls K C
  n_handler : NoAttr K C "handler"
  n_hold : NoAttr K C "hold"
  n_orderly : NoAttr K C "orderly"
  n_kept : NoAttr K C "kept"
  g_Courier : mg "Courier" = some (.ref C)
  g_START : mg "START" = some (.ref S)
  d_START : ∀ H, DV K H (sk start4) (.ref S)
  g_MAX_HOLD : mg "MAX_HOLD" = some (.int 3 tH)
  g_MAX_PLACES : mg "MAX_PLACES" = some (.int 6 tP)
/-! ### readings by data -/
section
variable {X : Cx} {K : PySem.W.Frag}
/-- len of a tuple of data -/
def rLenD (K : PySem.W.Frag) : List V → Hp → VK → Prop := fun xs H Q => ∃ v ks, xs = [v] ∧ DV K H (.tup ks) v ∧ Q (iv ks.length) H
theorem cr_lenD : CallR X (.builtin "len") (rLenD X.K) := wkC call_len_seq fun vs H Q hq => by
  obtain ⟨v, ks, ev, d, q⟩ := hq
  obtain ⟨p, us, e, sq, ds⟩ := of_tup d
  refine ⟨p, us, by rw [ev, e], .inr sq, ?_⟩
  rw [ds.length]
  exact q
theorem hk_kind {h : Hd} {k : Nat} (hk' : k < h.K) : (h.kinds.map kk1)[k]? = some (kk1 (h.kinds.getD k (0, []))) := by
  rw [List.getElem?_map, List.getElem?_eq_getElem hk', getD_lt (l := h.kinds) hk']
  rfl
theorem lk_get {l : List Nat} {s : Nat} (hs : s < l.length) : (l.map nk)[s]? = some (nk (l.getD s 0)) := by
  rw [List.getElem?_map, List.getElem?_eq_getElem hs, getD_lt hs]
  rfl
theorem kind_rd {H : Hp} {h : Hd} {k s : Nat} {x : V} {Q : VK} (o : h.Ok) (d : DV K H (kk1 (h.kinds.getD k (0, []))) x) (hk' : k < h.K) (hs : s < h.n) (q : Q (iv (h.step k s)) H) : rIxD K x (.int 1) H fun x3 H3 => rIxD K x3 (iv s) H3 Q := by
  refine ⟨_, 1, _, d, rfl, rfl, fun v dv => ⟨_, s, _, dv, rfl, lk_get (by rw [show (h.kinds.getD k (0, [])).2 = h.tg k from rfl, (o.kind hk').1]; exact hs), fun u du => ?_⟩⟩
  rw [of_num du]
  exact q
theorem kinds_rd {H : Hp} {h : Hd} {k : Nat} {x : V} {Q : VK} (d : DV K H (hk h) x) (hk' : k < h.K) (q : ∀ v, DV K H (kk1 (h.kinds.getD k (0, []))) v → Q v H) : rIxD K x (.int 1) H fun x1 H1 => rIxD K x1 (iv k) H1 Q :=
  ⟨_, 1, _, d, rfl, rfl, fun v dv => ⟨_, k, _, dv, rfl, hk_kind hk', q⟩⟩
/-- what is left of h[1][k][1][s] once h is read -/
theorem step_rd {H : Hp} {h : Hd} {k s i j : Nat} {x : V} {σ : L2.St} {Q : VK} (o : h.Ok) (d : DV K H (hk h) x) (ei : σ[i]? = some (some (iv k))) (ej : σ[j]? = some (some (iv s))) (hk' : k < h.K) (hs : s < h.n) (q : Q (iv (h.step k s)) H) :
    rIxD K x (.int 1) H fun x1 H3 => ∃ v, σ[i]? = some (some v) ∧ rIxD K x1 v H3 fun x2 H5 => rIxD K x2 (.int 1) H5 fun x3 H7 => ∃ v, σ[j]? = some (some v) ∧ rIxD K x3 v H7 Q := by
  refine ⟨_, 1, _, d, rfl, rfl, fun v dv => ⟨_, ei, _, k, _, dv, rfl, hk_kind hk', fun u du => ?_⟩⟩
  refine ⟨_, 1, _, du, rfl, rfl, fun v2 dv2 => ⟨_, ej, _, s, _, dv2, rfl, lk_get (by rw [show (h.kinds.getD k (0, [])).2 = h.tg k from rfl, (o.kind hk').1]; exact hs), fun u du => ?_⟩⟩
  rw [of_num du]
  exact q
theorem run_take {h : Hd} {s i : Nat} {l : List Nat} (hi : i < l.length) : h.run s (l.take (i + 1)) = h.step l[i] (h.run s (l.take i)) := by
  rw [List.take_add_one, List.getElem?_eq_getElem hi]
  exact h.run_snoc s _ _
/-- an item of a walked tuple of ints -/
theorem of_iv {l : List Nat} {i : Nat} {x : V} (e : (l.map iv)[i]? = some x) : ∃ hi : i < l.length, x = iv l[i] := by
  rw [List.getElem?_map] at e
  cases q : l[i]? with
  | none => rw [q] at e; cases e
  | some n =>
    rw [q] at e
    obtain ⟨hi, en⟩ := List.getElem?_eq_some_iff.mp q
    exact ⟨hi, by rw [en]; exact (Option.some.inj e).symm⟩
end
section
variable {P : Program} {w : World} {K : PySem.W.Frag} {mg : Str → Option Value} {base : Heap} {C S : Addr} {tH tP : Tok} {f : Addr} {fd : FuncData}
/-! ### is_integer -/
theorem sc_is_integer : FnScope ["value", "low", "high"] ["value", "low", "high"] (defScope s_is_integer) := ⟨rfl, rfl, rfl, by decide +kernel, rfl, by decide +kernel, by decide +kernel⟩
def sp_is_integer : Sp := fun vs H Q _ => ∃ n lo hi : Int, vs = [.int n, .int lo, .int hi] ∧ lo ≤ n ∧ n ≤ hi ∧ Q (.bl true) H
theorem ok_is_integer (T : Txt K mg C S tH tP) (F : FnP K "is_integer" "is_integer" s_is_integer f fd) : FnOk P w K mg base CX0 1 f fd ["value", "low", "high"] sp_is_integer := by
  refine F.ok sc_is_integer (fun vs H Q E h => ?_) (fun cdv A outer s H vs Q E hr h => ⟨_, PSs.nox ((pss_one (ps_ret (pe_and (pe_callB call_isi (by rfl) T.z_isinstance (by decide +kernel) (pa_cons (pv 0) (pa_cons (pe_bltn (v := .ty "int") (u := .type "int") (by rfl) T.z_int (by decide +kernel) rfl) pa_nil))) (pe_and (pe_not (pe_callB call_isi (by rfl) T.z_isinstance (by decide +kernel) (pa_cons (pv 0) (pa_cons (pe_bltn (v := .ty "bool") (u := .type "bool") (by rfl) T.z_bool (by decide +kernel) rfl) pa_nil)))) (pe_one (pe_chain op_le op_le (pv 1) (pv 0) (pv 2)))))))), ?_⟩)
  · obtain ⟨n, lo, hi, rfl, _⟩ := h
    rfl
  · obtain ⟨n, lo, hi, rfl, h1, h2, q⟩ := h
    refine ⟨_, rfl, _, _, _, _, true, rfl, .ty _, .base (.int _), kit_ty (by decide +kernel), true, rfl, iteT ?_⟩
    refine ⟨_, rfl, _, _, _, _, false, rfl, .ty _, .base (.int _), kit_ty (by decide +kernel), false, rfl, true, rfl, iteT ?_⟩
    refine ⟨_, rfl, _, rfl, _, _, rfl, rfl, _, rfl, ?_⟩
    rw [decide_eq_true h1]
    refine iteT ⟨_, rfl, _, _, rfl, rfl, ?_⟩
    show Q (.bl (decide (n ≤ hi))) H
    rw [decide_eq_true h2]
    exact q
/-! ### require_kind, require_log, require_state -/
theorem sc_require_kind : FnScope ["handler", "index"] ["handler", "index"] (defScope s_require_kind) := ⟨rfl, rfl, rfl, by decide +kernel, rfl, by decide +kernel, by decide +kernel⟩
def sp_require_kind (K : PySem.W.Frag) : Sp := fun vs H Q _ => ∃ h k v, vs = [v, iv k] ∧ DV K H (hk h) v ∧ k < h.K ∧ Q .non H
theorem ok_require_kind (T : Txt K mg C S tH tP) (F : FnP K "require_kind" "require_kind" s_require_kind f fd) (g_is_integer : Ok P w K mg base "is_integer" 1 ["value", "low", "high"] sp_is_integer) : FnOk P w K mg base CX0 2 f fd ["handler", "index"] (sp_require_kind K) := by
  refine F.ok sc_require_kind (fun vs H Q E h => ?_) (fun cdv A outer s H vs Q E hr h => ⟨_, PSs.nox ((pss_one (ps_if (pt_not (pt_val (pe_callO g_is_integer (hr.mono (by decide)) rfl (pa_cons (pv 1) (pa_cons pe_int (pa_cons (pe_op op_sub (pe_callB cr_lenD (by rfl) T.z_len (by decide +kernel) (pa_cons (pe_ix ix_dat (pv 0) pe_int (fun _ _ => rfl)) pa_nil)) pe_int) pa_nil)))))) (pss_one ps_never) pss_nil))), ?_⟩)
  · obtain ⟨h, k, v, rfl, _⟩ := h
    rfl
  · obtain ⟨h, k, v, rfl, d, hk', q⟩ := h
    refine ⟨_, rfl, _, rfl, _, 1, _, d, rfl, rfl, fun u du => ⟨_, _, rfl, du, _, _, rfl, rfl, _, _, _, rfl, Int.natCast_nonneg _, ?_, true, rfl, iteF q⟩⟩
    rw [List.length_map]
    have : (k : Int) < (h.K : Int) := Int.ofNat_lt.mpr hk'
    show (k : Int) ≤ ((h.kinds.length : Nat) : Int) - 1
    have e : h.K = h.kinds.length := rfl
    omega
theorem sc_require_log : FnScope ["handler", "log", "index"] ["handler", "log"] (defScope s_require_log) := ⟨rfl, rfl, rfl, by decide +kernel, rfl, by decide +kernel, by decide +kernel⟩
def sp_require_log (K : PySem.W.Frag) : Sp := fun vs H Q _ => ∃ h l v u, vs = [v, u] ∧ DV K H (hk h) v ∧ DV K H (lk l) u ∧ (∀ k ∈ l, k < h.K) ∧ Q .non H
theorem ok_require_log (T : Txt K mg C S tH tP) (F : FnP K "require_log" "require_log" s_require_log f fd) (g_require_kind : Ok P w K mg base "require_kind" 2 ["handler", "index"] (sp_require_kind K)) : FnOk P w K mg base CX0 3 f fd ["handler", "log"] (sp_require_log K) := by
  refine F.ok sc_require_log (fun vs H Q E h => ?_) (fun cdv A outer s H vs Q E hr h => ⟨_, PSs.nox ((pss_one (ps_for PassesOwn.never rfl (pi_tup (pv 1)) (pg_name (i := 2) sc_require_log.nd rfl (.inl rfl))
    (pss_one (ps_expr (pe_callO g_require_kind (hr.mono (by decide)) rfl (pa_cons (pv 0) (pa_cons (pv 2) pa_nil)))))))), ?_⟩)
  · obtain ⟨h, l, v, u, rfl, _⟩ := h
    rfl
  · obtain ⟨h, l, v, u, rfl, d, dl, hl, q⟩ := h
    obtain ⟨a, rfl, sq⟩ := of_lk dl
    refine ⟨_, rfl, a, rfl, ⟨_, sq⟩, for_it walk_tup (fun i σ H' => H' = H ∧ ∃ y, σ = [some v, some (.ref a), y]) ⟨rfl, _, rfl⟩ (fun i σ H' _ p => by rw [p.1]; exact sq) (fun i x σ H1 H2 hi p y => ?_) (fun σ H1 p => ?_)⟩
    · obtain ⟨e1, y3, e2⟩ := p
      obtain ⟨e3, ex⟩ := y
      subst e1 e2 e3
      obtain ⟨hi', ex⟩ := of_iv ex
      subst ex
      exact ⟨_, rfl, _, rfl, h, _, v, rfl, d, hl _ (List.getElem_mem _), rfl, _, rfl⟩
    · obtain ⟨e1, y3, e2⟩ := p
      subst e1 e2
      exact q
theorem sc_require_state : FnScope ["handler", "state"] ["handler", "state"] (defScope s_require_state) := ⟨rfl, rfl, rfl, by decide +kernel, rfl, by decide +kernel, by decide +kernel⟩
def sp_require_state (K : PySem.W.Frag) : Sp := fun vs H Q _ => ∃ h s v, vs = [v, iv s] ∧ DV K H (hk h) v ∧ s < h.n ∧ Q .non H
theorem ok_require_state (T : Txt K mg C S tH tP) (F : FnP K "require_state" "require_state" s_require_state f fd) (g_is_integer : Ok P w K mg base "is_integer" 1 ["value", "low", "high"] sp_is_integer) : FnOk P w K mg base CX0 2 f fd ["handler", "state"] (sp_require_state K) := by
  refine F.ok sc_require_state (fun vs H Q E h => ?_) (fun cdv A outer s H vs Q E hr h => ⟨_, PSs.nox ((pss_one (ps_if (pt_not (pt_val (pe_callO g_is_integer (hr.mono (by decide)) rfl (pa_cons (pv 1) (pa_cons pe_int (pa_cons (pe_op op_sub (pe_callB cr_lenD (by rfl) T.z_len (by decide +kernel) (pa_cons (pe_ix ix_dat (pv 0) pe_int (fun _ _ => rfl)) pa_nil)) pe_int) pa_nil)))))) (pss_one ps_never) pss_nil))), ?_⟩)
  · obtain ⟨h, k, v, rfl, _⟩ := h
    rfl
  · obtain ⟨h, k, v, rfl, d, hk', q⟩ := h
    refine ⟨_, rfl, _, rfl, _, 0, _, d, rfl, rfl, fun u du => ⟨_, _, rfl, du, _, _, rfl, rfl, _, _, _, rfl, Int.natCast_nonneg _, ?_, true, rfl, iteF q⟩⟩
    rw [List.length_map]
    have : (k : Int) < (h.n : Int) := Int.ofNat_lt.mpr hk'
    show (k : Int) ≤ ((h.labs.length : Nat) : Int) - 1
    have e : h.n = h.labs.length := rfl
    omega
/-! ### end_from, state_behind -/
theorem sc_end_from : FnScope ["handler", "state", "log", "here", "index"] ["handler", "state", "log"] (defScope s_end_from) := ⟨rfl, rfl, rfl, by decide +kernel, rfl, by decide +kernel, by decide +kernel⟩
def sp_end_from (K : PySem.W.Frag) : Sp := fun vs H Q _ => ∃ h s l v u, vs = [v, iv s, u] ∧ h.Ok ∧ DV K H (hk h) v ∧ DV K H (lk l) u ∧ s < h.n ∧ (∀ k ∈ l, k < h.K) ∧ Q (iv (h.run s l)) H
theorem ok_end_from (T : Txt K mg C S tH tP) (F : FnP K "end_from" "end_from" s_end_from f fd) : FnOk P w K mg base CX0 1 f fd ["handler", "state", "log"] (sp_end_from K) := by
  refine F.ok sc_end_from (fun vs H Q E h => ?_) (fun cdv A outer s H vs Q E hr h => ⟨_, PSs.nox ((pss_cons (ps_set (i := 3) sc_end_from.nd rfl (.inl rfl) (pv 1))
  (pss_cons (ps_for PassesOwn.never rfl (pi_tup (pv 2)) (pg_name (i := 4) sc_end_from.nd rfl (.inl rfl))
    (pss_one (ps_set (i := 3) sc_end_from.nd rfl (.inl rfl) (pe_ix ix_dat (pe_ix ix_dat (pe_ix ix_dat (pe_ix ix_dat (pv 0) pe_int (fun _ _ => rfl)) (pv 4) (fun _ _ => rfl)) pe_int (fun _ _ => rfl)) (pv 3) (fun _ _ => rfl)))))
  (pss_one (ps_ret (pv 3)))))), ?_⟩)
  · obtain ⟨h, s, l, v, u, rfl, _⟩ := h
    rfl
  · obtain ⟨h, s, l, v, u, rfl, o, d, dl, hs, hl, q⟩ := h
    obtain ⟨a, rfl, sq⟩ := of_lk dl
    refine ⟨_, rfl, _, rfl, a, rfl, ⟨_, sq⟩, for_it walk_tup (fun i σ H' => H' = H ∧ ∃ y, σ = [some v, some (iv s), some (.ref a), some (iv (h.run s (l.take i))), y]) ⟨rfl, _, rfl⟩ (fun i σ H' _ p => by rw [p.1]; exact sq) (fun i x σ H1 H2 hi p y => ?_) (fun σ H1 p => ?_)⟩
    · obtain ⟨e1, y3, e2⟩ := p
      obtain ⟨e3, ex⟩ := y
      subst e1 e2 e3
      obtain ⟨hi', ex⟩ := of_iv ex
      subst ex
      refine ⟨_, rfl, step_rd o d rfl rfl (hl _ (List.getElem_mem _)) (h.run_lt o _ hs) ⟨rfl, some (iv l[i]), ?_⟩⟩
      rw [run_take hi']
      rfl
    · obtain ⟨e1, y3, e2⟩ := p
      subst e1 e2
      rw [List.length_map, List.take_length]
      exact ⟨_, rfl, q⟩
theorem sc_state_behind : FnScope ["handler", "log"] ["handler", "log"] (defScope s_state_behind) := ⟨rfl, rfl, rfl, by decide +kernel, rfl, by decide +kernel, by decide +kernel⟩
def sp_state_behind (K : PySem.W.Frag) : Sp := fun vs H Q _ => ∃ h l v u, vs = [v, u] ∧ h.Ok ∧ DV K H (hk h) v ∧ DV K H (lk l) u ∧ (∀ k ∈ l, k < h.K) ∧ Q (iv (h.run 0 l)) H
theorem ok_state_behind (T : Txt K mg C S tH tP) (F : FnP K "state_behind" "state_behind" s_state_behind f fd) (g_require_log : Ok P w K mg base "require_log" 3 ["handler", "log"] (sp_require_log K)) (g_end_from : Ok P w K mg base "end_from" 1 ["handler", "state", "log"] (sp_end_from K)) :
    FnOk P w K mg base CX0 4 f fd ["handler", "log"] (sp_state_behind K) := by
  refine F.ok sc_state_behind (fun vs H Q E h => ?_) (fun cdv A outer s H vs Q E hr h => ⟨_, PSs.nox ((pss_cons (ps_expr (pe_callO g_require_log (hr.mono (by decide)) rfl (pa_cons (pv 0) (pa_cons (pv 1) pa_nil))))
  (pss_one (ps_ret (pe_callO g_end_from (hr.mono (by decide)) rfl (pa_cons (pv 0) (pa_cons pe_int (pa_cons (pv 1) pa_nil)))))))), ?_⟩)
  · obtain ⟨h, l, v, u, rfl, _⟩ := h
    rfl
  · obtain ⟨h, l, v, u, rfl, o, d, dl, hl, q⟩ := h
    exact ⟨_, rfl, _, rfl, h, l, v, u, rfl, d, dl, hl, _, rfl, _, rfl, h, 0, l, v, u, rfl, o, d, dl, o.pos, hl, q⟩
end
end K14

/-! W7: in_order. -/
namespace K14
open PySem PySem.Spec PyProof.Rows L2
/-! ### a list or a tuple is walked -/
section
variable {X : Cx} {tg l : Expr} {tl : TE}
def iSeq (K : PySem.W.Frag) (tl : TE) : TI := fun σ H R => tl σ H fun x H1 => ∃ a xs H0, x = .ref a ∧ Same H0 H1 ∧ (SqL K H0 a xs ∨ SqT K H0 a xs) ∧
  ∀ (J : It) (G : Hp → Prop), Walk J xs.length G (YAt xs) → (∀ H', Same H0 H' → G H') → R J H1
theorem pi_seq (hl : PE X l tl) : PI X tg l (iSeq X.K tl) := by
  refine ⟨fun ps s σ H R J hq => ?_⟩
  refine thn (hl.run ps s σ H _ J hq) fun v s1 hv => ?_
  obtain ⟨x, H1, J1, r1, a, xs, H0, ex, s0, sq, q⟩ := hv
  subst ex
  cases r1
  have fp : ∀ b ∈ [s1.heap.objs.size], FpOk X ps H1 b := fun b hb => by
    rw [List.mem_singleton.mp hb]
    exact J1.fpOk (Nat.le_refl _) (J1.hok.fresh (Nat.le_refl _))
  rcases sq with sq | sq
  · obtain ⟨its, rv, p, hz⟩ := J1.list (s0.seq sq)
    refine wpAny_pyIter_list p.isList ?_
    exact ⟨s1.heap.objs.size, [s1.heap.objs.size], _, _, H1, rfl, J1.kept (t' := s1.toks) fun b o z => Heap.get?_push_of_some _ z, turn_list a _, ⟨_, Heap.get?_push_size _ rfl, rfl, rfl⟩, fp, q _ _ walk_list fun H' s => s.seq sq⟩
  · obtain ⟨its, rv, p, hz⟩ := J1.tuple (sqT_tx (.same s0) sq)
    refine wpAny_pyIter_tuple (show s1.heap.IsTuple a its.toArray from p) ?_
    exact ⟨s1.heap.objs.size, [s1.heap.objs.size], _, _, H1, rfl, J1.kept (t' := s1.toks) fun b o z => Heap.get?_push_of_some _ z, turn_tuple a _, ⟨_, Heap.get?_push_size _ rfl, rfl, rfl⟩, fp, q _ _ walk_tup fun H' s => sqT_tx (.same s) sq⟩
/-- the i-th datum -/
def YD (K : PySem.W.Frag) (ks : List NestedKey) : Nat → Hp → V → Hp → Prop := fun i H x H' => H' = H ∧ ∃ k, ks[i]? = some k ∧ DV K H k x
/-- a tuple of data is walked -/
def iTD (K : PySem.W.Frag) (tl : TE) : TI := fun σ H R => tl σ H fun x H1 => ∃ ks, DV K H1 (.tup ks) x ∧ ∀ J, Walk J ks.length (fun H => TX H1 H) (YD K ks) → R J H1
theorem pi_TD (hl : PE X l tl) : PI X tg l (iTD X.K tl) := by
  refine ⟨fun ps s σ H R J hq => ?_⟩
  refine thn (hl.run ps s σ H _ J hq) fun v s1 hv => ?_
  obtain ⟨x, H1, J1, r1, ks, d, q⟩ := hv
  obtain ⟨a, us, ex, sq, ds⟩ := of_tup d
  subst ex
  cases r1
  obtain ⟨its, rv, p, hz⟩ := J1.tuple sq
  refine wpAny_pyIter_tuple (show s1.heap.IsTuple a its.toArray from p) ?_
  refine ⟨s1.heap.objs.size, [s1.heap.objs.size], _, _, H1, rfl, J1.kept (t' := s1.toks) fun b o z => Heap.get?_push_of_some _ z, turn_tuple a _, ⟨_, Heap.get?_push_size _ rfl, rfl, rfl⟩, fun b hb => ?_, q _ ?_⟩
  · rw [List.mem_singleton.mp hb]
    exact J1.fpOk (Nat.le_refl _) (J1.hok.fresh (Nat.le_refl _))
  · rw [← ds.length]
    refine (walk_tup (K := X.K) (a := a) (xs := us)).mono (fun H2 t => sqT_tx t sq) fun i H2 y H3 hi t yy => ?_
    obtain ⟨e, ey⟩ := yy
    obtain ⟨k, ek, dk⟩ := (ds.tx t).getV ey
    exact ⟨e, k, ek, dk⟩
/-- a list of data is walked -/
def iLD (K : PySem.W.Frag) (tl : TE) : TI := fun σ H R => tl σ H fun x H1 => ∃ a us ks, x = .ref a ∧ SqL K H1 a us ∧ DVs K H1 ks us ∧ ∀ J, Walk J ks.length (fun H => SqL K H a us ∧ TX H1 H) (YD K ks) → R J H1
theorem pi_LD (hl : PE X l tl) : PI X tg l (iLD X.K tl) := by
  refine ⟨fun ps s σ H R J hq => ?_⟩
  refine thn (hl.run ps s σ H _ J hq) fun v s1 hv => ?_
  obtain ⟨x, H1, J1, r1, a, us, ks, ex, sq, ds, q⟩ := hv
  subst ex
  cases r1
  obtain ⟨its, rv, p, hz⟩ := J1.list sq
  refine wpAny_pyIter_list p.isList ?_
  refine ⟨s1.heap.objs.size, [s1.heap.objs.size], _, _, H1, rfl, J1.kept (t' := s1.toks) fun b o z => Heap.get?_push_of_some _ z, turn_list a _, ⟨_, Heap.get?_push_size _ rfl, rfl, rfl⟩, fun b hb => ?_, q _ ?_⟩
  · rw [List.mem_singleton.mp hb]
    exact J1.fpOk (Nat.le_refl _) (J1.hok.fresh (Nat.le_refl _))
  · rw [← ds.length]
    refine (walk_list (K := X.K) (a := a) (xs := us)).mono (fun H2 t => t.1) fun i H2 y H3 hi t yy => ?_
    obtain ⟨e, ey⟩ := yy
    obtain ⟨k, ek, dk⟩ := (ds.tx t.2).getV ey
    exact ⟨e, k, ek, dk⟩
/-- len of a dict whose keys are tuples -/
def rLenN (P : Program) (w : World) (K : PySem.W.Frag) : List V → Hp → VK → Prop := fun vs H Q => ∃ d kvs, vs = [.ref d] ∧ NDr P w K H d kvs ∧ Q (iv kvs.length) H
theorem call_lenN : CallR X (.builtin "len") (rLenN X.prog X.w X.K) := by
  intro ps s σ H vs us Q J r hq
  obtain ⟨d, kvs, ev, ⟨xs, hr, e, kk⟩, q⟩ := hq
  subst ev
  obtain ⟨u, eu, ru⟩ := vals1 r
  subst eu
  cases ru
  obtain ⟨low, hlen, ys, pr, dd⟩ := ndr_raw J hr kk
  have el : ys.length = kvs.length := by rw [e, kvOf_len]; exact (Paired.length pr).symm
  have fit : ((ys.length : Nat) : Int) < 2 ^ 63 := by
    have h1 : ys.length ≤ sizeLine := by rw [← Paired.length pr]; exact hlen
    have h2 : sizeLine < 2 ^ 63 := by decide
    exact_mod_cast Nat.lt_of_le_of_lt h1 h2
  refine PySem.call_len_dictH low dd fit ?_
  rw [el]
  exact ⟨iv kvs.length, H, (J.tok _).tok _, ⟨_, rfl⟩, q⟩
end
/-! ### tuples of two, three, four data -/
section
variable {K : PySem.W.Frag} {H : Hp} {v : V} {k1 k2 k3 k4 : NestedKey}
theorem of_tup2 (d : DV K H (.tup [k1, k2]) v) : ∃ a v1 v2, v = .ref a ∧ SqT K H a [v1, v2] ∧ DV K H k1 v1 ∧ DV K H k2 v2 := by
  obtain ⟨a, vs, e, sq, ds⟩ := of_tup d
  obtain ⟨v1, r1, e1, d1, ds⟩ := of_cons ds
  obtain ⟨v2, r2, e2, d2, ds⟩ := of_cons ds
  rw [of_nil ds] at e2
  subst e2 e1
  exact ⟨a, v1, v2, e, sq, d1, d2⟩
theorem of_tup4 (d : DV K H (.tup [k1, k2, k3, k4]) v) : ∃ a v1 v2 v3 v4, v = .ref a ∧ SqT K H a [v1, v2, v3, v4] ∧ DV K H k1 v1 ∧ DV K H k2 v2 ∧ DV K H k3 v3 ∧ DV K H k4 v4 := by
  obtain ⟨a, vs, e, sq, ds⟩ := of_tup d
  obtain ⟨v1, r1, e1, d1, ds⟩ := of_cons ds
  obtain ⟨v2, r2, e2, d2, ds⟩ := of_cons ds
  obtain ⟨v3, r3, e3, d3, ds⟩ := of_cons ds
  obtain ⟨v4, r4, e4, d4, ds⟩ := of_cons ds
  rw [of_nil ds] at e4
  subst e4 e3 e2 e1
  exact ⟨a, v1, v2, v3, v4, e, sq, d1, d2, d3, d4⟩
end
/-! ### the rules with the context's parts named -/
def At (X : Cx) (P : Program) (w : World) (K : PySem.W.Frag) : Prop := X.prog = P ∧ X.w = w ∧ X.K = K
section
variable {X : Cx} (P : Program) (w : World) (K : PySem.W.Frag) (at_ : At X P w K) {k : Nat} {a b e o i f l tg ke ve : Expr} {es : List Expr} {ta tb te td ty tx tl tk tv : TE} {t : TA} {pos apos cpos tpos p : Pos}
include at_
theorem op_ninK (hr : Room k X.A) : OpR X (compareOp .In) (rNIn P w K fun b => b) := by
  obtain ⟨rfl, rfl, rfl⟩ := at_
  exact op_nin hr
theorem op_nnotinK (hr : Room k X.A) : OpR X (compareOp .NotIn) (rNIn P w K fun b => !b) := by
  obtain ⟨rfl, rfl, rfl⟩ := at_
  exact op_nnotin hr
theorem op_dinK (hr : Room k X.A) : OpR X (compareOp .In) (rDIn K) := by
  obtain ⟨rfl, rfl, rfl⟩ := at_
  exact op_din (un65 hr)
theorem op_deqK (hr : Room k X.A) : OpR X (compareOp .Eq) (rDEq K fun b => b) := by
  obtain ⟨rfl, rfl, rfl⟩ := at_
  exact op_deq hr.units
theorem op_dneK (hr : Room k X.A) : OpR X (compareOp .NotEq) (rDEq K fun b => !b) := by
  obtain ⟨rfl, rfl, rfl⟩ := at_
  exact op_dne hr.units
theorem op_nenilK (hr : Room k X.A) : OpR X (compareOp .NotEq) (rNil K fun b => !b) := by
  obtain ⟨rfl, rfl, rfl⟩ := at_
  exact op_nenil hr
theorem op_eqnilK (hr : Room k X.A) : OpR X (compareOp .Eq) (rNil K fun b => b) := by
  obtain ⟨rfl, rfl, rfl⟩ := at_
  exact op_eqnil hr
theorem op_inTK : OpR X (compareOp .In) (rInT K fun c => c) := by
  obtain ⟨rfl, rfl, rfl⟩ := at_
  exact op_inT
theorem op_notinTK : OpR X (compareOp .NotIn) (rInT K fun c => !c) := by
  obtain ⟨rfl, rfl, rfl⟩ := at_
  exact op_notinT
theorem op_repTK : OpR X (binaryOp .Mult) (rRepT K) := by
  obtain ⟨rfl, rfl, rfl⟩ := at_
  exact op_repT
theorem ix_datK : IxR X (rIxD K) := by
  obtain ⟨rfl, rfl, rfl⟩ := at_
  exact ix_dat
theorem ix_lstK : IxR X (rIxM K) := by
  obtain ⟨rfl, rfl, rfl⟩ := at_
  exact ix_lst
theorem ix_listK : IxR X (rIxL K) := by
  obtain ⟨rfl, rfl, rfl⟩ := at_
  exact ix_list
theorem cr_lenDK : CallR X (.builtin "len") (rLenD K) := by
  obtain ⟨rfl, rfl, rfl⟩ := at_
  exact cr_lenD
theorem cr_lenNK : CallR X (.builtin "len") (rLenN P w K) := by
  obtain ⟨rfl, rfl, rfl⟩ := at_
  exact call_lenN
theorem cr_lenSK : CallR X (.builtin "len") (fun xs H Q => ∃ p ys, xs = [.ref p] ∧ (SqL K H p ys ∨ SqT K H p ys) ∧ Q (.int ys.length) H) := by
  obtain ⟨rfl, rfl, rfl⟩ := at_
  exact call_len_seq
theorem cr_tupOfK : CallR X (.type "tuple") (rTupOf K) := by
  obtain ⟨rfl, rfl, rfl⟩ := at_
  exact cr_tupOf
theorem cr_listOfK : CallR X (.type "list") (fun xs H Q => ∃ p ys, xs = [.ref p] ∧ (SqL K H p ys ∨ SqT K H p ys) ∧ ∀ l, H l = none → Q (.ref l) (upd H l (.lst ys))) := by
  obtain ⟨rfl, rfl, rfl⟩ := at_
  exact call_list_of
theorem cr_allK (hc : X.calm = true) : CallR X (.builtin "all") (rAll K) := by
  obtain ⟨rfl, rfl, rfl⟩ := at_
  exact cr_all hc
theorem cr_anyK (hc : X.calm = true) : CallR X (.builtin "any") (rAny K) := by
  obtain ⟨rfl, rfl, rfl⟩ := at_
  exact cr_any hc
theorem cr_minK (hc : X.calm = true) : CallR X (.builtin "min") (rMin K) := by
  obtain ⟨rfl, rfl, rfl⟩ := at_
  exact cr_min hc
theorem cr_nlistK (hc : X.calm = true) : CallR X (.type "list") (rNList P w) := by
  obtain ⟨rfl, rfl, rfl⟩ := at_
  exact cr_nlist hc
theorem cr_isiK : CallR X (.builtin "isinstance") (rIsi K) := by
  obtain ⟨rfl, rfl, rfl⟩ := at_
  exact call_isi
theorem cr_nsortK (hc : X.calm = true) (hr : Room k X.A) : CallR X (.builtin "sorted") (rNSort P w K) := by
  obtain ⟨rfl, rfl, rfl⟩ := at_
  exact cr_nsort hc hr
theorem cr_sortedIK : CallR X (.builtin "sorted") (rSortedI K) := by
  obtain ⟨rfl, rfl, rfl⟩ := at_
  exact cr_sortedI
theorem cr_setTK (hc : X.calm = true) : CallR X (.type "set") (rSetT K w) := by
  obtain ⟨rfl, rfl, rfl⟩ := at_
  exact cr_setT hc
theorem cr_sortedSetK (hc : X.calm = true) : CallR X (.builtin "sorted") (rSortedSet w) := by
  obtain ⟨rfl, rfl, rfl⟩ := at_
  exact cr_sortedSet hc
theorem pe_ngetK (hr : Room k X.A) (ho : PE X o td) (hi : PE X i ty) (hs : NoSl i) : PE X (.Subscript o i pos) (tNGet P w K td ty) := by
  obtain ⟨rfl, rfl, rfl⟩ := at_
  exact pe_nget hr ho hi hs
theorem pe_nget1K (hr : Room k X.A) (ho : PE X o td) (he : PE X e ty) (m : M1 X o "get" apos e cpos) : PE X (.Call (.Attribute o "get" apos) [e] [] cpos) (tNGet1 P w K td ty) := by
  obtain ⟨rfl, rfl, rfl⟩ := at_
  exact pe_nget1 hr ho he m
theorem pe_nget2K (hr : Room k X.A) (ho : PE X o td) (he : PE X e ty) (hf : PE X f tx) (m : M2 X o "get" apos e f cpos) : PE X (.Call (.Attribute o "get" apos) [e, f] [] cpos) (tNGet2 P w K td ty tx) := by
  obtain ⟨rfl, rfl, rfl⟩ := at_
  exact pe_nget2 hr ho he hf m
theorem pe_nnewK : PE X (.Dict [] [] pos) (tNNew P w K) := by
  obtain ⟨rfl, rfl, rfl⟩ := at_
  exact pe_nnew
theorem pe_none1K (hr : Room k X.A) (hk : PE X ke tk) (hv : PE X ve tv)
    (hsh : (evalEachOpt [some ke] X.env).zip ((evalEach [ve] X.env).map fun v => do let x ← v; standAt pos; pure x) = [(some (eval ke X.env), (do let x ← eval ve X.env; standAt pos; pure x))] := by rfl) : PE X (.Dict [some ke] [ve] pos) (tNOne P w K tk tv) := by
  obtain ⟨rfl, rfl, rfl⟩ := at_
  exact pe_none1 hr hk hv hsh
theorem set_ndK (hr : Room k X.A) : PSet X (setND P w K) := by
  obtain ⟨rfl, rfl, rfl⟩ := at_
  exact set_nd hr
theorem pe_tupDK {x1} (h : PA X es t) : PE X (.Tuple es x1 pos) (tTupD K t) := by
  obtain ⟨rfl, rfl, rfl⟩ := at_
  exact pe_tupD h
theorem pe_fldK {x : Str} (he : PE X e te) (hb : attributeBase e x X.env (eval e X.env) = eval e X.env) : PE X (.Attribute e x pos) (tFld K te x) := by
  obtain ⟨rfl, rfl, rfl⟩ := at_
  exact pe_fld he hb
theorem pa_starK (he : PE X e te) (hr : PA X es t) (hs : starEach (.Starred e p :: es) X.env = (true, eval e X.env) :: starEach es X.env := by rfl) : PA X (.Starred e p :: es) (StX.tStar K te t) := by
  obtain ⟨rfl, rfl, rfl⟩ := at_
  exact StX.pa_star he hr hs
theorem pi_TDK (hl : PE X l tl) : PI X tg l (iTD K tl) := by
  obtain ⟨rfl, rfl, rfl⟩ := at_
  exact pi_TD hl
theorem pi_LDK (hl : PE X l tl) : PI X tg l (iLD K tl) := by
  obtain ⟨rfl, rfl, rfl⟩ := at_
  exact pi_LD hl
theorem pi_seqK (hl : PE X l tl) : PI X tg l (iSeq K tl) := by
  obtain ⟨rfl, rfl, rfl⟩ := at_
  exact pi_seq hl
theorem pi_listK (hl : PE X l tl) : PI X tg l (iList K tl) := by
  obtain ⟨rfl, rfl, rfl⟩ := at_
  exact pi_list hl
theorem pi_tupK (hl : PE X l tl) : PI X tg l (iTup K tl) := by
  obtain ⟨rfl, rfl, rfl⟩ := at_
  exact pi_tup hl
theorem pi_NK (hl : PE X l tl) : PI X tg l (iN P w tl) := by
  obtain ⟨rfl, rfl, rfl⟩ := at_
  exact pi_N hl
theorem sl_tupK : SlR X (rSlT K) := by
  obtain ⟨rfl, rfl, rfl⟩ := at_
  exact sl_tup
theorem sl_listK : SlR X (rSlL K) := by
  obtain ⟨rfl, rfl, rfl⟩ := at_
  exact sl_list
theorem pe_orTK {rest : List Expr} (ha : PE X a ta) (hb : PE X (.BoolOp .Or (b :: rest) pos) tb) : PE X (.BoolOp .Or (a :: b :: rest) pos) (tOrT K ta tb) := by
  obtain ⟨rfl, rfl, rfl⟩ := at_
  exact pe_orT ha hb
theorem pe_bmK {T id : String} {r : V → List V → Hp → VK → Prop} {name : Str} (pa : PlainAttrs T) (slot : Slot T name id) (hty : typeOf (.builtin id) = pure (.type "method_descriptor")) (hm : MtR X id r) (ho : PE X o ta) (ha : PA X (e :: es) t)
    (hbase : attributeBase o name X.env (eval o X.env) = eval o X.env := by rfl)
    (hfew : ((backTo cpos (starEach (e :: es) X.env)).all (fun x => !x.1) && (backToKw cpos (keywordEach [] X.env)).all (fun x => x.1.isSome)
      && decide ((e :: es).length + ([] : List Keyword).length + (if ([] : List Keyword).isEmpty then 0 else 1) < 30)) = true := by rfl)
    (hline : (apos.endLine == cpos.line) = true := by rfl) (hs : starEach (e :: es) X.env = (false, eval e X.env) :: starEach es X.env := by rfl) (hplain : (backTo cpos (starEach es X.env)).any (·.1) = false := by rfl) :
    PE X (.Call (.Attribute o name apos) (e :: es) [] cpos) (tBM K T r ta t) := by
  obtain ⟨rfl, rfl, rfl⟩ := at_
  exact pe_bm pa slot hty hm ho ha hbase hfew hline hs hplain
theorem pe_bm0K {T id : String} {r : V → List V → Hp → VK → Prop} {name : Str} (pa : PlainAttrs T) (slot : Slot T name id) (hty : typeOf (.builtin id) = pure (.type "method_descriptor")) (hm : MtR X id r) (ho : PE X o ta)
    (hbase : attributeBase o name X.env (eval o X.env) = eval o X.env := by rfl) (hline : (apos.endLine == cpos.line) = true := by rfl) : PE X (.Call (.Attribute o name apos) [] [] cpos) (tBM0 K T r ta) := by
  obtain ⟨rfl, rfl, rfl⟩ := at_
  exact pe_bm0 pa slot hty hm ho hbase hline
end
section
variable {X : Cx} (P : Program) (w : World) (K : PySem.W.Frag) (at_ : At X P w K) {e : Expr} {ta : TA} {td : TE} {p pos tpos apos cpos : Pos} {elts : List Expr} {kk n : Nat} {es : List Expr} {t : TGs}
include at_
theorem pi_ETK (hg : Gl X "enumerate") (hm : X.mg "enumerate" = none) (ha : PA X [e] ta) (hs : starEach [e] X.env = [(false, eval e X.env)] := by rfl) : PI X (.Tuple elts kk tpos) (.Call (.Name "enumerate" p) [e] [] pos) (iET K ta) := by
  obtain ⟨rfl, rfl, rfl⟩ := at_
  exact pi_ET hg hm ha hs
theorem pi_PK (he : PE X e td) (hbase : attributeBase e "items" X.env (eval e X.env) = eval e X.env := by rfl) (hline : (apos.endLine == cpos.line) = true := by rfl) :
    PI X (.Tuple elts kk tpos) (.Call (.Attribute e "items" apos) [] [] cpos) (iP P w td) := by
  obtain ⟨rfl, rfl, rfl⟩ := at_
  exact pi_P he hbase hline
theorem pg_tupK (hc : X.calm = true) (h : PGs X es t) (hn : (assignEach es X.env).length = n := by rfl) (hst : (assignEach es X.env).findIdx? (·.1) = none := by rfl) : PG X (.Tuple es kk pos) (gTup K n t) := by
  obtain ⟨rfl, rfl, rfl⟩ := at_
  exact pg_tup hc h hn hst
end
/-! ### the number of each, in order -/
section
variable {α κ : Type} [DecidableEq α] [DecidableEq κ]
def numd (f : α → κ) : Nat → List α → List (κ × V)
  | _, [] => []
  | n, x :: l => (f x, iv n) :: numd f (n + 1) l
theorem numd_len (f : α → κ) : ∀ (n : Nat) (l : List α), (numd f n l).length = l.length
  | _, [] => rfl
  | n, x :: l => by show (numd f (n + 1) l).length + 1 = l.length + 1; rw [numd_len f (n + 1) l]
theorem numd_snoc (f : α → κ) (x : α) : ∀ (n : Nat) (l : List α), numd f n (l ++ [x]) = numd f n l ++ [(f x, iv (n + l.length))]
  | n, [] => rfl
  | n, y :: l => by
    show (f y, iv n) :: numd f (n + 1) (l ++ [x]) = (f y, iv n) :: (numd f (n + 1) l ++ [(f x, iv (n + (l.length + 1)))])
    rw [numd_snoc f x (n + 1) l, show n + 1 + l.length = n + (l.length + 1) by omega]
theorem numd_val (f : α → κ) (x : α) : ∀ (n : Nat) (l : List α), (∀ a ∈ l, f a = f x → a = x) → valV (numd f n l) (f x) = if x ∈ l then some (iv (n + l.idxOf x)) else none
  | n, [], _ => rfl
  | n, y :: l, hf => by
    show valV ((f y, iv n) :: numd f (n + 1) l) (f x) = _
    by_cases q : y = x
    · subst q
      rw [valV_pos rfl, if_pos List.mem_cons_self, List.idxOf_cons_self]
      rfl
    · have q' : ¬ f y = f x := fun z => q (hf y List.mem_cons_self z)
      have ne : x ≠ y := fun z => q z.symm
      rw [valV_neg q', numd_val f x (n + 1) l fun a ha => hf a (List.mem_cons_of_mem _ ha)]
      by_cases m : x ∈ l
      · rw [if_pos m, if_pos (List.mem_cons_of_mem _ m), show (y :: l).idxOf x = l.idxOf x + 1 by (rw [List.idxOf_cons, beq_eq_false_iff_ne.mpr q]; rfl), show n + 1 + List.idxOf x l = n + (List.idxOf x l + 1) by omega]
      · rw [if_neg m, if_neg (by simp [m, ne])]
end
theorem nub_take {α : Type} [DecidableEq α] (xs : List α) {i : Nat} (hi : i < xs.length) : nub (xs.take (i + 1)) = ins (nub (xs.take i)) xs[i] := by
  unfold nub
  rw [List.take_add_one, List.getElem?_eq_getElem hi, List.foldl_append]
  rfl
theorem nub_len {α : Type} [DecidableEq α] (xs : List α) : (nub xs).length ≤ xs.length := by
  have key : ∀ (l acc : List α), (l.foldl ins acc).length ≤ acc.length + l.length := by
    intro l
    induction l with
    | nil => intro acc; simp
    | cons x l ih =>
      intro acc
      rw [List.foldl_cons]
      have h1 := ih (ins acc x)
      have h2 : (ins acc x).length ≤ acc.length + 1 := by
        unfold ins
        split <;> simp
      rw [List.length_cons]
      omega
  have := key xs []
  simpa [nub] using this
theorem range_map_getD {l : List Nat} {n : Nat} {g : Nat → NestedKey} (e : n = l.length) : ((List.range n).filterMap fun i => some (g (l.getD i 0))) = l.map g := by
  subst e
  rw [List.filterMap_eq_map']
  refine List.ext_getElem (by simp) fun i h1 h2 => ?_
  have hi : i < l.length := by simpa using h1
  simp [List.getD, List.getElem?_eq_getElem hi]
theorem inl_inj {a b : Nat} (h : (Sum.inl (a : Int) : Key) = Sum.inl (b : Int)) : a = b := Int.ofNat.inj (Sum.inl.inj h)
section
variable {P : Program} {w : World} {K : PySem.W.Frag} {mg : Str → Option Value} {base : Heap} {C S : Addr} {tH tP : Tok} {f : Addr} {fd : FuncData}
theorem sc_in_order : FnScope ["marks", "known", "mark"] ["marks"] (defScope s_in_order) := ⟨rfl, rfl, rfl, by decide +kernel, rfl, by decide +kernel, by decide +kernel⟩
/-- marks: ints in a list or a tuple, or a list of tuples -/
def sp_in_order (K : PySem.W.Frag) : Sp := fun vs H Q _ => ∃ a, vs = [.ref a] ∧ (
  (∃ l : List Nat, (SqL K H a (l.map iv) ∨ SqT K H a (l.map iv)) ∧ l.length ≤ 100 ∧ ∀ v H', Same H H' → DV K H' (lk (inOrder l)) v → Q v H') ∨
  (∃ (ks : List (List Nat)) (us : List V), SqL K H a us ∧ DVs K H (ks.map lk) us ∧ ks.length ≤ 100 ∧ ∀ v H', Same H H' → DV K H' (lk (inOrder ks)) v → Q v H'))
theorem ok_in_order (T : Txt K mg C S tH tP) (F : FnP K "in_order" "in_order" s_in_order f fd) : FnOk P w K mg base CX0 1 f fd ["marks"] (sp_in_order K) := by
  refine F.ok sc_in_order (fun vs H Q E h => ?_) (fun cdv A outer s H vs Q E hr h => ?_)
  · obtain ⟨a, rfl, _⟩ := h
    rfl
  have hu := hu_of hr
  have small : 200 < sizeLine := by decide
  obtain ⟨a, rfl, ⟨l, sq, hl, q⟩ | ⟨ks, us, sq, ds, hl, q⟩⟩ := h
  · refine ⟨_, PSs.nox ((pss_cons (ps_set (i := 1) sc_in_order.nd rfl (.inr rfl) pe_dnewK)
  (pss_cons (ps_for PassesOwn.never rfl (pi_seqK P w K ⟨rfl, rfl, rfl⟩ (pv 0)) (pg_name (i := 2) sc_in_order.nd rfl (.inl rfl))
    (pss_one (ps_if (pt_cmp (pc_dnotin hu (pv 2) (pv 1))) (pss_one (ps_dput hu (pv 1) (pv 2) (pe_callB call_lenD (by rfl) T.z_len (by decide +kernel) (pa_cons (pv 1) pa_nil)) rfl)) pss_nil)))
  (pss_one (ps_ret (pe_callTy (cr_tupOfK P w K ⟨rfl, rfl, rfl⟩) (by rfl) T.z_tuple (by decide +kernel) (pa_cons (pe_lc (own := [("mark", 2)]) (by rfl) sc_in_order.nd (pi_seqK P w K ⟨rfl, rfl, rfl⟩ (pv 0)) (blkOk_by (own := [("mark", 2)]) (N := ["marks", "known", "mark"]) (sc := defScope s_in_order) (by decide +kernel)) (fun _ _ _ _ _ => (pg_name (i := 2) sc_in_order.nd rfl (Or.inl rfl))) (fun _ _ _ _ _ => pts_nil) (fun _ _ _ _ _ => (pe_dget hu (pv 1) (pv 2) (fun _ _ => rfl)))) pa_nil))))))), ?_⟩
    intro d hd
    have s1 : Same H (upd H d (.dK [])) := same_new hd
    refine ⟨_, rfl, a, l.map iv, H, rfl, s1, sq, fun J G wk hG => for_it wk (fun i σ H' => Same H H' ∧ H' d = some (.dK (numd (fun n : Nat => (Sum.inl (n : Int) : Key)) 0 (nub (l.take i)))) ∧ ∃ y, σ = [some (.ref a), some (.ref d), y]) ⟨s1, upd_same, _, rfl⟩
      (fun i σ H' _ p => hG H' p.1) (fun i x σ H1 H2 hi p y => ?_) (fun σ H1 p => ?_)⟩
    · obtain ⟨s2, hd2, y3, e2⟩ := p
      obtain ⟨e3, ex⟩ := y
      subst e2 e3
      obtain ⟨hi', ex⟩ := of_iv ex
      subst ex
      have hv := numd_val (fun n : Nat => (Sum.inl (n : Int) : Key)) l[i] 0 (nub (l.take i)) fun a _ e => inl_inj e
      refine ⟨_, rfl, _, rfl, d, _, rfl, DGet.k (k := Sum.inl ((l[i] : Nat) : Int)) hd2, _, rfl, ?_⟩
      rw [nub_take l hi']
      unfold ins
      by_cases m : l[i] ∈ nub (l.take i)
      · rw [hv, if_pos m, if_pos m]
        exact iteF ⟨s2, hd2, _, rfl⟩
      · rw [hv, if_neg m, if_neg m]
        refine iteT ⟨_, rfl, d, _, rfl, hd2, _, rfl, _, rfl, d, _, rfl, DPut.k (k := Sum.inl ((l[i] : Nat) : Int)) hd2 ?_, same_upd s2 hd, ?_, _, rfl⟩
        · rw [numd_len]
          have h1 := nub_len (l.take i)
          rw [List.length_take] at h1
          omega
        · rw [upd_same, numd_snoc, putK_new _ (by rw [hv, if_neg m]), numd_len, Nat.zero_add]
          rfl
    · obtain ⟨s2, hd2, y3, e2⟩ := p
      subst e2
      rw [List.length_map, List.take_length] at hd2
      refine ⟨_, rfl, a, l.map iv, H, rfl, s2, sq, fun J G wk hG D hD => lc_dat (K := K) wk (fun i => some (nk ((inOrder l).getD i 0))) hD (by rw [List.length_map]; omega) (fun H' s => hG H' (fun c o z => s _ _ (s2 _ _ z))) (fun i x H2 H3 Nx hi s3 y no yes => ?_) (fun H2 us s3 hD2 ds => ?_)⟩
      · obtain ⟨e3, ex⟩ := y
        subst e3
        obtain ⟨hi', ex⟩ := of_iv ex
        subst ex
        have hv := numd_val (fun n : Nat => (Sum.inl (n : Int) : Key)) l[i] 0 (nub l) fun a _ e => inl_inj e
        rw [if_pos (mem_nub.mpr (List.getElem_mem _))] at hv
        have hd3 : H3 d = some (.dK (numd (fun n : Nat => (Sum.inl (n : Int) : Key)) 0 (nub l))) := s3 _ _ hd2
        refine ⟨rfl, _, rfl, _, rfl, d, _, rfl, hv ▸ DGet.k (k := Sum.inl ((l[i] : Nat) : Int)) hd3, yes _ _ _ rfl (fun _ _ z => z) ?_⟩
        rw [inOrder_get hi', Nat.zero_add]
        exact dv_nk
      · refine ⟨D, us, _, rfl, .inl (.inl hD2), ds, fun v H4 s4 dv => q v H4 (fun c o z => s4 _ _ (s3 _ _ (s2 _ _ z))) ?_⟩
        rw [List.length_map, range_map_getD (inOrder_length).symm] at dv
        exact dv
  · refine ⟨_, PSs.nox ((pss_cons (ps_set (i := 1) sc_in_order.nd rfl (.inr rfl) (pe_nnewK P w K ⟨rfl, rfl, rfl⟩))
  (pss_cons (ps_for PassesOwn.never rfl (pi_LDK P w K ⟨rfl, rfl, rfl⟩ (pv 0)) (pg_name (i := 2) sc_in_order.nd rfl (.inl rfl))
    (pss_one (ps_if (pt_cmpR (op_nnotinK P w K ⟨rfl, rfl, rfl⟩ hr) (pv 2) (pv 1) rfl) (pss_one (ps_asg (pe_callB (cr_lenNK P w K ⟨rfl, rfl, rfl⟩) (by rfl) T.z_len (by decide +kernel) (pa_cons (pv 1) pa_nil)) (pg_sub (pv 1) (pv 2) (set_ndK P w K ⟨rfl, rfl, rfl⟩ hr)))) pss_nil)))
  (pss_one (ps_ret (pe_callTy (cr_tupOfK P w K ⟨rfl, rfl, rfl⟩) (by rfl) T.z_tuple (by decide +kernel) (pa_cons (pe_lc (own := [("mark", 2)]) (by rfl) sc_in_order.nd (pi_LDK P w K ⟨rfl, rfl, rfl⟩ (pv 0)) (blkOk_by (own := [("mark", 2)]) (N := ["marks", "known", "mark"]) (sc := defScope s_in_order) (by decide +kernel)) (fun _ _ _ _ _ => (pg_name (i := 2) sc_in_order.nd rfl (Or.inl rfl))) (fun _ _ _ _ _ => pts_nil) (fun _ _ _ _ _ => (pe_ngetK P w K ⟨rfl, rfl, rfl⟩ hr (pv 1) (pv 2) (fun _ _ => rfl)))) pa_nil))))))), ?_⟩
    intro d H1 hd ho s1 nd
    refine ⟨_, rfl, a, us, ks.map lk, rfl, s1.seq sq, ds.tx (.same s1), fun J wk => for_it wk (fun i σ H' => Same H H' ∧ TX H1 H' ∧ ND P w K H' d (numd lk 0 (nub (ks.take i))) ∧ ∃ y, σ = [some (.ref a), some (.ref d), y]) ⟨s1, .refl _, nd, _, rfl⟩
      (fun i σ H' _ p => ⟨p.1.seq sq, p.2.1⟩) (fun i x σ H2 H3 hi p y => ?_) (fun σ H2 p => ?_)⟩
    · obtain ⟨s2, t2, nd2, y3, e2⟩ := p
      obtain ⟨e3, k, ek, dk⟩ := y
      subst e2 e3
      rw [List.length_map] at hi
      have ek2 : k = lk ks[i] := by
        rw [List.getElem?_map, List.getElem?_eq_getElem hi] at ek
        exact (Option.some.inj ek).symm
      subst ek2
      have hv := numd_val lk ks[i] 0 (nub (ks.take i)) fun a _ e => lk_inj e
      refine ⟨_, rfl, _, rfl, d, _, rfl, nget_of nd2.r dk (by rw [show NestedKey.tup (ks[i].map nk) = lk ks[i] from rfl, lk_depth]; omega), _, rfl, ?_⟩
      rw [nub_take ks hi]
      unfold ins
      by_cases m : ks[i] ∈ nub (ks.take i)
      · rw [show valV (numd lk 0 (nub (ks.take i))) (NestedKey.tup (ks[i].map nk)) = _ from hv, if_pos m, if_pos m]
        exact iteF ⟨s2, t2, nd2, _, rfl⟩
      · rw [show valV (numd lk 0 (nub (ks.take i))) (NestedKey.tup (ks[i].map nk)) = _ from hv, if_neg m, if_neg m]
        refine iteT ⟨_, rfl, d, _, rfl, nd2.r, _, rfl, _, rfl, d, _, _, rfl, nd2, dk, (by rw [show NestedKey.tup (ks[i].map nk) = lk ks[i] from rfl, lk_depth]; omega), ?_, fun H4 o4 t4 nd4 => ⟨?_, t2.trans t4, ?_, some x, rfl⟩⟩
        · rw [numd_len]
          have h1 := nub_len (ks.take i)
          rw [List.length_take] at h1
          omega
        · intro c o z
          by_cases q : c = d
          · rw [q, hd] at z; cases z
          · rw [o4 c q]; exact s2 _ _ z
        · rw [numd_snoc, Nat.zero_add, ← numd_len lk 0, ← putK_new _ (by rw [hv, if_neg m])]
          exact nd4
    · obtain ⟨s2, t2, nd2, y3, e2⟩ := p
      subst e2
      rw [List.length_map, List.take_length] at nd2
      refine ⟨_, rfl, a, us, ks.map lk, rfl, s2.seq sq, ds.tx (.same s2), fun J wk D hD => lc_dat (K := K) wk (fun i => some (nk ((inOrder ks).getD i 0))) hD (by rw [List.length_map]; omega) (fun H' s => ⟨(s2.seq sq |> s.seq), .same s⟩) (fun i x H3 H4 Nx hi s3 y no yes => ?_) (fun H3 us2 s3 hD2 ds2 => ?_)⟩
      · obtain ⟨e3, k, ek, dk⟩ := y
        subst e3
        rw [List.length_map] at hi
        have ek2 : k = lk ks[i] := by
          rw [List.getElem?_map, List.getElem?_eq_getElem hi] at ek
          exact (Option.some.inj ek).symm
        subst ek2
        have hv := numd_val lk ks[i] 0 (nub ks) fun a _ e => lk_inj e
        rw [if_pos (mem_nub.mpr (List.getElem_mem _))] at hv
        have g := nget_of (nd2.same s3).r dk (by rw [show NestedKey.tup (ks[i].map nk) = lk ks[i] from rfl, lk_depth]; omega)
        rw [show valV (numd lk 0 (nub ks)) (NestedKey.tup (ks[i].map nk)) = _ from hv] at g
        refine ⟨rfl, _, rfl, _, rfl, d, _, rfl, g, yes _ _ _ rfl (fun _ _ z => z) ?_⟩
        rw [inOrder_get hi, Nat.zero_add]
        exact dv_nk
      · refine ⟨D, us2, _, rfl, .inl (.inl hD2), ds2, fun v H5 s5 dv => q v H5 (fun c o z => s5 _ _ (s3 _ _ (s2 _ _ z))) ?_⟩
        rw [List.length_map, range_map_getD (inOrder_length).symm] at dv
        exact dv
end
end K14

/-! W8: enumerate over data, while xs != []; alike_classes. -/
namespace K14
open PySem PySem.Spec PyProof.Rows L2
/-! ### while xs != [] -/
theorem while_ne {K : PySem.W.Frag} {i : Nat} {tb : TS} {D : Ends} {σ : L2.St} {H : Hp} (Pv : Nat → L2.St → Hp → Prop) (h0 : ∃ m, Pv m σ H)
    (hs : ∀ m σ H, Pv m σ H → ∃ l us, σ[i]? = some (some (.ref l)) ∧ SqL K H l us ∧ ∀ H', Same H H' → (us = [] → D.nx σ H') ∧
      (us ≠ [] → ∀ N : L2.St → Hp → Prop, (∀ m' σ' H', m' < m → Pv m' σ' H' → N σ' H') → tb { D with nx := N, ct := N, bk := D.nx } σ H')) :
    tWhile (tTest (tOp (rNil K fun b => !b) (tVar i) (tLst tNil))) tb D σ H := by
  refine ⟨Pv, h0, fun m σ H p => ?_⟩
  obtain ⟨l, us, e, sq, q⟩ := hs m σ H p
  refine ⟨_, e, Nat.zero_le _, fun b hb => ?_⟩
  obtain ⟨q1, q2⟩ := q (upd H b (.lst [])) (same_new hb)
  refine ⟨l, us, b, rfl, rfl, (same_new hb).seq sq, SqL.of upd_same, !us.isEmpty, rfl, ?_⟩
  cases us with
  | nil => exact q1 rfl
  | cons x xs => exact ⟨_, fun σ' H' z => z, q2 (by simp) _ fun m' σ' H' hm pm => ⟨m', hm, pm⟩⟩
/-! ### enumerate over a tuple of data: the pair is a datum -/
def YE (K : PySem.W.Frag) (ks : List NestedKey) : Nat → Hp → V → Hp → Prop := fun i H x H' => Same H H' ∧ ∃ k, ks[i]? = some k ∧ DV K H' (.tup [nk i, k]) x
def iED (K : PySem.W.Frag) (ta : TA) : TI := fun σ H R => ta σ H fun vs H1 => ∃ v ks, vs = [v] ∧ DV K H1 (.tup ks) v ∧ ∀ J, Walk J ks.length (fun H => TX H1 H) (YE K ks) → R J H1
section
variable {X : Cx} {e l tg : Expr} {ta : TA} {tl : TE} {p pos tpos : Pos} {elts : List Expr} {kk : Nat}
theorem wkI {t u : TI} (h : PI X tg l t) (m : ∀ σ H R, u σ H R → t σ H R) : PI X tg l u := ⟨fun ps s σ H R J w => h.run ps s σ H R J (m σ H R w)⟩
theorem walk_ED {P : Program} {w : World} {K : PySem.W.Frag} {H1 : Hp} {a : Addr} {us : List V} {ks : List NestedKey} (sq : SqT K H1 a us) (ds : DVs K H1 ks us) : Walk (ItE us.length (fun H => SqT K H a us) fun j => us.getD j .non) ks.length (fun H => TX H1 H) (YE K ks) := by
  rw [← ds.length]
  refine walk_E.mono (fun H2 t => sqT_tx t sq) fun i H2 y H3 hi t yy => ?_
  obtain ⟨T, ey, hT, e3⟩ := yy
  subst ey e3
  have e1 : us[i]? = some us[i] := List.getElem?_eq_getElem hi
  obtain ⟨k, ek, dk⟩ := (ds.tx t).getV e1
  refine ⟨same_new hT, k, ek, dv_tup (SqT.of upd_same) ?_⟩
  have e2 : us.getD i .non = us[i] := by simp [List.getD, e1]
  rw [e2]
  exact dvs_cons dv_nk (dvs_cons (dk.tx (.same (same_new hT))) dvs_nil)
theorem pi_ED (P : Program) (w : World) (K : PySem.W.Frag) (at_ : At X P w K) (hg : Gl X "enumerate") (hm : X.mg "enumerate" = none) (ha : PA X [e] ta) (hs : starEach [e] X.env = [(false, eval e X.env)] := by rfl) : PI X (.Tuple elts kk tpos) (.Call (.Name "enumerate" p) [e] [] pos) (iED K ta) := by
  obtain ⟨rfl, rfl, rfl⟩ := at_
  constructor
  intro ps s σ H R J hw
  refine Call_ (ld_blt J hg hm boot_enumerate (PyProof.Rows.callWith_type1 (thn (ha.run pos ps s σ H _ J hw) fun us s1 hu => ?_) hs rfl))
  obtain ⟨vs, H1, J1, r1, v, ks, ev, d, q⟩ := hu
  obtain ⟨a, xs, ex, sq, ds⟩ := of_tup d
  subst ex ev
  obtain ⟨u, eu, ru⟩ := vals1 r1
  subst eu
  cases ru
  obtain ⟨its, rv, pt, hz⟩ := J1.tuple sq
  refine call_enum1 (begins_tuple a its.toArray) (show s1.heap.IsTuple a its.toArray from pt) fun h' he hit hk => wpAny_pyIter_enum he ?_
  have J2 : Inv X ps σ H1 { s1 with heap := h' } := J1.kept (t' := s1.toks) hk
  exact ⟨s1.heap.objs.size + 1, [s1.heap.objs.size + 1, s1.heap.objs.size], _, _, H1, rfl, J2, turn_ET (a := a) (Nat.succ_ne_self _), ⟨⟨.none, he⟩, _, hit, rfl, rfl⟩, enum_fp J1, q _ (walk_ED (P := X.prog) (w := X.w) sq ds)⟩
end
theorem sametr {A B C : Hp} (a : Same A B) (b : Same B C) : Same A C := fun c o z => b _ _ (a _ _ z)
section
variable {P : Program} {w : World} {K : PySem.W.Frag} {mg : Str → Option Value} {base : Heap} {C S : Addr} {tH tP : Tok} {f : Addr} {fd : FuncData}
theorem sc_alike_classes : FnScope ["handler", "labels", "kinds", "found", "rows", "finer", "state", "kind"] ["handler"] (defScope s_alike_classes) := ⟨rfl, rfl, rfl, by decide +kernel, rfl, by decide +kernel, by decide +kernel⟩
def sp_alike_classes (K : PySem.W.Frag) : Sp := fun vs H Q _ => ∃ h v, vs = [v] ∧ h.Ok ∧ DV K H (hk h) v ∧ ∀ c u H', Same H H' → ClsOk h c → DV K H' (lk c) u → Q u H'
theorem ok_alike_classes (T : Txt K mg C S tH tP) (F : FnP K "alike_classes" "alike_classes" s_alike_classes f fd) (g_in_order : Ok P w K mg base "in_order" 1 ["marks"] (sp_in_order K)) : FnOk P w K mg base CX0 2 f fd ["handler"] (sp_alike_classes K) := by
  refine F.ok sc_alike_classes (fun vs H Q E h => ?_) (fun cdv A outer s H vs Q E hr h => ⟨_, PSs.nox ((pss_cons (ps_asg (pv 0) (pg_tupK P w K ⟨rfl, rfl, rfl⟩ (by rfl) (pgs_cons (pg_name (i := 1) sc_alike_classes.nd rfl (.inl rfl)) (pgs_cons (pg_name (i := 2) sc_alike_classes.nd rfl (.inr rfl)) pgs_nil))))
  (pss_cons (ps_set (i := 3) sc_alike_classes.nd rfl (.inr rfl) (pe_callO g_in_order (hr.mono (by decide)) rfl (pa_cons (pv 1) pa_nil)))
  (pss_one (ps_while PassesOwn.never (pt_val pe_bl)
    (pss_cons (ps_setLc (i := 4) (own := [("state", 6)]) (by rfl) sc_alike_classes.nd rfl rfl (sw_true rfl rfl rfl (by decide +kernel)) (pi_range1 rfl T.z_range (pa_cons (pe_callB (cr_lenDK P w K ⟨rfl, rfl, rfl⟩) (by rfl) T.z_len (by decide +kernel) (pa_cons (pv 1) pa_nil)) pa_nil)) (blkOk_by (own := [("state", 6)]) (N := ["handler", "labels", "kinds", "found", "rows", "finer", "state", "kind"]) (sc := defScope s_alike_classes) (by decide +kernel)) (fun _ _ _ _ _ => (pg_name (i := 6) sc_alike_classes.nd rfl (Or.inr rfl))) (fun _ _ _ _ _ => pts_nil) (fun _ _ _ _ _ => (pe_tupDK P w K ⟨rfl, rfl, rfl⟩ (pa_cons (pe_ix (ix_datK P w K ⟨rfl, rfl, rfl⟩) (pv 3) (pv 6) (fun _ _ => rfl)) (pa_starK P w K ⟨rfl, rfl, rfl⟩ (pe_lc (own := [("kind", 7)]) (by rfl) sc_alike_classes.nd (pi_TDK P w K ⟨rfl, rfl, rfl⟩ (pv 2)) (blkOk_by (own := [("kind", 7)]) (N := ["handler", "labels", "kinds", "found", "rows", "finer", "state", "kind"]) (sc := relS _ (defScope s_alike_classes)) (by decide +kernel)) (fun _ _ _ _ _ => (pg_name (i := 7) sc_alike_classes.nd rfl (Or.inl rfl))) (fun _ _ _ _ _ => pts_nil) (fun _ _ _ _ _ => (pe_ix (ix_datK P w K ⟨rfl, rfl, rfl⟩) (pv 3) (pe_ix (ix_datK P w K ⟨rfl, rfl, rfl⟩) (pe_ix (ix_datK P w K ⟨rfl, rfl, rfl⟩) (pv 7) pe_int (fun _ _ => rfl)) (pv 6) (fun _ _ => rfl)) (fun _ _ => rfl)))) pa_nil)))))
  (pss_cons (ps_set (i := 5) sc_alike_classes.nd rfl (.inl rfl) (pe_callO g_in_order (hr.mono (by decide)) rfl (pa_cons (pv 4) pa_nil)))
  (pss_cons (ps_if (pt_cmpR (op_deqK P w K ⟨rfl, rfl, rfl⟩ hr) (pv 5) (pv 3) (nomark _)) (pss_one (ps_ret (pv 3))) pss_nil)
  (pss_one (ps_set (i := 3) sc_alike_classes.nd rfl (.inr rfl) (pv 5))))))))))), ?_⟩)
  · obtain ⟨h, v, rfl, _⟩ := h
    rfl
  · obtain ⟨h, v, rfl, o, d, q⟩ := h
    obtain ⟨a, v1, v2, rfl, sq, d1, d2⟩ := of_tup2 d
    obtain ⟨a1, rfl, sq1⟩ := of_lk d1
    have n8 := o.n8
    have k6 := o.k6
    have small : 200 < sizeLine := by decide
    have eK : (h.kinds.map kk1).length = h.K := by rw [List.length_map]; rfl
    refine ⟨_, rfl, a, [.ref a1, v2], rfl, sq, rfl, .ref a1, [v2], rfl, v2, [], rfl, rfl, _, rfl, a1, rfl, .inl ⟨h.labs, .inr sq1, (by show h.n ≤ 100; omega), fun u H1 s1 du => ?_⟩⟩
    refine ⟨fun m σ H' => ∃ c u y4 y5 y6 y7, m = eqs h.n c ∧ CInv h c ∧ Same H H' ∧ DV K H' (lk c) u ∧ σ = [some (.ref a), some (.ref a1), some v2, some u, y4, y5, y6, y7], ⟨_, _, u, _, _, _, _, rfl, cinv_start h, s1, du, rfl⟩, ?_⟩
    rintro m σ H2 ⟨c, u, y4, y5, y6, y7, rfl, I, s2, du, rfl⟩
    have cl : c.length = h.n := I.len
    refine ⟨true, rfl, _, fun σ' H' z => z, _, rfl, _, _, rfl, d1.tx (.same s2), _, rfl, ?_, ?_, fun D hD => lc_dat (K := K) walk_range (fun s => some (lk (c.getD s 0 :: (List.range h.K).map fun k => c.getD (h.step k s) 0))) hD ?_ (fun _ _ => trivial) (fun i x H3 H4 Nx hi s3 y no yes => ?_) (fun H3 us s3 hD3 ds => ?_)⟩
    · have := Int.natCast_nonneg (h.labs.map nk).length
      omega
    · rw [List.length_map]
      have : h.labs.length ≤ 8 := n8
      omega
    · rw [Int.toNat_natCast, List.length_map]
      have : h.labs.length ≤ 8 := n8
      omega
    · obtain ⟨e1, ex⟩ := y
      rw [Int.toNat_natCast, List.length_map] at hi
      have hi' : i < h.n := hi
      have ex' : x = iv i := by rw [ex]; show V.int (0 + (i : Int)) = V.int i; rw [Int.zero_add]
      subst e1 ex'
      have du3 : DV K H4 (lk c) u := (du.tx (.same s3))
      have d23 : DV K H4 (.tup (h.kinds.map kk1)) v2 := d2.tx (.same (sametr s2 s3))
      refine ⟨rfl, _, rfl, _, rfl, _, i, _, du3, rfl, lk_get (by rw [cl]; exact hi'), fun z dz => ⟨_, rfl, _, d23, fun J wk D2 hD2 => ?_⟩⟩
      have ez := of_num dz
      subst ez
      refine lc_dat (K := K) wk (fun k => some (nk (c.getD (h.step k i) 0))) hD2 (by rw [eK]; omega) (fun H' s => .same s) (fun j x H5 H6 Nx2 hj s5 y no2 yes2 => ?_) (fun H5 us s5 hD5 ds => ?_)
      · obtain ⟨e1, k, ek, dk⟩ := y
        subst e1
        rw [eK] at hj
        rw [hk_kind hj] at ek
        cases ek
        refine ⟨rfl, _, rfl, x, rfl, _, 1, _, dk, rfl, rfl, fun x1 d1 => ⟨_, rfl, _, i, _, d1, rfl, lk_get (by rw [show (h.kinds.getD j (0, [])).2 = h.tg j from rfl, (o.kind hj).1]; exact hi'), fun x2 d2 => ?_⟩⟩
        have e2 := of_num d2
        subst e2
        refine ⟨_, h.step j i, _, du3.tx (.same s5), rfl, lk_get (by rw [cl]; exact h.step_lt o j i), fun x3 d3 => yes2 _ _ _ rfl (fun _ _ z => z) d3⟩
      · refine ⟨D2, us, rfl, .inr (SqL.of hD5), _, dvs_cons dv_nk (ds.append dvs_nil), ?_, fun x H6 s6 dx => yes _ _ _ rfl (sametr s5 s6) ?_⟩
        · have := List.length_filterMap_le (fun k => some (nk (c.getD (h.step k i) 0))) (List.range (h.kinds.map kk1).length)
          rw [List.length_range, eK] at this
          simp only [List.length_cons, List.append_nil]
          rw [eK]
          omega
        · rw [List.append_nil, List.filterMap_eq_map', eK] at dx
          have e : (nk (c.getD i 0) :: (List.range h.K).map fun k => nk (c.getD (h.step k i) 0)) = (c.getD i 0 :: (List.range h.K).map fun k => c.getD (h.step k i) 0).map nk := by
            rw [List.map_cons, List.map_map]
            rfl
          rw [e] at dx
          exact dx
    · have ds2 : DVs K H3 ((rowsOf h c).map lk) us := by
        rw [Int.toNat_natCast, List.length_map, List.filterMap_eq_map'] at ds
        unfold rowsOf
        rw [List.map_map]
        exact ds
      refine ⟨_, rfl, D, rfl, .inr ⟨rowsOf h c, us, SqL.of hD3, ds2, by rw [rowsOf_length]; omega, fun u2 H4 s4 du2 => ?_⟩⟩
      have s4' := sametr s2 (sametr s3 s4)
      have du4 : DV K H4 (lk c) u := du.tx (.same (sametr s3 s4))
      refine ⟨_, rfl, _, rfl, _, _, du2, du4, sm_lk _, sm_lk _, _, rfl, ?_⟩
      by_cases e : inOrder (rowsOf h c) = c
      · rw [decide_eq_true (by rw [e])]
        exact ⟨_, rfl, q c u H4 s4' (cinv_done o I e) du4⟩
      · rw [decide_eq_false (fun z => e (lk_inj z))]
        exact ⟨_, rfl, _, cinv_less I e, _, u2, _, _, _, _, rfl, cinv_step o I, s4', du2, rfl⟩
end
end K14

/-! W9: first_logs, reached_states, first_log. -/
namespace K14
open PySem PySem.Spec PyProof.Rows L2
/-! ### dicts of logs -/
section
variable {α κ : Type} [DecidableEq α] [DecidableEq κ]
/-- the entries f: by g as keys, logs as values -/
def FD (K : PySem.W.Frag) (H : Hp) (g : α → κ) (f : List (α × List Nat)) (kvs : List (κ × V)) : Prop := Paired (fun (p : α × List Nat) (q : κ × V) => q.1 = g p.1 ∧ DV K H (lk p.2) q.2) f kvs
variable {K : PySem.W.Frag} {H H' : Hp} {g : α → κ} {f : List (α × List Nat)} {kvs : List (κ × V)}
theorem FD.tx (h : FD K H g f kvs) (t : TX H H') : FD K H' g f kvs := Paired.mapP h fun _ _ z => ⟨z.1, z.2.tx t⟩
theorem FD.len (h : FD K H g f kvs) : kvs.length = f.length := (Paired.length h).symm
theorem FD.snoc (h : FD K H g f kvs) {x : α} {l : List Nat} {v : V} (d : DV K H (lk l) v) : FD K H g (f ++ [(x, l)]) (kvs ++ [(g x, v)]) := Paired.snoc h ⟨rfl, d⟩
theorem FD.get (h : FD K H g f kvs) (gi : ∀ a b, g a = g b → a = b) (x : α) : (x ∈ ky f ∧ ∃ l v, look f x = some l ∧ valV kvs (g x) = some v ∧ DV K H (lk l) v) ∨ (x ∉ ky f ∧ valV kvs (g x) = none) := by
  unfold FD at h
  induction h with
  | nil => exact .inr ⟨by simp [ky], rfl⟩
  | @cons p q ps qs hpq _ ih =>
    obtain ⟨h1, h2⟩ := hpq
    by_cases e : p.1 = x
    · refine .inl ⟨by unfold ky; rw [List.map_cons, e]; exact List.mem_cons_self, p.2, q.2, by simp [look, List.find?_cons, e], ?_, h2⟩
      exact valV_pos (h1.trans (by rw [e]))
    · have e2 : ¬ q.1 = g x := fun z => e (gi _ _ (h1.symm.trans z))
      rcases ih with ⟨m, l, v, a, b, c⟩ | ⟨a, b⟩
      · refine .inl ⟨by unfold ky at m ⊢; rw [List.map_cons]; exact List.mem_cons_of_mem _ m, l, v, ?_, ?_, c⟩
        · rw [show look (p :: ps) x = look ps x by simp [look, List.find?_cons, e]]
          exact a
        · rw [valV_neg e2]
          exact b
      · refine .inr ⟨?_, ?_⟩
        · unfold ky at a ⊢
          rw [List.map_cons, List.mem_cons]
          rintro (z | z)
          · exact e z.symm
          · exact a z
        · rw [valV_neg e2]
          exact b
end
theorem kind_rd2 {K : PySem.W.Frag} {H : Hp} {h : Hd} {k s j : Nat} {x : V} {σ : L2.St} {Q : VK} (o : h.Ok) (d : DV K H (kk1 (h.kinds.getD k (0, []))) x) (ej : σ[j]? = some (some (iv s))) (hk' : k < h.K) (hs : s < h.n) (q : Q (iv (h.step k s)) H) :
    rIxD K x (.int 1) H fun x3 H3 => ∃ v, σ[j]? = some (some v) ∧ rIxD K x3 v H3 Q := by
  refine ⟨_, 1, _, d, rfl, rfl, fun v dv => ⟨_, ej, _, s, _, dv, rfl, lk_get (by rw [show (h.kinds.getD k (0, [])).2 = h.tg k from rfl, (o.kind hk').1]; exact hs), fun u du => ?_⟩⟩
  rw [of_num du]
  exact q
def gI (n : Nat) : Key := Sum.inl (n : Int)
theorem gI_inj : ∀ a b, gI a = gI b → a = b := fun a b e => inl_inj e
/-- what the search of first_logs ends with -/
abbrev FL (h : Hd) (f : List (Nat × List Nat)) (pend : List Nat) : Prop := BI h.K h.step (fun _ => True) (h.run 0) (List.range h.n) f pend
section
variable {P : Program} {w : World} {K : PySem.W.Frag} {mg : Str → Option Value} {base : Heap} {C S : Addr} {tH tP : Tok} {f : Addr} {fd : FuncData}
theorem sc_first_logs : FnScope ["handler", "found", "waiting", "later", "state", "index", "kind"] ["handler"] (defScope s_first_logs) := ⟨rfl, rfl, rfl, by decide +kernel, rfl, by decide +kernel, by decide +kernel⟩
def sp_first_logs (K : PySem.W.Frag) : Sp := fun vs H Q _ => ∃ h v, vs = [v] ∧ h.Ok ∧ DV K H (hk h) v ∧ ∀ d kvs f H', Same H H' → H d = none → H' d = some (.dK kvs) → FD K H' gI f kvs → FL h f [] → Q (.ref d) H'
/-- the heap while the search runs -/
structure FlAt (K : PySem.W.Frag) (h : Hd) (H H' : Hp) (d l : Addr) (f : List (Nat × List Nat)) (later : List Nat) : Prop where
  same : Same H H'
  d0 : H d = none
  l0 : H l = none
  dd : ∃ kvs, H' d = some (.dK kvs) ∧ FD K H' gI f kvs
  ll : H' l = some (.lst (later.map iv))
  ln : ∀ p ∈ f, p.2.length < f.length
theorem ok_first_logs (T : Txt K mg C S tH tP) (F : FnP K "first_logs" "first_logs" s_first_logs f fd) : FnOk P w K mg base CX0 1 f fd ["handler"] (sp_first_logs K) := by
  refine F.ok sc_first_logs (fun vs H Q E h => ?_) (fun cdv A outer s H vs Q E hr h => ?_)
  · obtain ⟨h, v, rfl, _⟩ := h
    rfl
  have hu := hu_of hr
  refine ⟨_, PSs.nox ((pss_cons (ps_par (i := 1) (j := 2) (by rfl) sc_first_logs.nd rfl rfl (by decide) rfl rfl (pa_cons (pe_disp (pps_cons pe_int (pe_tupDK P w K ⟨rfl, rfl, rfl⟩ pa_nil) pps_nil) (by rfl) (by rfl) (fun z => by cases z) (by decide)) (pa_cons (pe_lst (pa_cons pe_int pa_nil)) pa_nil)) (by rfl))
  (pss_cons (ps_while PassesOwn.never (pt_cmpR (op_nenilK P w K ⟨rfl, rfl, rfl⟩ hr) (pv 2) (pe_lst pa_nil) (nomark _))
    (pss_cons (ps_set (i := 3) sc_first_logs.nd rfl (.inl rfl) (pe_lst pa_nil))
  (pss_cons (ps_for PassesOwn.never rfl (pi_listK P w K ⟨rfl, rfl, rfl⟩ (pv 2)) (pg_name (i := 4) sc_first_logs.nd rfl (.inl rfl))
    (pss_one (ps_for PassesOwn.never rfl (pi_ED P w K ⟨rfl, rfl, rfl⟩ (by rfl) T.z_enumerate (pa_cons (pe_ix (ix_datK P w K ⟨rfl, rfl, rfl⟩) (pv 0) pe_int (fun _ _ => rfl)) pa_nil)) (pg_tupK P w K ⟨rfl, rfl, rfl⟩ (by rfl) (pgs_cons (pg_name (i := 5) sc_first_logs.nd rfl (.inl rfl)) (pgs_cons (pg_name (i := 6) sc_first_logs.nd rfl (.inl rfl)) pgs_nil)))
    (pss_one (ps_if (pt_cmp (pc_dnotin hu (pe_ix (ix_datK P w K ⟨rfl, rfl, rfl⟩) (pe_ix (ix_datK P w K ⟨rfl, rfl, rfl⟩) (pv 6) pe_int (fun _ _ => rfl)) (pv 4) (fun _ _ => rfl)) (pv 1))) (pss_cons (ps_dput hu (pv 1) (pe_ix (ix_datK P w K ⟨rfl, rfl, rfl⟩) (pe_ix (ix_datK P w K ⟨rfl, rfl, rfl⟩) (pv 6) pe_int (fun _ _ => rfl)) (pv 4) (fun _ _ => rfl)) (pe_tupDK P w K ⟨rfl, rfl, rfl⟩ (pa_starK P w K ⟨rfl, rfl, rfl⟩ (pe_dget hu (pv 1) (pv 4) (fun _ _ => rfl)) (pa_cons (pv 5) pa_nil))) rfl)
  (pss_one (ps_expr (pe_bmK P w K ⟨rfl, rfl, rfl⟩ PySem.F.plainAttrs_list PySem.F.slot_list_append PySem.F.type_list_append mt_append (pv 3) (pa_cons (pe_ix (ix_datK P w K ⟨rfl, rfl, rfl⟩) (pe_ix (ix_datK P w K ⟨rfl, rfl, rfl⟩) (pv 6) pe_int (fun _ _ => rfl)) (pv 4) (fun _ _ => rfl)) pa_nil))))) pss_nil)))))
  (pss_one (ps_set (i := 2) sc_first_logs.nd rfl (.inl rfl) (pv 3))))))
  (pss_one (ps_ret (pv 1)))))), ?_⟩
  obtain ⟨h, v, rfl, o, dh, q⟩ := h
  have n8 := o.n8
  have k6 := o.k6
  have small : 200 < sizeLine := by decide
  have eK : (h.kinds.map kk1).length = h.K := by rw [List.length_map]; rfl
  have hU : ∀ x k, x ∈ List.range h.n → k < h.K → h.step k x ∈ List.range h.n := fun x k _ _ => List.mem_range.mpr (h.step_lt o k x)
  -- found, waiting = {0: ()}, [0]
  intro d hd
  refine ⟨[], dvs_nil, Nat.zero_le _, fun t H1 s1 dt => ⟨s1 _ _ upd_same, [(gI 0, t)], rfl, (by show 1 ≤ 15; decide), (by show 1 ≤ sizeLine; decide), fun l hl => ⟨_, _, rfl, ?_⟩⟩⟩
  have dH1 : H1 d = some (.dK []) := s1 _ _ upd_same
  have hl1 : H1 l = none := by
    by_cases e : l = d
    · subst e; rw [upd_same] at hl; cases hl
    · rw [upd_ne e] at hl; exact hl
  have dl : d ≠ l := ne_of_none dH1 hl1
  have s0 : Same H H1 := sametr (same_new hd) s1
  have hl0 : H l = none := s0.free hl1
  have t1 : TX H1 (upd H1 d (.dK (mergeK [] [(gI 0, t)]))) := TX.mut (by rw [dH1]; trivial)
  have sA : Same H (upd H1 d (.dK (mergeK [] [(gI 0, t)]))) := same_upd s0 hd
  have t2 : TX (upd H1 d (.dK (mergeK [] [(gI 0, t)]))) (upd (upd H1 d (.dK (mergeK [] [(gI 0, t)]))) l (.lst [.int 0])) := TX.new hl
  refine while_ne (fun m σ H' => ∃ f pend l y3 y4 y5 y6, m = 2 * (h.n - f.length) + (if pend = [] then 0 else 1) ∧ FlAt K h H H' d l f pend ∧ FL h f pend ∧ σ = [some v, some (.ref d), some (.ref l), y3, y4, y5, y6])
    ⟨_, [(0, [])], [0], l, _, _, _, _, rfl, ⟨same_upd sA hl0, hd, hl0, ⟨_, (upd_ne dl).trans upd_same, .cons ⟨rfl, (dt.tx t1).tx t2⟩ .nil⟩, upd_same, fun p hp => by rw [List.mem_singleton.mp hp]; exact Nat.zero_lt_one⟩, BI.start (List.mem_range.mpr o.pos), rfl⟩ ?_
  rintro m σ H2 ⟨fm, pend, l, y3, y4, y5, y6, rfl, A, B, rfl⟩
  refine ⟨l, pend.map iv, rfl, SqL.of A.ll, fun H3 s3 => ⟨fun e => ?_, fun e N hN => ?_⟩⟩
  · -- the end
    have e' : pend = [] := by simpa using e
    subst e'
    obtain ⟨kvs, h1, h2⟩ := A.dd
    exact ⟨_, rfl, q d kvs fm H3 (sametr A.same s3) hd (s3 _ _ h1) (h2.tx (.same s3)) B⟩
  have ne : pend ≠ [] := fun z => e (by rw [z]; rfl)
  refine ⟨Nat.zero_le _, fun l2 hl2 => ?_⟩
  obtain ⟨kvs, hd2, hF2⟩ := A.dd
  have tl : TX H2 (upd H3 l2 (.lst [])) := TX.trans (.same s3) (.new hl2)
  have d_l2 : d ≠ l2 := ne_of_none (s3 _ _ hd2) hl2
  have l_l2 : l ≠ l2 := ne_of_none (s3 _ _ A.ll) hl2
  have l2_0 : H l2 = none := (sametr A.same s3).free hl2
  have lw : (upd H3 l2 (.lst [])) l = some (.lst (pend.map iv)) := (upd_ne l_l2).trans (s3 _ _ A.ll)
  refine ⟨_, rfl, l, rfl, ⟨_, SqL.of lw⟩, for_it (walk_list (xs := pend.map iv)) (fun i σ H4 => ∃ f later y4 y5 y6, FlAt K h H H4 d l2 f later ∧ H4 l = some (.lst (pend.map iv)) ∧ FL h f (pend.drop i ++ later) ∧ f.length = fm.length + later.length ∧ σ = [some v, some (.ref d), some (.ref l), some (.ref l2), y4, y5, y6])
    ⟨fm, [], _, _, _, ⟨same_upd (sametr A.same s3) l2_0, hd, l2_0, ⟨kvs, (upd_ne d_l2).trans (s3 _ _ hd2), hF2.tx tl⟩, upd_same, A.ln⟩, lw, by simpa using B, rfl, rfl⟩ (fun i σ H4 _ p => ?_) (fun i x σ H4 H5 hi p y => ?_) (fun σ H4 p => ?_)⟩
  · obtain ⟨_, _, _, _, _, _, p, _⟩ := p
    exact SqL.of p
  · obtain ⟨f1, later, z4, z5, z6, A1, lw1, B1, hlen, rfl⟩ := p
    obtain ⟨e1, ex⟩ := y
    obtain ⟨hi', ex⟩ := of_iv ex
    subst e1 ex
    have ed : pend.drop i = pend[i] :: pend.drop (i + 1) := List.drop_eq_getElem_cons hi'
    rw [ed] at B1
    have hx : pend[i] < h.n := List.mem_range.mp (B1.sub _ (B1.pd _ List.mem_cons_self))
    generalize hxe : pend[i] = x at B1 hx
    have dh5 : DV K H5 (hk h) v := dh.tx (.same A1.same)
    refine ⟨_, rfl, _, 1, _, dh5, rfl, rfl, fun v2 d2 => ⟨v2, _, rfl, d2, fun J wk => for_it wk (fun j σ H6 => ∃ f later y5 y6, TX H5 H6 ∧ FlAt K h H H6 d l2 f later ∧ H6 l = some (.lst (pend.map iv)) ∧ FL h f (x :: (pend.drop (i + 1) ++ later)) ∧ (∀ k, k < j → h.step k x ∈ ky f) ∧ f.length = fm.length + later.length ∧
      σ = [some v, some (.ref d), some (.ref l), some (.ref l2), some (iv x), y5, y6]) ⟨f1, later, _, _, .refl _, A1, lw1, by simpa using B1, fun k hk' => absurd hk' (Nat.not_lt_zero k), hlen, rfl⟩ (fun j σ H6 _ p => ?_) (fun k u σ H6 H7 hk' p y => ?_) (fun σ H6 p => ?_)⟩⟩
    · obtain ⟨_, _, _, _, p, _⟩ := p
      exact p
    · obtain ⟨f2, lat, z5, z6, t6, A2, lw2, B2, hin, hlen2, rfl⟩ := p
      obtain ⟨s7, k1, ek, du⟩ := y
      rw [eK] at hk'
      rw [hk_kind hk'] at ek
      cases ek
      obtain ⟨a, u1, u2, rfl, sq, du1, du2⟩ := of_tup2 du
      have e1 := of_num du1
      subst e1
      obtain ⟨kv, hkv, hF⟩ := A2.dd
      have hkv7 := s7 _ _ hkv
      have hF7 := hF.tx (.same s7)
      have hll7 := s7 _ _ A2.ll
      refine ⟨a, [.int (k : Int), u2], rfl, sq, rfl, .int (k : Int), [u2], rfl, u2, [], rfl, rfl, _, rfl, kind_rd2 o du2 rfl hk' hx ⟨_, rfl, d, _, rfl, DGet.k (k := gI (h.step k x)) hkv7, _, rfl, ?_⟩⟩
      obtain ⟨b1, b2, b3, b4⟩ := B2.kind (fun l k => h.run_snoc 0 l k) hU hk'
      have sz := b1.size
      rw [List.length_range] at sz
      unfold bIn at b1 b2 b3 b4 sz
      rcases hF7.get gI_inj (h.step k x) with ⟨hm, l1, w1, g1, g2, g3⟩ | ⟨hm, g2⟩
      · rw [if_pos hm] at b1 b2 b3 b4
        rw [g2]
        refine iteF ⟨f2, lat, _, _, t6.trans (.same s7), ⟨sametr A2.same s7, hd, A2.l0, ⟨kv, hkv7, hF7⟩, hll7, A2.ln⟩, s7 _ _ lw2, b1, fun j hj => ?_, hlen2, rfl⟩
        rcases Nat.lt_succ_iff_lt_or_eq.mp hj with hj | hj
        · exact hin j hj
        · rw [hj]; exact hm
      · rw [if_neg hm] at b1 b2 b3 b4 sz
        dsimp only at b1 b2 b3 b4 sz
        rw [g2]
        refine iteT ?_
        have xin : x ∈ ky f2 := B2.pd _ List.mem_cons_self
        obtain ⟨l1, w1, g1, g4, g3⟩ : ∃ l v, look f2 x = some l ∧ valV kv (gI x) = some v ∧ DV K H7 (lk l) v := by
          rcases hF7.get gI_inj x with ⟨_, z⟩ | ⟨z, _⟩
          · exact z
          · exact absurd xin z
        obtain ⟨la, rfl, sql⟩ := of_lk g3
        have hl1 : (look f2 x).getD [] = l1 := by rw [g1]; rfl
        rw [hl1] at b1 b2 b3 b4 sz
        rw [List.length_append] at sz
        simp only [List.length_cons, List.length_nil] at sz
        have ll1 : l1.length < f2.length := by
          obtain ⟨l', e1, e2⟩ := look_some xin
          rw [g1] at e1
          cases e1
          exact A2.ln _ e2
        refine ⟨_, rfl, _, rfl, d, _, rfl, g4 ▸ DGet.k (k := gI x) hkv7, la, _, rfl, .inl sql, _, rfl, _, (dvs_nks (l := l1)).append (dvs_cons (k := nk k) dv_nk dvs_nil), ?_, fun w2 H8 s8 dw => ?_⟩
        · simp only [List.length_append, List.length_map, List.length_cons, List.length_nil]
          omega
        have du8 := du2.tx (.same s8)
        have hkv8 := s8 _ _ hkv7
        have dw' : DV K H8 (lk (l1 ++ [k])) w2 := by
          unfold lk
          rw [List.map_append]
          exact dw
        refine ⟨_, rfl, _, rfl, kind_rd2 o du8 rfl hk' hx ⟨d, _, rfl, DPut.k (k := gI (h.step k x)) hkv8 ?_, _, rfl, .inl ⟨rfl, _, SqL.of ((upd_ne d_l2.symm).trans (s8 _ _ hll7))⟩, _, rfl, ?_⟩⟩
        · rw [hF7.len]; omega
        have tp : TX H8 (upd H8 d (.dK (putK kv (gI (h.step k x)) w2))) := TX.mut (by rw [hkv8]; trivial)
        refine kind_rd2 o (du8.tx tp) rfl hk' hx ⟨l2, _, _, rfl, rfl, (upd_ne d_l2.symm).trans (s8 _ _ hll7), ?_, ?_⟩
        · rw [List.length_map]; omega
        have hl8 : (upd H8 d (.dK (putK kv (gI (h.step k x)) w2))) l2 = some (.lst (lat.map iv)) := (upd_ne d_l2.symm).trans (s8 _ _ hll7)
        have tq : TX (upd H8 d (.dK (putK kv (gI (h.step k x)) w2))) (upd (upd H8 d (.dK (putK kv (gI (h.step k x)) w2))) l2 (.lst (lat.map iv ++ [iv (h.step k x)]))) := TX.lst hl8
        refine ⟨f2 ++ [(h.step k x, l1 ++ [k])], lat ++ [h.step k x], _, _, ((t6.trans (.same s7)).trans (.same s8)).trans (tp.trans tq), ⟨same_upd (same_upd (sametr A2.same (sametr s7 s8)) hd) A2.l0, hd, A2.l0, ⟨_, (upd_ne d_l2).trans upd_same, ?_⟩, ?_, ?_⟩, ?_, b1, fun j hj => ?_, ?_, rfl⟩
        · have z := ((((hF7.tx (.same s8)).tx tp).tx tq).snoc (x := h.step k x) ((dw'.tx tp).tx tq))
          rw [← putK_new w2 g2] at z
          exact z
        · rw [upd_same, List.map_append]
          rfl
        · intro p hp
          rw [List.length_append]
          rcases List.mem_append.mp hp with hp | hp
          · have := A2.ln p hp
            simp only [List.length_cons, List.length_nil]
            omega
          · rw [List.mem_singleton.mp hp]
            simp only [List.length_append, List.length_cons, List.length_nil]
            omega
        · rw [upd_ne l_l2]
          have ld : l ≠ d := fun z => by
            rw [z] at lw2
            rw [hkv] at lw2
            cases lw2
          rw [upd_ne ld]
          exact s8 _ _ (s7 _ _ lw2)
        · rcases Nat.lt_succ_iff_lt_or_eq.mp hj with hj | hj
          · exact b3 _ (hin j hj)
          · rw [hj]; exact b2
        · rw [List.length_append, List.length_append, hlen2]
          simp only [List.length_cons, List.length_nil]
          omega
    · obtain ⟨f2, lat, z5, z6, t6, A2, lw2, B2, hin, hlen2, rfl⟩ := p
      rw [eK] at hin
      exact ⟨f2, lat, _, _, _, A2, lw2, B2.next trivial hin, hlen2, rfl⟩
  · obtain ⟨f2, lat, z4, z5, z6, A2, lw2, B2, hlen2, rfl⟩ := p
    rw [List.length_map, List.drop_length, List.nil_append] at B2
    refine ⟨_, rfl, hN _ _ _ ?_ ⟨f2, lat, l2, _, _, _, _, rfl, A2, B2, rfl⟩⟩
    have sz := B2.size
    rw [List.length_range] at sz
    rw [if_neg ne]
    by_cases e : lat = []
    · rw [if_pos e]
      rw [e] at hlen2
      simp only [List.length_nil] at hlen2
      omega
    · rw [if_neg e]
      have : 0 < lat.length := List.length_pos_iff.mpr e
      omega
end
end K14

/-! W10: reached_states, first_log, tell_apart. -/
namespace K14
open PySem PySem.Spec PyProof.Rows L2
theorem FL.reached {h : Hd} {f : List (Nat × List Nat)} (B : FL h f []) : ∀ s, s ∈ ky f ↔ h.Reached s := by
  have zero : (0 : Nat) ∈ ky f := by
    obtain ⟨r, e⟩ := B.hd
    rw [e]
    exact List.mem_cons_self
  have go : ∀ (l : List Nat) (s : Nat), s ∈ ky f → h.run s l ∈ ky f := by
    intro l
    induction l with
    | nil => exact fun s hs => hs
    | cons k l ih =>
      intro s hs
      refine ih _ ?_
      by_cases hk' : k < h.K
      · rcases B.cl s hs with z | z
        · exact nomatch z
        · exact z.2 k hk'
      · rw [h.step_junk s (Nat.le_of_not_lt hk')]
        exact zero
  intro s
  constructor
  · intro hs
    obtain ⟨l, _, hm⟩ := look_some hs
    exact ⟨l, (B.ok _ hm).1⟩
  · rintro ⟨l, rfl⟩
    exact go l 0 zero
theorem FD.keys {K : PySem.W.Frag} {H : Hp} {α κ : Type} [DecidableEq α] [DecidableEq κ] {g : α → κ} {f : List (α × List Nat)} {kvs : List (κ × V)} (h : FD K H g f kvs) : kvs.map (·.1) = (ky f).map g := by
  unfold FD at h
  induction h with
  | nil => rfl
  | cons hpq _ ih =>
    unfold ky at ih ⊢
    rw [List.map_cons, List.map_cons, List.map_cons, ih, hpq.1]
section
variable {P : Program} {w : World} {K : PySem.W.Frag} {mg : Str → Option Value} {base : Heap} {C S : Addr} {tH tP : Tok} {f : Addr} {fd : FuncData}
theorem sc_reached_states : FnScope ["handler"] ["handler"] (defScope s_reached_states) := ⟨rfl, rfl, rfl, by decide +kernel, rfl, by decide +kernel, by decide +kernel⟩
def sp_reached_states (K : PySem.W.Frag) : Sp := fun vs H Q _ => ∃ h v, vs = [v] ∧ h.Ok ∧ DV K H (hk h) v ∧ ∀ l u H', Same H H' → (∀ s ∈ l, h.Reached s) → l.length ≤ 8 → DV K H' (lk l) u → Q u H'
theorem ok_reached_states (T : Txt K mg C S tH tP) (F : FnP K "reached_states" "reached_states" s_reached_states f fd) (g_first_logs : Ok P w K mg base "first_logs" 1 ["handler"] (sp_first_logs K)) : FnOk P w K mg base CX0 2 f fd ["handler"] (sp_reached_states K) := by
  refine F.ok sc_reached_states (fun vs H Q E h => ?_) (fun cdv A outer s H vs Q E hr h => ⟨_, PSs.nox ((pss_one (ps_ret (pe_callTy (cr_tupOfK P w K ⟨rfl, rfl, rfl⟩) (by rfl) T.z_tuple (by decide +kernel) (pa_cons (pe_callB (call_sortedDI rfl) (by rfl) T.z_sorted (by decide +kernel) (pa_cons (pe_callO g_first_logs (hr.mono (by decide)) rfl (pa_cons (pv 0) pa_nil)) pa_nil)) pa_nil))))), ?_⟩)
  · obtain ⟨h, v, rfl, _⟩ := h
    rfl
  · obtain ⟨h, v, rfl, o, dh, q⟩ := h
    refine ⟨_, rfl, h, v, rfl, o, dh, fun d kvs f H1 s1 hd0 hd1 hF B => ?_⟩
    have n8 := o.n8
    have sz := B.size
    rw [List.length_range] at sz
    refine ⟨d, kvs, (ky f).map (fun n : Nat => (n : Int)), rfl, .inl hd1, ?_, ?_, fun ys p hp _ hn => ?_⟩
    · rw [hF.keys, List.map_map]
      rfl
    · rw [List.length_map]
      unfold ky
      rw [List.length_map]
      omega
    · have hy : ∀ y ∈ ys, y = ((y.toNat : Nat) : Int) := fun y hy => by
        obtain ⟨n, _, e⟩ := List.mem_map.mp (hp.mem_iff.mp hy)
        rw [← e, Int.toNat_natCast]
      have e1 : ys.map V.int = (ys.map Int.toNat).map iv := by
        rw [List.map_map]
        exact List.map_congr_left fun y h' => congrArg V.int (hy y h')
      have nw := same_new hn (o := .lst (ys.map V.int))
      refine ⟨p, _, (ys.map Int.toNat).map nk, rfl, SqL.of upd_same, ?_, fun u H2 s2 du => q _ u H2 (sametr s1 (sametr nw s2)) (fun s hs => ?_) ?_ du⟩
      · rw [e1]
        exact dvs_nks
      · obtain ⟨y, hy', rfl⟩ := List.mem_map.mp hs
        obtain ⟨n, hn', e⟩ := List.mem_map.mp (hp.mem_iff.mp hy')
        rw [← e, Int.toNat_natCast]
        exact (B.reached n).mp hn'
      · rw [List.length_map, hp.length_eq, List.length_map]
        unfold ky
        rw [List.length_map]
        omega
theorem sc_first_log : FnScope ["handler", "state"] ["handler", "state"] (defScope s_first_log) := ⟨rfl, rfl, rfl, by decide +kernel, rfl, by decide +kernel, by decide +kernel⟩
def sp_first_log (K : PySem.W.Frag) : Sp := fun vs H Q _ => ∃ h s v, vs = [v, iv s] ∧ h.Ok ∧ h.Reached s ∧ DV K H (hk h) v ∧ ∀ l u H', Same H H' → h.run 0 l = s → (∀ k ∈ l, k < h.K) → DV K H' (lk l) u → Q u H'
theorem ok_first_log (T : Txt K mg C S tH tP) (F : FnP K "first_log" "first_log" s_first_log f fd) (g_first_logs : Ok P w K mg base "first_logs" 1 ["handler"] (sp_first_logs K)) (g_require_state : Ok P w K mg base "require_state" 2 ["handler", "state"] (sp_require_state K)) :
    FnOk P w K mg base CX0 3 f fd ["handler", "state"] (sp_first_log K) := by
  refine F.ok sc_first_log (fun vs H Q E h => ?_) (fun cdv A outer s H vs Q E hr h => ?_)
  · obtain ⟨h, s, v, rfl, _⟩ := h
    rfl
  have hu := hu_of hr
  refine ⟨_, PSs.nox ((pss_cons (ps_expr (pe_callO g_require_state (hr.mono (by decide)) rfl (pa_cons (pv 0) (pa_cons (pv 1) pa_nil))))
  (pss_one (ps_ret (pe_dget1 hu (pe_callO g_first_logs (hr.mono (by decide)) rfl (pa_cons (pv 0) pa_nil)) (pv 1) ⟨rfl, rfl, rfl, rfl⟩))))), ?_⟩
  obtain ⟨h, s, v, rfl, o, r, dh, q⟩ := h
  refine ⟨_, rfl, _, rfl, h, s, v, rfl, dh, r.lt o, _, rfl, h, v, rfl, o, dh, fun d kvs f H1 s1 hd0 hd1 hF B => ?_⟩
  rcases hF.get gI_inj s with ⟨hm, l, u, e1, e2, du⟩ | ⟨hm, _⟩
  · refine ⟨d, rfl, .inl ⟨_, .inl hd1⟩, _, rfl, _, DGet.k (k := gI s) hd1, ?_⟩
    rw [e2]
    obtain ⟨l', e3, e4⟩ := look_some hm
    rw [e1] at e3
    cases e3
    obtain ⟨e5, e6⟩ := B.ok _ e4
    exact q l u H1 s1 e5.symm e6 du
  · exact absurd ((B.reached s).mpr r) hm
/-! ### tell_apart -/
def gP (p : Nat × Nat) : NestedKey := lk [p.1, p.2]
omit K in
theorem gP_inj : ∀ a b : Nat × Nat, gP a = gP b → a = b := fun a b e => by
  have e2 := lk_inj e
  simp only [List.cons.injEq, and_true] at e2
  exact Prod.ext e2.1 e2.2
def step2 (h : Hd) (k : Nat) (p : Nat × Nat) : Nat × Nat := (h.step k p.1, h.step k p.2)
def pairsN (n : Nat) : List (Nat × Nat) := (List.range n).flatMap fun a => (List.range n).map fun b => (a, b)
theorem mem_pairsN {n : Nat} {p : Nat × Nat} : p ∈ pairsN n ↔ p.1 < n ∧ p.2 < n := by
  obtain ⟨a, b⟩ := p
  simp [pairsN]
theorem pairsN_len {n : Nat} (h : n ≤ 8) : (pairsN n).length ≤ 64 := by
  unfold pairsN
  have h1 := flat_len (f := fun a => (List.range n).map fun b => (a, b)) (m := n) (List.range n) fun x _ => by simp
  rw [List.length_range] at h1
  exact Nat.le_trans h1 (Nat.mul_le_mul h h)
abbrev TA2 (h : Hd) (s t : Nat) (f : List ((Nat × Nat) × List Nat)) (pend : List (Nat × Nat)) : Prop :=
  BI h.K (step2 h) (fun p => h.lab p.1 = h.lab p.2) (fun l => (h.run s l, h.run t l)) (pairsN h.n) f pend
theorem TA2.alike {h : Hd} {s t : Nat} {f : List ((Nat × Nat) × List Nat)} (B : TA2 h s t f []) : Alike h s t := by
  refine alike_of (fun a b => (a, b) ∈ ky f) (fun a b r => ?_) (fun a b k hk' r => ?_) ?_
  · rcases B.cl _ r with z | z
    · exact nomatch z
    · exact z.1
  · rcases B.cl _ r with z | z
    · exact nomatch z
    · exact z.2 k hk'
  · obtain ⟨r, e⟩ := B.hd
    rw [e]
    exact List.mem_cons_self
theorem sm_nk (n : Nat) : Sm (nk n) := ⟨by show (0 : Nat) ≤ 8; omega, rfl⟩
theorem lab_rd0 {K : PySem.W.Frag} {H : Hp} {h : Hd} {p : Nat × Nat} {x v1 : V} {Q : VK} (dx : DV K H (gP p) x) (dl : DV K H (lk h.labs) v1) (hp : p.1 < h.n) (q : Q (iv (h.lab p.1)) H) : rIxD K x (.int 0) H fun y H1 => rIxD K v1 y H1 Q := by
  refine ⟨_, 0, _, dx, rfl, rfl, fun z dz => ⟨_, p.1, _, dl, of_num dz, lk_get hp, fun u du => ?_⟩⟩
  rw [of_num du]
  exact q
theorem lab_rd1 {K : PySem.W.Frag} {H : Hp} {h : Hd} {p : Nat × Nat} {x v1 : V} {Q : VK} (dx : DV K H (gP p) x) (dl : DV K H (lk h.labs) v1) (hp : p.2 < h.n) (q : Q (iv (h.lab p.2)) H) : rIxD K x (.int 1) H fun y H1 => rIxD K v1 y H1 Q := by
  refine ⟨_, 1, _, dx, rfl, rfl, fun z dz => ⟨_, p.2, _, dl, of_num dz, lk_get hp, fun u du => ?_⟩⟩
  rw [of_num du]
  exact q
theorem pair_rd0 {K : PySem.W.Frag} {H : Hp} {h : Hd} {k j : Nat} {p : Nat × Nat} {x u : V} {σ : L2.St} {Q : VK} (o : h.Ok) (du : DV K H (kk1 (h.kinds.getD k (0, []))) u) (dx : DV K H (gP p) x) (ej : σ[j]? = some (some x)) (hk' : k < h.K) (hp : p.1 < h.n) (q : Q (iv (h.step k p.1)) H) :
    rIxD K u (.int 1) H fun x1 H1 => ∃ v, σ[j]? = some (some v) ∧ rIxD K v (.int 0) H1 fun z H2 => rIxD K x1 z H2 Q := by
  refine ⟨_, 1, _, du, rfl, rfl, fun x1 d1 => ⟨_, ej, _, 0, _, dx, rfl, rfl, fun z dz => ⟨_, p.1, _, d1, of_num dz, lk_get (by rw [show (h.kinds.getD k (0, [])).2 = h.tg k from rfl, (o.kind hk').1]; exact hp), fun y dy => ?_⟩⟩⟩
  rw [of_num dy]
  exact q
theorem pair_rd1 {K : PySem.W.Frag} {H : Hp} {h : Hd} {k j : Nat} {p : Nat × Nat} {x u : V} {σ : L2.St} {Q : VK} (o : h.Ok) (du : DV K H (kk1 (h.kinds.getD k (0, []))) u) (dx : DV K H (gP p) x) (ej : σ[j]? = some (some x)) (hk' : k < h.K) (hp : p.2 < h.n) (q : Q (iv (h.step k p.2)) H) :
    rIxD K u (.int 1) H fun x1 H1 => ∃ v, σ[j]? = some (some v) ∧ rIxD K v (.int 1) H1 fun z H2 => rIxD K x1 z H2 Q := by
  refine ⟨_, 1, _, du, rfl, rfl, fun x1 d1 => ⟨_, ej, _, 1, _, dx, rfl, rfl, fun z dz => ⟨_, p.2, _, d1, of_num dz, lk_get (by rw [show (h.kinds.getD k (0, [])).2 = h.tg k from rfl, (o.kind hk').1]; exact hp), fun y dy => ?_⟩⟩⟩
  rw [of_num dy]
  exact q
/-- the heap while the search runs -/
structure TlAt (P : Program) (w : World) (K : PySem.W.Frag) (H H' : Hp) (d l : Addr) (f : List ((Nat × Nat) × List Nat)) (later : List (Nat × Nat)) : Prop where
  same : Same H H'
  d0 : H d = none
  l0 : H l = none
  ne : d ≠ l
  dd : ∃ kvs, ND P w K H' d kvs ∧ FD K H' gP f kvs
  ll : ∃ us, H' l = some (.lst us) ∧ DVs K H' (later.map gP) us
  ln : ∀ p ∈ f, p.2.length < f.length
theorem TlAt.on {P : Program} {w : World} {K : PySem.W.Frag} {H H' H2 : Hp} {d l : Addr} {f : List ((Nat × Nat) × List Nat)} {later : List (Nat × Nat)} (A : TlAt P w K H H' d l f later) (s : Same H' H2) : TlAt P w K H H2 d l f later := by
  obtain ⟨kvs, h1, h2⟩ := A.dd
  obtain ⟨us, h3, h4⟩ := A.ll
  exact ⟨sametr A.same s, A.d0, A.l0, A.ne, ⟨kvs, h1.same s, h2.tx (.same s)⟩, ⟨us, s _ _ h3, h4.tx (.same s)⟩, A.ln⟩
theorem sc_tell_apart : FnScope ["handler", "one", "other", "labels", "kinds", "known", "waiting", "later", "pair", "index", "kind", "there"] ["handler", "one", "other"] (defScope s_tell_apart) := ⟨rfl, rfl, rfl, by decide +kernel, rfl, by decide +kernel, by decide +kernel⟩
def sp_tell_apart (K : PySem.W.Frag) : Sp := fun vs H Q _ => ∃ h s t v, vs = [v, iv s, iv t] ∧ h.Ok ∧ s < h.n ∧ t < h.n ∧ DV K H (hk h) v ∧ (Alike h s t → ∀ H', Same H H' → Q .non H') ∧
  ∀ l u H', Same H H' → (∀ k ∈ l, k < h.K) → h.lab (h.run s l) ≠ h.lab (h.run t l) → DV K H' (lk l) u → Q u H'
theorem ok_tell_apart (T : Txt K mg C S tH tP) (F : FnP K "tell_apart" "tell_apart" s_tell_apart f fd) (g_require_state : Ok P w K mg base "require_state" 2 ["handler", "state"] (sp_require_state K)) :
    FnOk P w K mg base CX0 3 f fd ["handler", "one", "other"] (sp_tell_apart K) := by
  refine F.ok sc_tell_apart (fun vs H Q E h => ?_) (fun cdv A outer s H vs Q E hr h => ⟨_, PSs.nox ((pss_cons (ps_expr (pe_callO g_require_state (hr.mono (by decide)) rfl (pa_cons (pv 0) (pa_cons (pv 1) pa_nil))))
  (pss_cons (ps_expr (pe_callO g_require_state (hr.mono (by decide)) rfl (pa_cons (pv 0) (pa_cons (pv 2) pa_nil))))
  (pss_cons (ps_asg (pv 0) (pg_tupK P w K ⟨rfl, rfl, rfl⟩ (by rfl) (pgs_cons (pg_name (i := 3) sc_tell_apart.nd rfl (.inl rfl)) (pgs_cons (pg_name (i := 4) sc_tell_apart.nd rfl (.inl rfl)) pgs_nil))))
  (pss_cons (ps_par (i := 5) (j := 6) (by rfl) sc_tell_apart.nd rfl rfl (by decide) rfl rfl (pa_cons (pe_none1K P w K ⟨rfl, rfl, rfl⟩ hr (pe_tupDK P w K ⟨rfl, rfl, rfl⟩ (pa_cons (pv 1) (pa_cons (pv 2) pa_nil))) (pe_tupDK P w K ⟨rfl, rfl, rfl⟩ pa_nil)) (pa_cons (pe_lst (pa_cons (pe_tupDK P w K ⟨rfl, rfl, rfl⟩ (pa_cons (pv 1) (pa_cons (pv 2) pa_nil))) pa_nil)) pa_nil)) (by rfl))
  (pss_cons (ps_while PassesOwn.never (pt_cmpR (op_nenilK P w K ⟨rfl, rfl, rfl⟩ hr) (pv 6) (pe_lst pa_nil) (nomark _))
    (pss_cons (ps_set (i := 7) sc_tell_apart.nd rfl (.inl rfl) (pe_lst pa_nil))
  (pss_cons (ps_for PassesOwn.never rfl (pi_LDK P w K ⟨rfl, rfl, rfl⟩ (pv 6)) (pg_name (i := 8) sc_tell_apart.nd rfl (.inl rfl))
    (pss_cons (ps_if (pt_cmpR (op_dneK P w K ⟨rfl, rfl, rfl⟩ hr) (pe_ix (ix_datK P w K ⟨rfl, rfl, rfl⟩) (pv 3) (pe_ix (ix_datK P w K ⟨rfl, rfl, rfl⟩) (pv 8) pe_int (fun _ _ => rfl)) (fun _ _ => rfl)) (pe_ix (ix_datK P w K ⟨rfl, rfl, rfl⟩) (pv 3) (pe_ix (ix_datK P w K ⟨rfl, rfl, rfl⟩) (pv 8) pe_int (fun _ _ => rfl)) (fun _ _ => rfl)) (nomark _)) (pss_one (ps_ret (pe_ngetK P w K ⟨rfl, rfl, rfl⟩ hr (pv 5) (pv 8) (fun _ _ => rfl)))) pss_nil)
  (pss_one (ps_for PassesOwn.never rfl (pi_ED P w K ⟨rfl, rfl, rfl⟩ (by rfl) T.z_enumerate (pa_cons (pv 4) pa_nil)) (pg_tupK P w K ⟨rfl, rfl, rfl⟩ (by rfl) (pgs_cons (pg_name (i := 9) sc_tell_apart.nd rfl (.inl rfl)) (pgs_cons (pg_name (i := 10) sc_tell_apart.nd rfl (.inl rfl)) pgs_nil)))
    (pss_cons (ps_set (i := 11) sc_tell_apart.nd rfl (.inl rfl) (pe_tupDK P w K ⟨rfl, rfl, rfl⟩ (pa_cons (pe_ix (ix_datK P w K ⟨rfl, rfl, rfl⟩) (pe_ix (ix_datK P w K ⟨rfl, rfl, rfl⟩) (pv 10) pe_int (fun _ _ => rfl)) (pe_ix (ix_datK P w K ⟨rfl, rfl, rfl⟩) (pv 8) pe_int (fun _ _ => rfl)) (fun _ _ => rfl)) (pa_cons (pe_ix (ix_datK P w K ⟨rfl, rfl, rfl⟩) (pe_ix (ix_datK P w K ⟨rfl, rfl, rfl⟩) (pv 10) pe_int (fun _ _ => rfl)) (pe_ix (ix_datK P w K ⟨rfl, rfl, rfl⟩) (pv 8) pe_int (fun _ _ => rfl)) (fun _ _ => rfl)) pa_nil))))
  (pss_one (ps_if (pt_cmpR (op_nnotinK P w K ⟨rfl, rfl, rfl⟩ hr) (pv 11) (pv 5) rfl) (pss_cons (ps_asg (pe_tupDK P w K ⟨rfl, rfl, rfl⟩ (pa_starK P w K ⟨rfl, rfl, rfl⟩ (pe_ngetK P w K ⟨rfl, rfl, rfl⟩ hr (pv 5) (pv 8) (fun _ _ => rfl)) (pa_cons (pv 9) pa_nil))) (pg_sub (pv 5) (pv 11) (set_ndK P w K ⟨rfl, rfl, rfl⟩ hr)))
  (pss_one (ps_expr (pe_bmK P w K ⟨rfl, rfl, rfl⟩ PySem.F.plainAttrs_list PySem.F.slot_list_append PySem.F.type_list_append mt_append (pv 7) (pa_cons (pv 11) pa_nil))))) pss_nil)))))))
  (pss_one (ps_set (i := 6) sc_tell_apart.nd rfl (.inl rfl) (pv 7))))))
  (pss_one (ps_ret pe_non)))))))), ?_⟩)
  · obtain ⟨h, s, t, v, rfl, _⟩ := h
    rfl
  obtain ⟨h, s, t, v, rfl, o, hs, ht, dh, q1, q2⟩ := h
  have n8 := o.n8
  have k6 := o.k6
  have small : 200 < sizeLine := by decide
  have eK : (h.kinds.map kk1).length = h.K := by rw [List.length_map]; rfl
  have hU : ∀ x k, x ∈ pairsN h.n → k < h.K → step2 h k x ∈ pairsN h.n := fun x k _ _ => mem_pairsN.mpr ⟨h.step_lt o k _, h.step_lt o k _⟩
  have gd : ∀ p : Nat × Nat, (gP p).depth ≤ 8 := fun p => by unfold gP; rw [lk_depth]; omega
  obtain ⟨a0, v1, v2, rfl, sq0, d1, d2⟩ := of_tup2 dh
  refine ⟨_, rfl, _, rfl, h, s, _, rfl, dh, hs, _, rfl, _, rfl, h, t, _, rfl, dh, ht, _, rfl, a0, [v1, v2], rfl, sq0, rfl, v1, [v2], rfl, v2, [], rfl, rfl, fun d H1 hd ho1 s1 nd1 => ?_⟩
  refine ⟨_, rfl, _, rfl, [nk s, nk t], dvs_cons dv_nk (dvs_cons dv_nk dvs_nil), (by show 2 ≤ sizeLine; decide), fun kv H2 s2 dk => ⟨[], dvs_nil, Nat.zero_le _, fun tv H3 s3 dt => ⟨(nd1.same s2).same s3, _, dk.tx (.same s3), gd (s, t), fun H4 ho4 t4 nd4 => ?_⟩⟩⟩
  have sA : Same H H4 := fun c o z => by
    have ne : c ≠ d := fun e => by rw [e, hd] at z; cases z
    rw [ho4 c ne]
    exact s3 _ _ (s2 _ _ (s1 _ _ z))
  refine ⟨_, rfl, _, rfl, [nk s, nk t], dvs_cons dv_nk (dvs_cons dv_nk dvs_nil), (by show 2 ≤ sizeLine; decide), fun pv H5 s5 dp => ⟨(by show 1 ≤ sizeLine; decide), fun l hl => ⟨_, _, rfl, ?_⟩⟩⟩
  have nd5 := nd4.same s5
  have dl : d ≠ l := by
    obtain ⟨xs, hx, _⟩ := nd5
    exact ne_of_none hx hl
  have l0 : H l = none := (sametr sA s5).free hl
  have t6 : TX H5 (upd H5 l (.lst [pv])) := TX.new hl
  refine while_ne (fun m σ H' => ∃ f pend l y7 y8 y9 y10 y11, m = 2 * ((pairsN h.n).length - f.length) + (if pend = [] then 0 else 1) ∧ TlAt P w K H H' d l f pend ∧ TA2 h s t f pend ∧ σ = [some (.ref a0), some (iv s), some (iv t), some v1, some v2, some (.ref d), some (.ref l), y7, y8, y9, y10, y11])
    ⟨_, [((s, t), [])], [(s, t)], l, _, _, _, _, _, rfl, ⟨same_upd (sametr sA s5) l0, hd, l0, dl, ⟨_, nd5.upd dl t6, .cons ⟨rfl, ((dt.tx t4).tx (.same s5)).tx t6⟩ .nil⟩, ⟨_, upd_same, dvs_cons (dp.tx t6) dvs_nil⟩, fun p hp => by rw [List.mem_singleton.mp hp]; exact Nat.zero_lt_one⟩,
      BI.start (mem_pairsN.mpr ⟨hs, ht⟩), rfl⟩ ?_
  clear dl l0 t6 nd5 hl dp s5 sA nd4 t4 ho4 dt s3 dk s2 nd1 s1 ho1
  rintro m σ H2 ⟨fm, pend, l, y7, y8, y9, y10, y11, rfl, A, B, rfl⟩
  obtain ⟨us, hll, hds⟩ := A.ll
  refine ⟨l, us, rfl, SqL.of hll, fun H3 s3 => ⟨fun e => ?_, fun e N hN => ?_⟩⟩
  · have e' : pend = [] := by
      have z := hds.length
      rw [e, List.length_map] at z
      exact List.length_eq_zero_iff.mp z.symm
    subst e'
    exact q1 B.alike H3 (sametr A.same s3)
  have ne : pend ≠ [] := fun z => e (by rw [z] at hds; exact of_nil hds)
  refine ⟨Nat.zero_le _, fun l2 hl2 => ?_⟩
  obtain ⟨kvs, nd2, hF2⟩ := A.dd
  have t3 : TX H2 (upd H3 l2 (.lst [])) := TX.trans (.same s3) (.new hl2)
  have d_l2 : d ≠ l2 := by
    obtain ⟨xs, hx, _⟩ := nd2
    exact ne_of_none (s3 _ _ hx) hl2
  have l_l2 : l ≠ l2 := ne_of_none (s3 _ _ hll) hl2
  have l2_0 : H l2 = none := (sametr A.same s3).free hl2
  have lw : (upd H3 l2 (.lst [])) l = some (.lst us) := (upd_ne l_l2).trans (s3 _ _ hll)
  have s4 : Same H3 (upd H3 l2 (.lst [])) := same_new hl2
  refine ⟨_, rfl, l, us, pend.map gP, rfl, SqL.of lw, hds.tx t3, fun J wk => for_it wk (fun i σ H4 => ∃ f later y8 y9 y10 y11, TX (upd H3 l2 (.lst [])) H4 ∧ TlAt P w K H H4 d l2 f later ∧ H4 l = some (.lst us) ∧ TA2 h s t f (pend.drop i ++ later) ∧ f.length = fm.length + later.length ∧
      σ = [some (.ref a0), some (iv s), some (iv t), some v1, some v2, some (.ref d), some (.ref l), some (.ref l2), y8, y9, y10, y11])
    ⟨fm, [], _, _, _, _, .refl _, ⟨sametr (sametr A.same s3) s4, hd, l2_0, d_l2, ⟨kvs, (nd2.same s3).same s4, hF2.tx t3⟩, ⟨[], upd_same, dvs_nil⟩, A.ln⟩, lw, by simpa using B, rfl, rfl⟩ (fun i σ H4 _ p => ?_) (fun i x σ H4 H5 hi p y => ?_) (fun σ H4 p => ?_)⟩
  · obtain ⟨_, _, _, _, _, _, p1, _, p2, _⟩ := p
    exact ⟨SqL.of p2, p1⟩
  · obtain ⟨f1, later, z8, z9, z10, z11, t4, A1, lw1, B1, hlen, rfl⟩ := p
    obtain ⟨e1, k0, ek, dx⟩ := y
    subst e1
    rw [List.length_map] at hi
    have ek0 : k0 = gP pend[i] := by
      rw [List.getElem?_map, List.getElem?_eq_getElem hi] at ek
      exact (Option.some.inj ek).symm
    subst ek0
    have ed : pend.drop i = pend[i] :: pend.drop (i + 1) := List.drop_eq_getElem_cons hi
    rw [ed] at B1
    have hx := mem_pairsN.mp (B1.sub _ (B1.pd _ List.mem_cons_self))
    generalize hpe : pend[i] = p at B1 hx dx
    have d1' := d1.tx (.same A1.same)
    have d2' := d2.tx (.same A1.same)
    refine ⟨_, rfl, _, rfl, lab_rd0 dx d1' hx.1 ⟨_, rfl, _, rfl, lab_rd1 dx d1' hx.2 ⟨nk _, nk _, dv_nk, dv_nk, sm_nk _, sm_nk _, _, rfl, ?_⟩⟩⟩
    have xin : p ∈ ky f1 := B1.pd _ List.mem_cons_self
    by_cases el : h.lab p.1 = h.lab p.2
    · rw [decide_eq_true (by rw [el])]
      refine ⟨_, rfl, v2, _, rfl, d2', fun J wk => for_it wk (fun j σ H6 => ∃ f later y9 y10 y11, TX H5 H6 ∧ TlAt P w K H H6 d l2 f later ∧ H6 l = some (.lst us) ∧ TA2 h s t f (p :: (pend.drop (i + 1) ++ later)) ∧ (∀ k, k < j → step2 h k p ∈ ky f) ∧ f.length = fm.length + later.length ∧
        σ = [some (.ref a0), some (iv s), some (iv t), some v1, some v2, some (.ref d), some (.ref l), some (.ref l2), some x, y9, y10, y11]) ⟨f1, later, _, _, _, .refl _, A1, lw1, by simpa using B1, fun k hk' => absurd hk' (Nat.not_lt_zero k), hlen, rfl⟩ (fun j σ H6 _ p => ?_) (fun k u σ H6 H7 hk' p y => ?_) (fun σ H6 p => ?_)⟩
      · obtain ⟨_, _, _, _, _, p1, _⟩ := p
        exact p1
      · obtain ⟨f2, lat, z9, z10, z11, t6, A2, lw2, B2, hin, hlen2, rfl⟩ := p
        obtain ⟨s7, k1, ek, du⟩ := y
        rw [eK] at hk'
        rw [hk_kind hk'] at ek
        cases ek
        obtain ⟨a, u1, u2, rfl, sq, du1, du2⟩ := of_tup2 du
        have e1 := of_num du1
        subst e1
        have A7 := A2.on s7
        have dx7 := (dx.tx t6).tx (.same s7)
        refine ⟨a, [.int (k : Int), u2], rfl, sq, rfl, .int (k : Int), [u2], rfl, u2, [], rfl, rfl, _, rfl, pair_rd0 o du2 dx7 rfl hk' hx.1 ⟨_, rfl, pair_rd1 o du2 dx7 rfl hk' hx.2 ⟨_, dvs_cons dv_nk (dvs_cons dv_nk dvs_nil), (by show 2 ≤ sizeLine; decide), fun tv H8 s8 dtv => ?_⟩⟩⟩
        have dtv' : DV K H8 (gP (step2 h k p)) tv := dtv
        have A8 := A7.on s8
        obtain ⟨kv, nd8, hF8⟩ := A8.dd
        refine ⟨_, rfl, _, rfl, d, _, rfl, nget_of nd8.r dtv (gd (step2 h k p)), _, rfl, ?_⟩
        obtain ⟨b1, b2, b3, b4⟩ := B2.kind (step := step2 h) (fun l k => by show (h.run s (l ++ [k]), h.run t (l ++ [k])) = _; rw [h.run_snoc, h.run_snoc]; rfl) hU hk'
        have sz := b1.size
        have pl := pairsN_len n8
        unfold bIn at b1 b2 b3 b4 sz
        have hget := hF8.get gP_inj (step2 h k p)
        rw [show valV kv (NestedKey.tup [nk (h.step k p.1), nk (h.step k p.2)]) = valV kv (gP (step2 h k p)) from rfl]
        rcases hget with ⟨hm, l1, w1, g1, g2, g3⟩ | ⟨hm, g2⟩
        · rw [if_pos hm] at b1 b2 b3 b4
          rw [g2]
          refine iteF ⟨f2, lat, _, _, _, (t6.trans (.same s7)).trans (.same s8), A8, s8 _ _ (s7 _ _ lw2), b1, fun j hj => ?_, hlen2, rfl⟩
          rcases Nat.lt_succ_iff_lt_or_eq.mp hj with hj | hj
          · exact hin j hj
          · rw [hj]; exact hm
        · rw [if_neg hm] at b1 b2 b3 b4 sz
          dsimp only at b1 b2 b3 b4 sz
          rw [g2]
          refine iteT ?_
          have xin : p ∈ ky f2 := B2.pd _ List.mem_cons_self
          obtain ⟨l1, w1, g1, g4, g3⟩ : ∃ l v, look f2 p = some l ∧ valV kv (gP p) = some v ∧ DV K H8 (lk l) v := by
            rcases hF8.get gP_inj p with ⟨_, z⟩ | ⟨z, _⟩
            · exact z
            · exact absurd xin z
          obtain ⟨la, rfl, sql⟩ := of_lk g3
          have hl1 : (look f2 p).getD [] = l1 := by rw [g1]; rfl
          rw [hl1] at b1 b2 b3 b4 sz
          rw [List.length_append] at sz
          simp only [List.length_cons, List.length_nil] at sz
          have ll1 : l1.length < f2.length := by
            obtain ⟨l', e1, e2⟩ := look_some xin
            rw [g1] at e1
            cases e1
            exact A2.ln _ e2
          have gp := nget_of nd8.r (dx7.tx (.same s8)) (gd p)
          rw [show valV kv (NestedKey.tup ([p.1, p.2].map nk)) = some (V.ref la) from g4] at gp
          refine ⟨_, rfl, _, rfl, d, _, rfl, gp, la, _, rfl, .inl sql, _, rfl, _, (dvs_nks (l := l1)).append (dvs_cons (k := nk k) dv_nk dvs_nil), ?_, fun w2 H9 s9 dw => ⟨_, rfl, _, rfl, d, _, kv, rfl, nd8.same s9, dtv.tx (.same s9), gd (step2 h k p), ?_, fun H10 ho10 t10 nd10 => ?_⟩⟩
          · simp only [List.length_append, List.length_map, List.length_cons, List.length_nil]
            omega
          · rw [hF8.len]; omega
          have dw' : DV K H9 (lk (l1 ++ [k])) w2 := by
            unfold lk
            rw [List.map_append]
            exact dw
          obtain ⟨vs, hl8, dvs8⟩ := A8.ll
          have hl10 : H10 l2 = some (.lst vs) := (ho10 _ d_l2.symm).trans (s9 _ _ hl8)
          refine ⟨_, rfl, .inl ⟨rfl, _, SqL.of hl10⟩, _, rfl, l2, _, _, rfl, rfl, hl10, ?_, ?_⟩
          · rw [dvs8.length, List.length_map]; omega
          have tq : TX H10 (upd H10 l2 (.lst (vs ++ [tv]))) := TX.lst hl10
          have t8 : TX H8 (upd H10 l2 (.lst (vs ++ [tv]))) := (TX.same s9).trans (t10.trans tq)
          refine ⟨f2 ++ [(step2 h k p, l1 ++ [k])], lat ++ [step2 h k p], _, _, _, ((t6.trans (.same s7)).trans (.same s8)).trans t8, ⟨same_upd (fun c o z => ?_) A2.l0, hd, A2.l0, d_l2, ⟨_, nd10.upd d_l2 tq, ?_⟩, ⟨_, upd_same, ?_⟩, ?_⟩, ?_, b1, fun j hj => ?_, ?_, rfl⟩
          · have ne : c ≠ d := fun e => by rw [e, hd] at z; cases z
            rw [ho10 c ne]
            exact s9 _ _ (A8.same _ _ z)
          · have z := (hF8.tx t8).snoc (x := step2 h k p) ((dw'.tx t10).tx tq)
            rw [← putK_new w2 g2] at z
            exact z
          · rw [List.map_append]
            exact (dvs8.tx t8).snoc (dtv'.tx t8)
          · intro p hp
            rw [List.length_append]
            rcases List.mem_append.mp hp with hp | hp
            · have := A2.ln p hp
              simp only [List.length_cons, List.length_nil]
              omega
            · rw [List.mem_singleton.mp hp]
              simp only [List.length_append, List.length_cons, List.length_nil]
              omega
          · rw [upd_ne l_l2]
            have ld : l ≠ d := A.ne.symm
            rw [ho10 l ld]
            exact s9 _ _ (s8 _ _ (s7 _ _ lw2))
          · rcases Nat.lt_succ_iff_lt_or_eq.mp hj with hj | hj
            · exact b3 _ (hin j hj)
            · rw [hj]; exact b2
          · rw [List.length_append, List.length_append, hlen2]
            simp only [List.length_cons, List.length_nil]
            omega
      · obtain ⟨f2, lat, z9, z10, z11, t6, A2, lw2, B2, hin, hlen2, rfl⟩ := p
        rw [eK] at hin
        exact ⟨f2, lat, _, _, _, _, t4.trans t6, A2, lw2, B2.next el hin, hlen2, rfl⟩
    · rw [decide_eq_false (fun z => el (nk_inj z))]
      obtain ⟨kv, nd4, hF4⟩ := A1.dd
      rcases hF4.get gP_inj p with ⟨hm, l1, w1, g1, g2, g3⟩ | ⟨hm, _⟩
      · have gp := nget_of nd4.r dx (gd p)
        rw [show valV kv (NestedKey.tup ([p.1, p.2].map nk)) = some w1 from g2] at gp
        obtain ⟨l', e1, e2⟩ := look_some hm
        rw [g1] at e1
        cases e1
        obtain ⟨e3, e4⟩ := B1.ok _ e2
        refine ⟨_, rfl, _, rfl, d, _, rfl, gp, q2 l1 w1 _ A1.same e4 (fun z => el ?_) g3⟩
        rw [show p = (h.run s l1, h.run t l1) from e3]
        exact z
      · exact absurd xin hm
  · obtain ⟨f2, lat, z8, z9, z10, z11, t4, A2, lw2, B2, hlen2, rfl⟩ := p
    rw [List.length_map, List.drop_length, List.nil_append] at B2
    refine ⟨_, rfl, hN _ _ _ ?_ ⟨f2, lat, l2, _, _, _, _, _, rfl, A2, B2, rfl⟩⟩
    have sz := B2.size
    rw [if_neg ne]
    by_cases e : lat = []
    · rw [if_pos e]
      rw [e] at hlen2
      simp only [List.length_nil] at hlen2
      omega
    · rw [if_neg e]
      have : 0 < lat.length := List.length_pos_iff.mpr e
      omega
end
end K14

/-! W11: with_two, least_handler. -/
namespace K14
open PySem PySem.Spec PyProof.Rows L2
theorem range_map_get {α : Type} {l : List α} {n : Nat} {g : α → NestedKey} (d : α) (e : n = l.length) : ((List.range n).filterMap fun i => some (g (l.getD i d))) = l.map g := by
  subst e
  rw [List.filterMap_eq_map']
  refine List.ext_getElem (by simp) fun i h1 h2 => ?_
  have hi : i < l.length := by simpa using h1
  simp [List.getD, List.getElem?_eq_getElem hi]
theorem map_get {α β : Type} {l : List α} {g : α → β} {i : Nat} {k : β} (d : α) (e : (l.map g)[i]? = some k) : i < l.length ∧ k = g (l.getD i d) := by
  rw [List.getElem?_map] at e
  cases q : l[i]? with
  | none => rw [q] at e; cases e
  | some x =>
    obtain ⟨hi, en⟩ := List.getElem?_eq_some_iff.mp q
    rw [q] at e
    refine ⟨hi, ?_⟩
    rw [getD_lt hi, en]
    exact (Option.some.inj e).symm
section
variable {P : Program} {w : World} {K : PySem.W.Frag} {mg : Str → Option Value} {base : Heap} {C S : Addr} {tH tP : Tok} {f : Addr} {fd : FuncData}
theorem sc_with_two : FnScope ["labels", "kinds", "sender", "targets"] ["labels", "kinds"] (defScope s_with_two) := ⟨rfl, rfl, rfl, by decide +kernel, rfl, by decide +kernel, by decide +kernel⟩
def sp_with_two (K : PySem.W.Frag) : Sp := fun vs H Q _ => ∃ a b ls ks us, vs = [.ref a, .ref b] ∧ SqL K H a (ls.map iv) ∧ SqL K H b us ∧ DVs K H (ks.map kk1) us ∧ 1 ≤ ls.length ∧ ls.length ≤ 8 ∧ ks.length ≤ 6 ∧ (∀ p ∈ ks, p.2.length = ls.length) ∧
  ∀ v H', Same H H' → DV K H' (hk (withTwo ls ks)) v → Q v H'
theorem ok_with_two (T : Txt K mg C S tH tP) (F : FnP K "with_two" "with_two" s_with_two f fd) (g_in_order : Ok P w K mg base "in_order" 1 ["marks"] (sp_in_order K)) : FnOk P w K mg base CX0 2 f fd ["labels", "kinds"] (sp_with_two K) := by
  refine F.ok sc_with_two (fun vs H Q E h => ?_) (fun cdv A outer s H vs Q E hr h => ⟨_, PSs.nox ((pss_cons (ps_if (pt_cmpR op_gt (pe_callB (cr_lenSK P w K ⟨rfl, rfl, rfl⟩) (by rfl) T.z_len (by decide +kernel) (pa_cons (pv 0) pa_nil)) pe_int (nomark _)) (pss_one (ps_ret (pe_tupDK P w K ⟨rfl, rfl, rfl⟩ (pa_cons (pe_callO g_in_order (hr.mono (by decide)) rfl (pa_cons (pv 0) pa_nil)) (pa_cons (pe_callTy (cr_tupOfK P w K ⟨rfl, rfl, rfl⟩) (by rfl) T.z_tuple (by decide +kernel) (pa_cons (pv 1) pa_nil)) pa_nil))))) pss_nil)
  (pss_one (ps_ret (pe_tupDK P w K ⟨rfl, rfl, rfl⟩ (pa_cons (pe_tupDK P w K ⟨rfl, rfl, rfl⟩ (pa_cons pe_int (pa_cons pe_int pa_nil))) (pa_cons (pe_callTy (cr_tupOfK P w K ⟨rfl, rfl, rfl⟩) (by rfl) T.z_tuple (by decide +kernel) (pa_cons (pe_lc (own := [("sender", 2), ("targets", 3)]) (by rfl) sc_with_two.nd (pi_LDK P w K ⟨rfl, rfl, rfl⟩ (pv 1)) (blkOk_by (own := [("sender", 2), ("targets", 3)]) (N := ["labels", "kinds", "sender", "targets"]) (sc := defScope s_with_two) (by decide +kernel)) (fun _ _ _ _ _ => (pg_tupK (n := 2) P w K ⟨rfl, rfl, rfl⟩ (by rfl) (pgs_cons (pg_name (i := 2) sc_with_two.nd rfl (Or.inl rfl)) (pgs_cons (pg_name (i := 3) sc_with_two.nd rfl (Or.inl rfl)) pgs_nil)))) (fun _ _ _ _ _ => pts_nil) (fun _ _ _ _ _ => (pe_tupDK P w K ⟨rfl, rfl, rfl⟩ (pa_cons (pv 2) (pa_cons (pe_op (op_repTK P w K ⟨rfl, rfl, rfl⟩) (pv 3) pe_int) pa_nil))))) pa_nil)) pa_nil))))))), ?_⟩)
  · obtain ⟨a, b, ls, ks, us, rfl, _⟩ := h
    rfl
  · obtain ⟨a, b, ls, ks, us, rfl, sqa, sqb, ds, l1, l8, k6, tl, q⟩ := h
    have small : 200 < sizeLine := by decide
    refine ⟨_, rfl, a, ls.map iv, rfl, .inl sqa, _, _, rfl, rfl, _, rfl, ?_⟩
    rw [List.length_map]
    unfold withTwo at q
    by_cases c : 1 < ls.length
    · rw [if_pos c] at q
      rw [decide_eq_true (show (1 : Int) < (ls.length : Int) by omega)]
      refine ⟨_, rfl, a, rfl, .inl ⟨ls, .inl sqa, by omega, fun u1 H1 s1 du1 => ⟨_, rfl, b, us, ks.map kk1, rfl, s1.seq sqb, ds.tx (.same s1), fun u2 H2 s2 du2 => ⟨_, dvs_cons (du1.tx (.same s2)) (dvs_cons du2 dvs_nil), (by show 2 ≤ sizeLine; decide), fun v H3 s3 dv => q v H3 (sametr s1 (sametr s2 s3)) dv⟩⟩⟩⟩
    · rw [if_neg c] at q
      rw [decide_eq_false (show ¬ (1 : Int) < (ls.length : Int) by omega)]
      refine ⟨[nk 0, nk 0], dvs_cons dv_nk (dvs_cons dv_nk dvs_nil), (by show 2 ≤ sizeLine; decide), fun u1 H1 s1 du1 => ⟨_, rfl, b, us, ks.map kk1, rfl, s1.seq sqb, ds.tx (.same s1), fun J wk D hD => ?_⟩⟩
      refine lc_dat (K := K) wk (fun i => some ((fun p : Nat × List Nat => kk1 (p.1, p.2 ++ p.2)) (ks.getD i (0, [])))) hD (by rw [List.length_map]; omega) (fun H' s => ⟨s.seq (s1.seq sqb), .same s⟩) (fun i x H2 H3 Nx hi s2 y no yes => ?_) (fun H2 us2 s2 hD2 ds2 => ?_)
      · obtain ⟨e1, k, ek, dk⟩ := y
        subst e1
        obtain ⟨hi', ek⟩ := map_get (0, []) ek
        subst ek
        have hp : ks.getD i (0, []) ∈ ks := by rw [getD_lt hi']; exact List.getElem_mem _
        obtain ⟨a3, v1, v2, rfl, sq3, dv1, dv2⟩ := of_tup2 dk
        obtain ⟨a4, rfl, sq4⟩ := of_lk dv2
        have tl' := tl _ hp
        refine ⟨a3, _, rfl, sq3, rfl, v1, _, rfl, .ref a4, _, rfl, rfl, rfl, _, rfl, _, rfl, a4, 2, _, rfl, rfl, sq4, ?_, by decide, by decide, ?_, fun p hp => ⟨[nk (ks.getD i (0, [])).1, lk ((ks.getD i (0, [])).2 ++ (ks.getD i (0, [])).2)], dvs_cons (dv1.tx (.new hp)) (dvs_cons (dv_lk (SqT.of ?_)) dvs_nil), (by show 2 ≤ sizeLine; decide), fun v H4 s4 dv => yes _ _ _ rfl (sametr (same_new hp) s4) dv⟩⟩
        · intro z
          have e := congrArg List.length z
          rw [List.length_map] at e
          simp only [List.length_nil] at e
          omega
        · rw [List.length_map]; omega
        · rw [upd_same]
          simp [List.replicate, List.map_append]
      · refine ⟨D, us2, _, rfl, SqL.of hD2, ds2, fun u2 H4 s4 du2 => ⟨_, dvs_cons (du1.tx (.same (sametr s2 s4))) (dvs_cons du2 dvs_nil), (by show 2 ≤ sizeLine; decide), fun v H5 s5 dv => q v H5 (sametr s1 (sametr s2 (sametr s4 s5))) ?_⟩⟩
        rw [List.length_map, range_map_get (l := ks) (g := fun p : Nat × List Nat => kk1 (p.1, p.2 ++ p.2)) (0, []) rfl] at dv
        unfold hk
        rw [List.map_map]
        exact dv
/-! ### least_handler -/
omit K in
theorem mergeK_nodup : ∀ (more acc : List (Key × V)), ((acc ++ more).map (·.1)).Nodup → mergeK acc more = acc ++ more
  | [], acc, _ => by rw [List.append_nil]; rfl
  | p :: r, acc, h => by
    have e : acc ++ p :: r = (acc ++ [p]) ++ r := by simp
    have hn : valV acc p.1 = none := by
      cases q : valV acc p.1 with
      | none => rfl
      | some v =>
        have m := valV_in q
        rw [List.map_append, List.map_cons] at h
        exact absurd rfl ((List.nodup_append.mp h).2.2 _ m _ List.mem_cons_self)
    show mergeK (putK acc p.1 p.2) r = _
    rw [putK_new _ hn, show (acc ++ [(p.1, p.2)]) = acc ++ [p] from rfl, mergeK_nodup r (acc ++ [p]) (by rw [← e]; exact h), ← e]
def chKv (ch : List (Nat × Nat)) : List (Key × V) := ch.map fun p => (gI p.1, iv p.2)
omit K in
theorem chKv_get (ch : List (Nat × Nat)) (c : Nat) : (valV (chKv ch) (gI c)).isSome = decide (c ∈ ch.map (·.1)) := by
  induction ch with
  | nil => rfl
  | cons p ch ih =>
    unfold chKv at ih ⊢
    rw [List.map_cons]
    by_cases e : p.1 = c
    · rw [valV_pos (p := (gI p.1, iv p.2)) (by rw [e])]
      simp [e]
    · rw [valV_neg (p := (gI p.1, iv p.2)) (fun z => e (gI_inj _ _ z)), ih]
      simp [show ¬ c = p.1 from fun z => e z.symm]
/-- pairs (key, value) by data -/
theorem pairs_of {H : Hp} : ∀ {l : List (Nat × Nat)} {us : List V}, DVs K H (l.map fun p => .tup [nk p.1, nk p.2]) us → ∃ ps : List Addr, us = ps.map V.ref ∧ Paired (fun p (kv : Key × V) => SqT K H p [kV kv.1, kv.2]) ps (chKv l)
  | [], us, h => ⟨[], of_nil h, .nil⟩
  | p :: l, us, h => by
    obtain ⟨v, r, e, d, ds⟩ := of_cons h
    obtain ⟨a, v1, v2, e2, sq, d1, d2⟩ := of_tup2 d
    obtain ⟨ps, e3, pr⟩ := pairs_of ds
    have e4 := of_num d1
    have e5 := of_num d2
    subst e4 e5
    exact ⟨a :: ps, by rw [e, e2, e3]; rfl, .cons sq pr⟩
/-- keys and their places -/
def keyPl (ch : List (Nat × Nat)) : List (Nat × Nat) := (List.range ch.length).map fun i => ((ch.getD i (0, 0)).1, i)
omit K in
theorem keyPl_numd : ∀ (ch : List (Nat × Nat)), chKv (keyPl ch) = numd gI 0 (ch.map (·.1)) := by
  have key : ∀ (ch : List (Nat × Nat)) (n : Nat), (List.range ch.length).map (fun i => (gI (ch.getD i (0, 0)).1, iv (n + i))) = numd gI n (ch.map (·.1)) := by
    intro ch
    induction ch with
    | nil => intro n; rfl
    | cons p ch ih =>
      intro n
      rw [List.length_cons, List.range_succ_eq_map, List.map_cons, List.map_map, List.map_cons]
      show (gI p.1, iv n) :: _ = (gI p.1, iv n) :: numd gI (n + 1) (ch.map (·.1))
      rw [← ih (n + 1)]
      refine congrArg _ (List.map_congr_left fun i _ => ?_)
      show (gI ((p :: ch).getD (i + 1) (0, 0)).1, iv (n + (i + 1))) = (gI (ch.getD i (0, 0)).1, iv (n + 1 + i))
      rw [show n + (i + 1) = n + 1 + i by omega]
      rfl
  intro ch
  have := key ch 0
  unfold chKv keyPl
  rw [List.map_map, ← this]
  refine List.map_congr_left fun i _ => ?_
  show (gI _, iv i) = (gI _, iv (0 + i))
  rw [Nat.zero_add]
omit K in
theorem numd_keys {κ : Type} (g : Nat → κ) : ∀ (n : Nat) (l : List Nat), (numd g n l).map (·.1) = l.map g
  | _, [] => rfl
  | n, x :: l => by
    show g x :: (numd g (n + 1) l).map (·.1) = g x :: l.map g
    rw [numd_keys g (n + 1) l]
omit K in
theorem merge_numd {l : List Nat} (nd : l.Nodup) : mergeK [] (numd gI 0 l) = numd gI 0 l := by
  rw [mergeK_nodup _ _ (by rw [List.nil_append, numd_keys]; exact List.Pairwise.map gI (fun a b h e => h (gI_inj _ _ e)) nd), List.nil_append]
omit K in
theorem chKv_at {ch : List (Nat × Nat)} {i : Nat} {k : Key} {v : V} (e : (chKv ch)[i]? = some (k, v)) : i < ch.length ∧ k = gI (ch.getD i (0, 0)).1 ∧ v = iv (ch.getD i (0, 0)).2 := by
  unfold chKv at e
  obtain ⟨hi, e2⟩ := map_get (0, 0) e
  injection e2 with e3 e4
  exact ⟨hi, e3, e4⟩
omit K in
theorem chKv_key {ch : List (Nat × Nat)} {i : Nat} (hi : i < ch.length) : keyAt (chKv ch) i = iv (ch.getD i (0, 0)).1 := by
  unfold keyAt chKv
  rw [List.getElem?_map, List.getElem?_eq_getElem hi, getD_lt hi]
  rfl
omit K in
theorem chKv_len (ch : List (Nat × Nat)) : (chKv ch).length = ch.length := by unfold chKv; rw [List.length_map]
theorem sc_least_handler : FnScope ["handler", "classes", "chosen", "state", "known", "kinds", "sender", "targets", "place", "key"] ["handler"] (defScope s_least_handler) := ⟨rfl, rfl, rfl, by decide +kernel, rfl, by decide +kernel, by decide +kernel⟩
def sp_least_handler (K : PySem.W.Frag) : Sp := fun vs H Q _ => ∃ h v, vs = [v] ∧ h.Ok ∧ DV K H (hk h) v ∧ ∀ L φ u H', Same H H' → L.Ok → L.n ≤ h.n → Morph h L φ → DV K H' (hk L) u → Q u H'
theorem ok_least_handler (T : Txt K mg C S tH tP) (F : FnP K "least_handler" "least_handler" s_least_handler f fd) (g_alike_classes : Ok P w K mg base "alike_classes" 2 ["handler"] (sp_alike_classes K)) (g_first_logs : Ok P w K mg base "first_logs" 1 ["handler"] (sp_first_logs K))
    (g_with_two : Ok P w K mg base "with_two" 2 ["labels", "kinds"] (sp_with_two K)) : FnOk P w K mg base CX0 3 f fd ["handler"] (sp_least_handler K) := by
  refine F.ok sc_least_handler (fun vs H Q E h => ?_) (fun cdv A outer s H vs Q E hr h => ?_)
  · obtain ⟨h, v, rfl, _⟩ := h
    rfl
  have hu := hu_of hr
  refine ⟨_, PSs.nox ((pss_cons (ps_set (i := 1) sc_least_handler.nd rfl (.inr rfl) (pe_callO g_alike_classes (hr.mono (by decide)) rfl (pa_cons (pv 0) pa_nil)))
  (pss_cons (ps_set (i := 2) sc_least_handler.nd rfl (.inl rfl) pe_dnewK)
  (pss_cons (ps_for PassesOwn.never rfl (pi_keys (pe_frz (pe_callO g_first_logs (hr.mono (by decide)) rfl (pa_cons (pv 0) pa_nil)))) (pg_name (i := 3) sc_least_handler.nd rfl (.inl rfl))
    (pss_one (ps_if (pt_cmp (pc_dnotin hu (pe_ix (ix_datK P w K ⟨rfl, rfl, rfl⟩) (pv 1) (pv 3) (fun _ _ => rfl)) (pv 2))) (pss_one (ps_dput hu (pv 2) (pe_ix (ix_datK P w K ⟨rfl, rfl, rfl⟩) (pv 1) (pv 3) (fun _ _ => rfl)) (pv 3) rfl)) pss_nil)))
  (pss_cons (ps_frz (ps_set (i := 4) sc_least_handler.nd rfl (.inr rfl) (pe_callTy (call_dictP rfl) (by rfl) T.z_dict (by decide +kernel) (pa_cons (pe_lc (own := [("place", 8), ("key", 9)]) (by rfl) sc_least_handler.nd (pi_EK (by rfl) T.z_enumerate (pa_cons (pv 2) pa_nil)) (blkOk_by (own := [("place", 8), ("key", 9)]) (N := ["handler", "classes", "chosen", "state", "known", "kinds", "sender", "targets", "place", "key"]) (sc := defScope s_least_handler) (by decide +kernel)) (fun _ _ _ _ _ => (pg_tupK (n := 2) P w K ⟨rfl, rfl, rfl⟩ (by rfl) (pgs_cons (pg_name (i := 8) sc_least_handler.nd rfl (Or.inl rfl)) (pgs_cons (pg_name (i := 9) sc_least_handler.nd rfl (Or.inl rfl)) pgs_nil)))) (fun _ _ _ _ _ => pts_nil) (fun _ _ _ _ _ => (pe_tupDK P w K ⟨rfl, rfl, rfl⟩ (pa_cons (pv 9) (pa_cons (pv 8) pa_nil))))) pa_nil))))
  (pss_cons (ps_set (i := 5) sc_least_handler.nd rfl (.inl rfl) (pe_lst pa_nil))
  (pss_cons (ps_for PassesOwn.never rfl (pi_TDK P w K ⟨rfl, rfl, rfl⟩ (pe_ix (ix_datK P w K ⟨rfl, rfl, rfl⟩) (pv 0) pe_int (fun _ _ => rfl))) (pg_tupK (n := 2) P w K ⟨rfl, rfl, rfl⟩ (by rfl) (pgs_cons (pg_name (i := 6) sc_least_handler.nd rfl (.inl rfl)) (pgs_cons (pg_name (i := 7) sc_least_handler.nd rfl (.inr rfl)) pgs_nil)))
    (pss_one (ps_expr (pe_bmK P w K ⟨rfl, rfl, rfl⟩ PySem.F.plainAttrs_list PySem.F.slot_list_append PySem.F.type_list_append mt_append (pv 5) (pa_cons (pe_tupDK P w K ⟨rfl, rfl, rfl⟩ (pa_cons (pv 6) (pa_cons (pe_callTy (cr_tupOfK P w K ⟨rfl, rfl, rfl⟩) (by rfl) T.z_tuple (by decide +kernel) (pa_cons (pe_lc (own := [("state", 3)]) (by rfl) sc_least_handler.nd (pi_values (pv 2)) (blkOk_by (own := [("state", 3)]) (N := ["handler", "classes", "chosen", "state", "known", "kinds", "sender", "targets", "place", "key"]) (sc := defScope s_least_handler) (by decide +kernel)) (fun _ _ _ _ _ => (pg_name (i := 3) sc_least_handler.nd rfl (Or.inl rfl))) (fun _ _ _ _ _ => pts_nil) (fun _ _ _ _ _ => (pe_dget hu (pv 4) (pe_ix (ix_datK P w K ⟨rfl, rfl, rfl⟩) (pv 1) (pe_ix (ix_datK P w K ⟨rfl, rfl, rfl⟩) (pv 7) (pv 3) (fun _ _ => rfl)) (fun _ _ => rfl)) (fun _ _ => rfl)))) pa_nil)) pa_nil))) pa_nil)))))
  (pss_one (ps_ret (pe_callO g_with_two (hr.mono (by decide)) rfl (pa_cons (pe_lc (own := [("state", 3)]) (by rfl) sc_least_handler.nd (pi_values (pv 2)) (blkOk_by (own := [("state", 3)]) (N := ["handler", "classes", "chosen", "state", "known", "kinds", "sender", "targets", "place", "key"]) (sc := defScope s_least_handler) (by decide +kernel)) (fun _ _ _ _ _ => (pg_name (i := 3) sc_least_handler.nd rfl (Or.inl rfl))) (fun _ _ _ _ _ => pts_nil) (fun _ _ _ _ _ => (pe_ix (ix_datK P w K ⟨rfl, rfl, rfl⟩) (pe_ix (ix_datK P w K ⟨rfl, rfl, rfl⟩) (pv 0) pe_int (fun _ _ => rfl)) (pv 3) (fun _ _ => rfl)))) (pa_cons (pv 5) pa_nil)))))))))))), ?_⟩
  obtain ⟨h, v, rfl, o, dh, q⟩ := h
  have n8 := o.n8
  have k6 := o.k6
  have small : 200 < sizeLine := by decide
  have eK : (h.kinds.map kk1).length = h.K := by rw [List.length_map]; rfl
  refine ⟨_, rfl, h, v, rfl, o, dh, fun c cv H1 s1 hc dc => fun d hd => ⟨_, rfl, h, v, rfl, o, dh.tx ((TX.same s1).trans (.new hd)), fun d2 kvs f H2 s2 d20 d21 hF B => ⟨d2, _, rfl, d21, trivial, fun od => ⟨d2, od, rfl, .inl ⟨kvs, upd_same, ?_⟩⟩⟩⟩⟩
  have cl : c.length = h.n := hc.1
  have hd2 : H2 d = some (.dK []) := s2 _ _ upd_same
  have d_d2 : d ≠ d2 := ne_of_none upd_same d20
  have d0 : H d = none := s1.free hd
  have sn1 : Same H (upd H1 d (.dK [])) := sametr s1 (same_new hd)
  have d2_0 : H d2 = none := sn1.free d20
  have sH2 : Same H H2 := sametr sn1 s2
  have sH3 : Same H (upd H2 d2 (.frz od (.dK kvs))) := same_upd sH2 d2_0
  have t23 : TX H2 (upd H2 d2 (.frz od (.dK kvs))) := TX.mut (by rw [d21]; trivial)
  have dc3 : DV K (upd H2 d2 (.frz od (.dK kvs))) (lk c) cv := (dc.tx (.same (sametr (same_new hd) s2))).tx t23
  have ekeys := hF.keys
  have kl : kvs.length = (ky f).length := by unfold ky; rw [List.length_map]; exact hF.len
  have rch : ∀ s, s ∈ ky f ↔ h.Reached s := B.reached
  have fl8 : (ky f).length ≤ 8 := by
    have := B.size
    rw [List.length_range] at this
    unfold ky
    rw [List.length_map]
    omega
  generalize hH3 : upd H2 d2 (.frz od (.dK kvs)) = H3 at sH3 t23 dc3
  have e3d : H3 d = some (.dK []) := by rw [← hH3, upd_ne d_d2]; exact hd2
  have e3f : H3 d2 = some (.frz od (.dK kvs)) := by rw [← hH3, upd_same]
  clear hH3 t23 sH2 sn1 d21 hd2
  refine for_it walk_keys (fun i σ H' => Same H H' ∧ TX H3 H' ∧ H' d2 = some (.frz od (.dK kvs)) ∧ H' d = some (.dK (chKv (chosenOf (clsF c) ((ky f).take i)))) ∧ ∃ y3, σ = [some v, some cv, some (.ref d), y3, none, none, none, none, none, none])
    ⟨sH3, .refl _, e3f, e3d, none, rfl⟩ (fun i σ H' _ p => p.2.2.1) (fun i x σ H4 H5 hi p y => ?_) (fun σ H4 p => ?_)
  · obtain ⟨s4, t4, f4, c4, y3, rfl⟩ := p
    obtain ⟨rfl, k, u, ek, rfl⟩ := y
    have hi' : i < (ky f).length := by omega
    have ek' : k = gI (ky f)[i] := by
      have z := congrArg (fun l => l[i]?) ekeys
      simp only [List.getElem?_map, ek, List.getElem?_eq_getElem hi', Option.map_some] at z
      exact Option.some.inj z
    subst ek'
    have hs : (ky f)[i] < h.n := ((rch _).mp (List.getElem_mem hi')).lt o
    have etk : (ky f).take (i + 1) = (ky f).take i ++ [(ky f)[i]] := by rw [List.take_add_one, List.getElem?_eq_getElem hi']; rfl
    rw [etk, chosen_snoc]
    generalize (ky f)[i] = s at hs
    have I := chosen_inv (clsF c) ((ky f).take i)
    have cl8 := ch_len (h := h) I fun s hs => ((rch _).mp (List.mem_of_mem_take hs)).lt o
    generalize chosenOf (clsF c) ((ky f).take i) = ch at c4 I cl8
    refine ⟨cv, rfl, iv s, rfl, _, s, _, dc3.tx t4, rfl, lk_get (by rw [cl]; exact hs), fun z dz => ?_⟩
    rw [of_num dz]
    refine ⟨_, rfl, d, _, rfl, DGet.k (k := gI (c.getD s 0)) c4, _, rfl, ?_⟩
    unfold pick1
    rw [chKv_get]
    by_cases m : clsF c s ∈ ch.map (·.1)
    · rw [decide_eq_true (show c.getD s 0 ∈ ch.map (·.1) from m), if_pos m]
      exact iteF ⟨s4, t4, f4, c4, some (iv s), rfl⟩
    · rw [decide_eq_false (show ¬ c.getD s 0 ∈ ch.map (·.1) from m), if_neg m]
      refine iteT ⟨iv s, rfl, _, rfl, cv, rfl, iv s, rfl, _, s, _, dc3.tx t4, rfl, lk_get (by rw [cl]; exact hs), fun z dz => ?_⟩
      rw [of_num dz]
      have hn : valV (chKv ch) (gI (c.getD s 0)) = none := by
        have z := chKv_get ch (c.getD s 0)
        rw [decide_eq_false (show ¬ c.getD s 0 ∈ ch.map (·.1) from m)] at z
        simpa using z
      refine ⟨d, _, rfl, DPut.k (k := gI (c.getD s 0)) c4 (by rw [chKv_len]; omega), same_upd s4 d0, t4.trans (.mut (by rw [c4]; trivial)), (upd_ne d_d2.symm).trans f4, ?_, some (iv s), rfl⟩
      rw [upd_same, putK_new _ hn]
      unfold chKv
      rw [List.map_append]
      rfl
  obtain ⟨s4, t4, f4, c4, y3, rfl⟩ := p
  rw [kl, List.take_length] at c4
  have I := chosen_inv (clsF c) (ky f)
  have cl8 := ch_len (h := h) I fun s hs => ((rch _).mp hs).lt o
  generalize hch : chosenOf (clsF c) (ky f) = ch at c4 I cl8
  have zero0 : ∃ r, ky f = 0 :: r := by
    obtain ⟨r, e⟩ := B.hd
    exact ⟨ky r, by rw [e]; rfl⟩
  have ne : ch ≠ [] := by
    obtain ⟨r, e⟩ := zero0
    obtain ⟨q0, e2⟩ := I.hd 0 r e
    rw [e2]; simp
  have chR : ∀ i, i < ch.length → h.Reached (ch.getD i (0, 0)).2 := fun i hi => by
    rw [getD_lt hi]
    exact (rch _).mp (I.ok _ (List.getElem_mem hi)).1
  -- known = dict([..])
  refine ⟨d, _, c4, trivial, fun od2 => ⟨_, rfl, d, od2, chKv ch, rfl, upd_same, fun D hD => lc_dat (K := K) walk_E (fun i => some (.tup [nk (ch.getD i (0, 0)).1, nk i])) hD (by rw [chKv_len]; omega) (fun H' s => s _ _ upd_same) (fun i x H5 H6 Nx hi s5 y no yes => ?_) (fun H5 us s5 hD5 ds5 => ?_)⟩⟩
  · obtain ⟨T1, rfl, hT, rfl⟩ := y
    rw [chKv_len] at hi
    refine ⟨T1, _, rfl, SqT.of upd_same, rfl, .int (i : Int), _, rfl, keyAt (chKv ch) i, _, rfl, rfl, rfl, keyAt (chKv ch) i, rfl, .int (i : Int), rfl, _, dvs_cons ?_ (dvs_cons dv_nk dvs_nil), (by show 2 ≤ sizeLine; decide), fun u H7 s7 du => yes _ _ _ rfl (sametr (same_new hT) s7) du⟩
    rw [chKv_key hi]
    exact dv_nk
  have s5' : Same H H5 := sametr (same_upd s4 d0) s5
  have t5 : TX H4 H5 := (TX.mut (by rw [c4]; trivial)).trans (.same s5)
  have f5 : H5 d = some (.frz od2 (.dK (chKv ch))) := s5 _ _ upd_same
  have ds6 : DVs K H5 ((keyPl ch).map fun p => .tup [nk p.1, nk p.2]) us := by
    rw [List.filterMap_eq_map', chKv_len] at ds5
    unfold keyPl
    rw [List.map_map]
    exact ds5
  obtain ⟨ps, rfl, pr⟩ := pairs_of ds6
  refine ⟨D, ps, _, rfl, SqL.of hD5, pr, fun p hp => ⟨Nat.zero_le _, fun l hl => ?_⟩⟩
  rw [keyPl_numd, merge_numd I.nd] at hl ⊢
  have p0 : H p = none := s5'.free hp
  have sH6 : Same H (upd H5 p (.dK (numd gI 0 (ch.map (·.1))))) := same_upd s5' p0
  have l0 : H l = none := sH6.free hl
  have d_p : d ≠ p := ne_of_none f5 hp
  have p_l : p ≠ l := ne_of_none upd_same hl
  have d_l : d ≠ l := ne_of_none ((upd_ne d_p).trans f5) hl
  have tT : TX H3 (upd (upd H5 p (.dK (numd gI 0 (ch.map (·.1))))) l (.lst [])) := (t4.trans t5).trans ((TX.new hp).trans (.new hl))
  have sT : Same H (upd (upd H5 p (.dK (numd gI 0 (ch.map (·.1))))) l (.lst [])) := same_upd sH6 l0
  have fT : (upd (upd H5 p (.dK (numd gI 0 (ch.map (·.1))))) l (.lst [])) d = some (.frz od2 (.dK (chKv ch))) := (upd_ne d_l).trans ((upd_ne d_p).trans f5)
  have pT : (upd (upd H5 p (.dK (numd gI 0 (ch.map (·.1))))) l (.lst [])) p = some (.dK (numd gI 0 (ch.map (·.1)))) := (upd_ne p_l).trans upd_same
  have lT : (upd (upd H5 p (.dK (numd gI 0 (ch.map (·.1))))) l (.lst [])) l = some (.lst []) := upd_same
  generalize upd (upd H5 p (.dK (numd gI 0 (ch.map (·.1))))) l (.lst []) = HT at tT sT fT pT lT
  clear hl hp pr ds6 ds5 hD5 s5 t5 f5 hD s5' sH6
  refine ⟨v, rfl, _, 1, _, dh.tx (.same sT), rfl, rfl, fun v2 dv2 => ⟨h.kinds.map kk1, dv2, fun J wk => for_it wk (fun i σ H' => Same H H' ∧ TX HT H' ∧ H' d = some (.frz od2 (.dK (chKv ch))) ∧ H' p = some (.dK (numd gI 0 (ch.map (·.1)))) ∧ (∃ us, H' l = some (.lst us) ∧ DVs K H' (((leastKinds h (clsF c) ch).take i).map kk1) us) ∧
    ∃ y3 y6 y7, σ = [some v, some cv, some (.ref d), y3, some (.ref p), some (.ref l), y6, y7, none, none]) ⟨sT, .refl _, fT, pT, ⟨[], lT, dvs_nil⟩, y3, none, none, rfl⟩ (fun i σ H' _ p => p.2.1) (fun i x σ H6 H7 hi pv y => ?_) (fun σ H6 pv => ?_)⟩⟩
  · obtain ⟨s6, t6, f6, p6, ⟨us, l6, ds6⟩, y3, y6, y7, rfl⟩ := pv
    obtain ⟨rfl, k, ek, dx⟩ := y
    obtain ⟨hi', ek⟩ := map_get (0, []) ek
    subst ek
    have hkK : i < h.K := hi'
    obtain ⟨a3, v3, v4, rfl, sq3, dv3, dv4⟩ := of_tup2 dx
    refine ⟨a3, _, rfl, sq3, rfl, v3, _, rfl, v4, _, rfl, rfl, ?_⟩
    refine ⟨.ref l, rfl, .inl ⟨rfl, _, SqL.of l6⟩, v3, rfl, .ref d, rfl, d, od2, chKv ch, rfl, f6, fun D hD => lc_dat (K := K) walk_values (fun j => some (nk (placeOf ch (clsF c (h.step i (ch.getD j (0, 0)).2))))) hD (by rw [chKv_len]; omega) (fun H' s => s _ _ f6) (fun j x H8 H9 Nx hj s8 y no yes => ?_) (fun H8 us2 s8 hD8 ds8 => ?_)⟩
    · obtain ⟨rfl, k2, ek2⟩ := y
      obtain ⟨hj', _, ex⟩ := chKv_at ek2
      subst ex
      have hs := (chR j hj').lt o
      have dc9 : DV K H9 (lk c) cv := (dc3.tx (tT.trans t6)).tx (.same s8)
      refine ⟨rfl, .ref p, rfl, cv, rfl, v4, rfl, iv _, rfl, _, (ch.getD j (0, 0)).2, _, dv4.tx (.same s8), rfl, lk_get (by rw [show (h.kinds.getD i (0, [])).2 = h.tg i from rfl, (o.kind hkK).1]; exact hs), fun z dz => ?_⟩
      have ez := of_num dz
      subst ez
      refine ⟨_, h.step i (ch.getD j (0, 0)).2, _, dc9, rfl, lk_get (by rw [cl]; exact h.step_lt o _ _), fun z2 dz2 => ?_⟩
      have ez2 := of_num dz2
      subst ez2
      have hv := numd_val gI (c.getD (h.step i (ch.getD j (0, 0)).2) 0) 0 (ch.map (·.1)) fun a _ e => gI_inj _ _ e
      rw [if_pos (I.all _ ((rch _).mpr ((chR j hj').step i))), Nat.zero_add] at hv
      exact ⟨p, _, rfl, hv ▸ DGet.k (k := gI (c.getD (h.step i (ch.getD j (0, 0)).2) 0)) (s8 _ _ p6), yes _ _ _ rfl (fun _ _ z => z) dv_nk⟩
    · have ds9 : DVs K H8 ((ch.map fun q => placeOf ch (clsF c (h.step i q.2))).map nk) us2 := by
        rw [chKv_len, range_map_get (l := ch) (g := fun q : Nat × Nat => nk (placeOf ch (clsF c (h.step i q.2)))) (0, 0) rfl] at ds8
        rw [List.map_map]
        exact ds8
      refine ⟨D, us2, _, rfl, SqL.of hD8, ds9, fun u H9 s9 du => ⟨[nk (h.kinds.getD i (0, [])).1, lk (ch.map fun q : Nat × Nat => placeOf ch (clsF c (h.step i q.2)))], dvs_cons (dv3.tx (.same (sametr s8 s9))) (dvs_cons du dvs_nil), (by show 2 ≤ sizeLine; decide), fun u2 H10 s10 du2 => ?_⟩⟩
      have s11 := sametr s8 (sametr s9 s10)
      have l11 := s11 _ _ l6
      have tl : TX H10 (upd H10 l (.lst (us ++ [u2]))) := TX.lst l11
      refine ⟨l, us, u2, rfl, rfl, l11, ?_, ?_⟩
      · rw [ds6.length, List.length_map, List.length_take]
        omega
      refine ⟨same_upd (sametr s6 s11) l0, (t6.trans (.same s11)).trans tl, (upd_ne d_l).trans (s11 _ _ f6), (upd_ne p_l).trans (s11 _ _ p6), ⟨_, upd_same, ?_⟩, _, _, _, rfl⟩
      have e1 : (leastKinds h (clsF c) ch).take (i + 1) = (leastKinds h (clsF c) ch).take i ++ [((h.kinds.getD i (0, [])).1, ch.map fun q => placeOf ch (clsF c (h.step i q.2)))] := by
        have hl : i < (leastKinds h (clsF c) ch).length := by unfold leastKinds; rw [List.length_map]; exact hi'
        rw [List.take_add_one, List.getElem?_eq_getElem hl, ← leastKinds_get hkK, getD_lt hl]
        rfl
      rw [e1, List.map_append]
      exact ((ds6.tx (.same s11)).tx tl).snoc (du2.tx tl)
  · obtain ⟨s6, t6, f6, p6, ⟨us, l6, ds6⟩, y3, y6, y7, rfl⟩ := pv
    have hlk : (leastKinds h (clsF c) ch).length = h.K := by unfold leastKinds; rw [List.length_map]; rfl
    rw [eK, ← hlk, List.take_length] at ds6
    refine ⟨.ref d, rfl, d, od2, chKv ch, rfl, f6, fun D hD => lc_dat (K := K) walk_values (fun j => some (nk (h.lab (ch.getD j (0, 0)).2))) hD (by rw [chKv_len]; omega) (fun H' s => s _ _ f6) (fun j x H8 H9 Nx hj s8 y no yes => ?_) (fun H8 us2 s8 hD8 ds8 => ?_)⟩
    · obtain ⟨rfl, k2, ek2⟩ := y
      obtain ⟨hj', _, ex⟩ := chKv_at ek2
      subst ex
      have hs := (chR j hj').lt o
      refine ⟨rfl, v, rfl, _, 0, _, dh.tx (.same (sametr s6 s8)), rfl, rfl, fun z dz => ⟨iv _, rfl, _, (ch.getD j (0, 0)).2, _, dz, rfl, lk_get hs, fun z2 dz2 => yes _ _ _ rfl (fun _ _ z => z) dz2⟩⟩
    · have eu : us2 = (ch.map fun q => h.lab q.2).map iv := by
        rw [chKv_len, range_map_get (l := ch) (g := fun q : Nat × Nat => nk (h.lab q.2)) (0, 0) rfl] at ds8
        refine of_nks (K := K) (H := H8) ?_
        rw [List.map_map]
        exact ds8
      subst eu
      have pos : 0 < ch.length := List.length_pos_iff.mpr ne
      refine ⟨.ref l, rfl, D, l, ch.map fun q => h.lab q.2, leastKinds h (clsF c) ch, us, rfl, SqL.of hD8, SqL.of (s8 _ _ l6), ds6.tx (.same s8), ?_, ?_, ?_, fun q0 hq0 => ?_, fun u H9 s9 du => ?_⟩
      · rw [List.length_map]; exact pos
      · rw [List.length_map]; omega
      · rw [hlk]; exact k6
      · unfold leastKinds at hq0
        obtain ⟨kd, _, rfl⟩ := List.mem_map.mp hq0
        simp
      refine q (leastOf h (clsF c) ch) _ u H9 (sametr s6 (sametr s8 s9)) (least_ok o I rch ne) ?_ (least_morph o hc I rch zero0) du
      unfold leastOf withTwo
      rw [List.length_map]
      have n2 := o.n2
      split
      · show (inOrder _).length ≤ _
        rw [inOrder_length, List.length_map]
        exact cl8
      · exact n2
end
end K14

/-! W12: is_row, are_ends, plan_error, is_plan. -/
namespace K14
open PySem PySem.Spec PyProof.Rows L2
/-! ### a comprehension with known values -/
theorem lc_val {J : It} {n : Nat} {G : Hp → Prop} {Y : Nat → Hp → V → Hp → Prop} (w : Walk J n G Y) {g : TG} {tt : TT} {te : TE} {vs : List Nat} {σ : L2.St} {H1 : Hp} {D : Addr} {Qd : Hp → Prop}
    (f : Nat → Option V) (hD : H1 D = none) (hn : n < sizeLine) (hG : ∀ H, Same H1 H → G H)
    (hs : ∀ i x H H' (Nx : Hp → Prop), i < n → Same H1 H → Y i H x H' → (f i = none → ∀ H4, Same H H4 → Nx H4) →
      (∀ y H4, f i = some y → Same H H4 → ∃ acc, H4 D = some (.lst acc) ∧ acc.length < sizeLine ∧ Nx (upd H4 D (.lst (acc ++ [y])))) →
      g x (wipe σ vs) H' fun σ2 H2 => wipe σ2 vs = wipe σ vs ∧ tt σ2 H2 fun b H3 =>
        if b = true then te σ2 H3 fun y H4 => ∃ acc, H4 D = some (.lst acc) ∧ acc.length < sizeLine ∧ Nx (upd H4 D (.lst (acc ++ [y]))) else Nx H3)
    (hd : ∀ H, Same H1 H → H D = some (.lst ((List.range n).filterMap f)) → Qd H) :
    ∃ W : Nat → Nat → Hp → Prop, (∃ m, W 0 m (upd H1 D (.lst []))) ∧ ∀ i m H, W i m H →
      (J.stop i H ∧ Qd H) ∨ (J.go i H ∧ ∃ Nx : Hp → Prop, (∀ H', Nx H' → ∃ m', m' < m ∧ W (i + 1) m' H') ∧ ∀ x H', J.yld i H x H' → g x (wipe σ vs) H' fun σ2 H2 => wipe σ2 vs = wipe σ vs ∧ tt σ2 H2 fun b H3 =>
        if b = true then te σ2 H3 fun y H4 => ∃ acc, H4 D = some (.lst acc) ∧ acc.length < sizeLine ∧ Nx (upd H4 D (.lst (acc ++ [y]))) else Nx H3) := by
  have len : ∀ i, ((List.range i).filterMap f).length ≤ i := fun i => by
    have := List.length_filterMap_le f (List.range i)
    rwa [List.length_range] at this
  refine lc_it w (fun i H => Same H1 H ∧ H D = some (.lst ((List.range i).filterMap f))) ⟨same_new hD, upd_same⟩ (fun i H _ p => hG H p.1) (fun i x H H' hi p y => ?_) (fun H p => hd H p.1 p.2)
  obtain ⟨s1, hu⟩ := p
  refine hs i x H H' _ hi s1 y (fun e H4 s4 => ⟨fun c o z => s4 _ _ (s1 _ _ z), ?_⟩) fun v H4 e s4 => ⟨_, s4 _ _ hu, ?_, same_upd (fun c o z => s4 _ _ (s1 _ _ z)) hD, ?_⟩
  · rw [List.range_succ, List.filterMap_append]
    simp only [List.filterMap_cons, List.filterMap_nil, e, List.append_nil]
    exact s4 _ _ hu
  · have := len i
    omega
  · rw [List.range_succ, List.filterMap_append, upd_same]
    simp only [List.filterMap_cons, List.filterMap_nil, e]
theorem bools_map {n : Nat} {p : Nat → Bool} : ((List.range n).filterMap fun i => some (V.bl (p i))) = ((List.range n).map p).map V.bl := by
  rw [List.filterMap_eq_map', List.map_map]
  rfl
theorem all_true {n : Nat} {p : Nat → Bool} (h : ∀ i, i < n → p i = true) : ((List.range n).map p).all id = true := by
  rw [List.all_eq_true]
  intro b hb
  obtain ⟨i, hi, rfl⟩ := List.mem_map.mp hb
  exact h i (List.mem_range.mp hi)
/-! ### zip of tuples -/
theorem walk_zipT {K : PySem.W.Frag} {a b : Addr} {xs ys : List V} {n : Nat} (hn : n = min xs.length ys.length) : Walk (RZ.ItzT K a b) n (fun H => SqT K H a xs ∧ SqT K H b ys) (YPair (fun i => xs[i]?) (fun i => ys[i]?)) where
  goes := fun i H lt q => ⟨xs, ys, _, _, q.1, q.2, List.getElem?_eq_getElem (by omega), List.getElem?_eq_getElem (by omega)⟩
  stops := fun H q => ⟨xs, ys, q.1, q.2, by omega⟩
  yields := fun i H v H' lt q y => by
    obtain ⟨p, u, z, e1, e2, e3, ex, ey⟩ := y
    exact ⟨p, u, z, e1, e2, e3, ex xs q.1, ey ys q.2⟩
theorem pi_zipAK {X : Cx} (P : Program) (w : World) (K : PySem.W.Frag) (at_ : At X P w K) {e e2 : Expr} {ta : TA} {p pos tpos : Pos} {elts : List Expr} {kk : Nat} (hg : Gl X "zip") (hm : X.mg "zip" = none) (ha : PA X [e, e2] ta)
    (hs : starEach [e, e2] X.env = (false, eval e X.env) :: starEach [e2] X.env := by rfl) (hpl : (backTo pos (starEach [e2] X.env)).any (·.1) = false := by rfl) :
    PI X (.Tuple elts kk tpos) (.Call (.Name "zip" p) [e, e2] [] pos) (RZ.iZipA K ta) := by
  obtain ⟨rfl, rfl, rfl⟩ := at_
  exact RZ.pi_zipA hg hm ha hs hpl
theorem ty_tup {K : PySem.W.Frag} {H : Hp} {ks : List NestedKey} {v : V} (d : DV K H (.tup ks) v) : TyX K H v (.type "tuple") := by
  obtain ⟨a, vs, rfl, sq, _⟩ := of_tup d
  rcases sq with (h | ⟨o, h⟩) | ⟨o, its, n, h1, h2, _⟩
  · exact .base (.tup h)
  · exact .fTuple h
  · exact .kTuple h1 h2
theorem cut_tail (xs : List V) (h : xs ≠ []) : cutV xs (some 1) none = xs.drop 1 := by
  have e : HT.sIx xs.length 0 (some 1) = min 1 xs.length := HT.sIx_nat xs.length 0 1
  have pos : 0 < xs.length := List.length_pos_iff.mpr h
  unfold cutV
  rw [e, HT.sIx_none, show min 1 xs.length = 1 by omega]
  exact List.take_of_length_le (by rw [List.length_drop]; exact Nat.le_refl _)
section
variable {P : Program} {w : World} {K : PySem.W.Frag} {mg : Str → Option Value} {base : Heap} {C S : Addr} {tH tP : Tok} {f : Addr} {fd : FuncData}
theorem sc_is_row : FnScope ["handler", "places", "value", "item"] ["handler", "places", "value"] (defScope s_is_row) := ⟨rfl, rfl, rfl, by decide +kernel, rfl, by decide +kernel, by decide +kernel⟩
def sp_is_row (K : PySem.W.Frag) : Sp := fun vs H Q _ => ∃ h n, ∃ r : List (Option Nat), ∃ v u, vs = [v, iv n, u] ∧ DV K H (hk h) v ∧ h.K ≤ 6 ∧ DV K H (.tup (r.map ok1)) u ∧ r.length = h.K ∧ (∀ x ∈ r, ∀ g, x = some g → g < n) ∧ ∀ H', Same H H' → Q (.bl true) H'
theorem ok_is_row (T : Txt K mg C S tH tP) (F : FnP K "is_row" "is_row" s_is_row f fd) (g_is_integer : Ok P w K mg base "is_integer" 1 ["value", "low", "high"] sp_is_integer) : FnOk P w K mg base CX0 2 f fd ["handler", "places", "value"] (sp_is_row K) := by
  refine F.ok sc_is_row (fun vs H Q E h => ?_) (fun cdv A outer s H vs Q E hr h => ⟨_, PSs.nox ((pss_cons (ps_if (PW.pt (pw_or (pt_not (pt_val (pe_callB (cr_isiK P w K ⟨rfl, rfl, rfl⟩) (by rfl) T.z_isinstance (by decide +kernel) (pa_cons (pv 2) (pa_cons (pe_bltn (v := .ty "tuple") (u := .type "tuple") (by rfl) T.z_tuple (by decide +kernel) rfl) pa_nil))))) (pw_or1 (pt_cmpR (op_dneK P w K ⟨rfl, rfl, rfl⟩ hr) (pe_callB (cr_lenDK P w K ⟨rfl, rfl, rfl⟩) (by rfl) T.z_len (by decide +kernel) (pa_cons (pv 2) pa_nil)) (pe_callB (cr_lenDK P w K ⟨rfl, rfl, rfl⟩) (by rfl) T.z_len (by decide +kernel) (pa_cons (pe_ix (ix_datK P w K ⟨rfl, rfl, rfl⟩) (pv 0) pe_int (fun _ _ => rfl)) pa_nil)) (nomark _))))) (pss_one (ps_ret pe_bl)) pss_nil)
  (pss_one (ps_ret (pe_callB (cr_allK P w K ⟨rfl, rfl, rfl⟩ rfl) (by rfl) T.z_all (by decide +kernel) (pa_cons (pe_lc (own := [("item", 3)]) (by rfl) sc_is_row.nd (pi_TDK P w K ⟨rfl, rfl, rfl⟩ (pv 2)) (blkOk_by (own := [("item", 3)]) (N := ["handler", "places", "value", "item"]) (sc := defScope s_is_row) (by decide +kernel)) (fun _ _ _ _ _ => (pg_name (i := 3) sc_is_row.nd rfl (Or.inl rfl))) (fun _ _ _ _ _ => pts_nil) (fun _ _ _ _ _ => (pe_or (pe_cmpR op_isN (pv 3) pe_non (nomark _)) (pe_one (pe_callO g_is_integer (hr.mono (by decide)) rfl (pa_cons (pv 3) (pa_cons pe_int (pa_cons (pe_op op_sub (pv 1) pe_int) pa_nil)))))))) pa_nil)))))), ?_⟩)
  · obtain ⟨h, n, r, v, u, rfl, _⟩ := h
    rfl
  · obtain ⟨h, n, r, v, u, rfl, dv, k6, du, hl, hb, q⟩ := h
    have small : 200 < sizeLine := by decide
    have rl : (r.map ok1).length = h.K := by rw [List.length_map, hl]
    refine ⟨u, rfl, _, _, _, _, true, rfl, .ty _, ty_tup du, kit_ty (by decide +kernel), true, rfl, ?_⟩
    refine ⟨u, rfl, u, r.map ok1, rfl, du, v, rfl, _, 1, _, dv, rfl, rfl, fun z dz => ⟨z, h.kinds.map kk1, rfl, dz, nk _, nk _, dv_nk, dv_nk, sm_nk _, sm_nk _, _, rfl, ?_⟩⟩
    rw [decide_eq_true (show nk (r.map ok1).length = nk (h.kinds.map kk1).length by rw [rl, List.length_map]; rfl)]
    refine ⟨u, rfl, _, du, fun J wk D hD => lc_val wk (fun i => some (.bl ((fun _ => true) i))) hD (by omega) (fun H' s => .same s) (fun i x H2 H3 Nx hi s2 y no yes => ?_) (fun H2 s2 hD2 => ?_)⟩
    · obtain ⟨rfl, k, ek, dx⟩ := y
      obtain ⟨hi', ek⟩ := map_get none ek
      subst ek
      have hm : r.getD i none ∈ r := by rw [getD_lt hi']; exact List.getElem_mem _
      refine ⟨rfl, x, rfl, rfl, _, rfl, ?_⟩
      cases e : r.getD i none with
      | none =>
        rw [e] at dx
        rw [of_non dx]
        exact yes _ _ rfl fun _ _ z => z
      | some g =>
        rw [e] at dx
        have ex := of_num dx
        subst ex
        have hg := hb _ hm g e
        refine ⟨_, rfl, _, rfl, _, _, rfl, rfl, g, 0, (n : Int) - 1, rfl, by omega, by omega, yes _ _ rfl fun _ _ z => z⟩
    · refine ⟨D, _, rfl, SqL.of (hD2.trans (by rw [bools_map])), ?_⟩
      rw [all_true fun _ _ => rfl]
      exact q H2 s2
theorem sc_are_ends : FnScope ["places", "value", "one", "other", "item"] ["places", "value"] (defScope s_are_ends) := ⟨rfl, rfl, rfl, by decide +kernel, rfl, by decide +kernel, by decide +kernel⟩
def sp_are_ends (K : PySem.W.Frag) : Sp := fun vs H Q _ => ∃ n l v, vs = [iv n, v] ∧ DV K H (lk l) v ∧ l ≠ [] ∧ l.length ≤ 6 ∧ l.Pairwise (· < ·) ∧ (∀ x ∈ l, x < n) ∧ ∀ H', Same H H' → Q (.bl true) H'
theorem ok_are_ends (T : Txt K mg C S tH tP) (F : FnP K "are_ends" "are_ends" s_are_ends f fd) (g_is_integer : Ok P w K mg base "is_integer" 1 ["value", "low", "high"] sp_is_integer) : FnOk P w K mg base CX0 2 f fd ["places", "value"] (sp_are_ends K) := by
  refine F.ok sc_are_ends (fun vs H Q E h => ?_) (fun cdv A outer s H vs Q E hr h => ⟨_, PSs.nox ((pss_cons (ps_if (PW.pt (pw_or (pt_not (pt_val (pe_callB (cr_isiK P w K ⟨rfl, rfl, rfl⟩) (by rfl) T.z_isinstance (by decide +kernel) (pa_cons (pv 1) (pa_cons (pe_bltn (v := .ty "tuple") (u := .type "tuple") (by rfl) T.z_tuple (by decide +kernel) rfl) pa_nil))))) (pw_or (pt_cmpR (op_deqK P w K ⟨rfl, rfl, rfl⟩ hr) (pv 1) (pe_tupDK P w K ⟨rfl, rfl, rfl⟩ pa_nil) (nomark _)) (pw_or1 (pt_not (pt_val (pe_callB (cr_allK P w K ⟨rfl, rfl, rfl⟩ rfl) (by rfl) T.z_all (by decide +kernel) (pa_cons (pe_lc (own := [("item", 4)]) (by rfl) sc_are_ends.nd (pi_TDK P w K ⟨rfl, rfl, rfl⟩ (pv 1)) (blkOk_by (own := [("item", 4)]) (N := ["places", "value", "one", "other", "item"]) (sc := defScope s_are_ends) (by decide +kernel)) (fun _ _ _ _ _ => (pg_name (i := 4) sc_are_ends.nd rfl (Or.inl rfl))) (fun _ _ _ _ _ => pts_nil) (fun _ _ _ _ _ => (pe_callO g_is_integer (hr.mono (by decide)) rfl (pa_cons (pv 4) (pa_cons pe_int (pa_cons (pe_op op_sub (pv 0) pe_int) pa_nil)))))) pa_nil)))))))) (pss_one (ps_ret pe_bl)) pss_nil)
  (pss_one (ps_ret (pe_callB (cr_allK P w K ⟨rfl, rfl, rfl⟩ rfl) (by rfl) T.z_all (by decide +kernel) (pa_cons (pe_lc (own := [("one", 2), ("other", 3)]) (by rfl) sc_are_ends.nd (pi_zipAK P w K ⟨rfl, rfl, rfl⟩ (by rfl) T.z_zip (pa_cons (pv 1) (pa_cons (pe_slice (sl_tupK P w K ⟨rfl, rfl, rfl⟩) (pv 1) (po_some pe_int) po_none) pa_nil))) (blkOk_by (own := [("one", 2), ("other", 3)]) (N := ["places", "value", "one", "other", "item"]) (sc := defScope s_are_ends) (by decide +kernel)) (fun _ _ _ _ _ => (pg_tupK (n := 2) P w K ⟨rfl, rfl, rfl⟩ (by rfl) (pgs_cons (pg_name (i := 2) sc_are_ends.nd rfl (Or.inl rfl)) (pgs_cons (pg_name (i := 3) sc_are_ends.nd rfl (Or.inl rfl)) pgs_nil)))) (fun _ _ _ _ _ => pts_nil) (fun _ _ _ _ _ => (pe_cmpR op_lt (pv 2) (pv 3) (nomark _)))) pa_nil)))))), ?_⟩)
  · obtain ⟨n, l, v, rfl, _⟩ := h
    rfl
  · obtain ⟨n, l, v, rfl, dv, ne, l6, asc, lt, q⟩ := h
    have small : 200 < sizeLine := by decide
    have ll : (l.map nk).length = l.length := List.length_map _
    refine ⟨v, rfl, _, _, _, _, true, rfl, .ty _, ty_tup dv, kit_ty (by decide +kernel), true, rfl, ?_⟩
    refine ⟨v, rfl, [], dvs_nil, Nat.zero_le _, fun e0 H1 s1 de => ⟨lk l, .tup [], dv.tx (.same s1), de, sm_lk l, sm_lk [], _, rfl, ?_⟩⟩
    rw [decide_eq_false (show ¬ lk l = NestedKey.tup [] from fun z => ne (lk_inj (m := []) z))]
    refine ⟨v, rfl, _, dv.tx (.same s1), fun J wk D hD => lc_val wk (fun i => some (.bl ((fun _ => true) i))) hD (by omega) (fun H' s => .same s) (fun i x H2 H3 Nx hi s2 y no yes => ?_) (fun H2 s2 hD2 => ?_)⟩
    · obtain ⟨rfl, k, ek, dx⟩ := y
      obtain ⟨hi', ek⟩ := map_get 0 ek
      subst ek
      have ex := of_num dx
      subst ex
      have hm := lt (l.getD i 0) (by rw [getD_lt hi']; exact List.getElem_mem _)
      exact ⟨rfl, _, rfl, _, rfl, _, _, rfl, rfl, l.getD i 0, 0, (n : Int) - 1, rfl, by omega, by omega, yes _ _ rfl fun _ _ z => z⟩
    · refine ⟨D, _, rfl, SqL.of (hD2.trans (by rw [bools_map])), true, ?_, ?_⟩
      · rw [all_true fun _ _ => rfl]
      obtain ⟨a, rfl, sq⟩ := of_lk ((dv.tx (.same s1)).tx (.same s2))
      have lne : l.map iv ≠ [] := fun z => ne (List.map_eq_nil_iff.mp z)
      have pos : 0 < l.length := List.length_pos_iff.mpr ne
      refine ⟨.ref a, rfl, .ref a, rfl, 1, rfl, a, l.map iv, rfl, sq, fun z => ?_, fun p hp => ?_⟩
      · have e : HT.sIx (l.map iv).length 0 (some 1) = min 1 (l.map iv).length := HT.sIx_nat _ 0 1
        have z1 := z.1
        rw [e, List.length_map] at z1
        omega
      have sq2 := sqT_tx (TX.new (o := .tup (cutV (l.map iv) (some 1) none)) hp) sq
      rw [cut_tail _ lne] at sq2 ⊢
      have s3 : Same H2 (upd H2 p (.tup ((l.map iv).drop 1))) := same_new hp
      refine ⟨a, p, l.map iv, (l.map iv).drop 1, rfl, .inr ⟨sq2, SqT.of upd_same, fun D2 hD2' => lc_val (walk_zipT (xs := l.map iv) (ys := (l.map iv).drop 1) rfl) (fun i => some (.bl ((fun _ => true) i))) hD2' (by rw [List.length_map]; omega) (fun H' s => ⟨sqT_tx (.same s) sq2, sqT_tx (.same s) (SqT.of upd_same)⟩) (fun i x H4 H5 Nx hi s4 y no yes => ?_) (fun H4 s4 hD4 => ?_)⟩⟩
      · obtain ⟨T1, x1, x2, rfl, hT, rfl, e1, e2⟩ := y
        rw [List.length_drop, List.length_map] at hi
        replace e2 : ((l.map iv).drop 1)[i]? = some x2 := e2
        rw [List.getElem?_drop, Nat.add_comm] at e2
        obtain ⟨h1, rfl⟩ := of_iv e1
        obtain ⟨h2, rfl⟩ := of_iv e2
        refine ⟨T1, _, rfl, SqT.of upd_same, rfl, iv l[i], _, rfl, iv l[i + 1], _, rfl, rfl, rfl, _, rfl, _, rfl, _, _, rfl, rfl, ?_⟩
        have hlt := List.pairwise_iff_getElem.mp asc i (i + 1) h1 h2 (Nat.lt_succ_self i)
        show ∃ acc, _ ∧ _ ∧ Nx (upd _ D2 (.lst (acc ++ [.bl (decide ((l[i] : Int) < (l[i + 1] : Int)))])))
        rw [decide_eq_true (show (l[i] : Int) < (l[i + 1] : Int) from Int.ofNat_lt.mpr hlt)]
        exact yes _ _ rfl (same_new hT)
      · refine ⟨D2, _, rfl, SqL.of (hD4.trans (by rw [bools_map])), ?_⟩
        rw [all_true fun _ _ => rfl]
        exact q H4 (sametr s1 (sametr s2 (sametr s3 s4)))
theorem sc_plan_error : FnScope ["handler", "value", "ends", "rows", "place", "row"] ["handler", "value"] (defScope s_plan_error) := ⟨rfl, rfl, rfl, by decide +kernel, rfl, by decide +kernel, by decide +kernel⟩
def sp_plan_error (K : PySem.W.Frag) : Sp := fun vs H Q _ => ∃ h p v u, vs = [v, u] ∧ DV K H (hk h) v ∧ h.K ≤ 6 ∧ p.Ok h.K ∧ p.ends.length ≤ 6 ∧ DV K H (plk p) u ∧ ∀ H', Same H H' → Q .non H'
theorem ok_plan_error (T : Txt K mg C S tH tP) (F : FnP K "plan_error" "plan_error" s_plan_error f fd) (g_is_row : Ok P w K mg base "is_row" 2 ["handler", "places", "value"] (sp_is_row K)) (g_are_ends : Ok P w K mg base "are_ends" 2 ["places", "value"] (sp_are_ends K)) :
    FnOk P w K mg base CX0 3 f fd ["handler", "value"] (sp_plan_error K) := by
  refine F.ok sc_plan_error (fun vs H Q E h => ?_) (fun cdv A outer s H vs Q E hr h => ⟨_, PSs.nox ((pss_cons (ps_if (PW.pt (pw_or (pt_not (pt_val (pe_callB (cr_isiK P w K ⟨rfl, rfl, rfl⟩) (by rfl) T.z_isinstance (by decide +kernel) (pa_cons (pv 1) (pa_cons (pe_bltn (v := .ty "tuple") (u := .type "tuple") (by rfl) T.z_tuple (by decide +kernel) rfl) pa_nil))))) (pw_or1 (pt_cmpR (op_dneK P w K ⟨rfl, rfl, rfl⟩ hr) (pe_callB (cr_lenDK P w K ⟨rfl, rfl, rfl⟩) (by rfl) T.z_len (by decide +kernel) (pa_cons (pv 1) pa_nil)) pe_int (nomark _))))) (pss_one (ps_ret (pe_tupDK P w K ⟨rfl, rfl, rfl⟩ (pa_cons pe_non (pa_cons pe_str pa_nil))))) pss_nil)
  (pss_cons (ps_asg (pv 1) (pg_tupK (n := 2) P w K ⟨rfl, rfl, rfl⟩ (by rfl) (pgs_cons (pg_name (i := 2) sc_plan_error.nd rfl (.inl rfl)) (pgs_cons (pg_name (i := 3) sc_plan_error.nd rfl (.inl rfl)) pgs_nil))))
  (pss_cons (ps_if (PW.pt (pw_or (pt_not (pt_val (pe_callB (cr_isiK P w K ⟨rfl, rfl, rfl⟩) (by rfl) T.z_isinstance (by decide +kernel) (pa_cons (pv 3) (pa_cons (pe_bltn (v := .ty "tuple") (u := .type "tuple") (by rfl) T.z_tuple (by decide +kernel) rfl) pa_nil))))) (pw_or1 (pt_not (pt_chain op_le op_le pe_int (pe_callB (cr_lenDK P w K ⟨rfl, rfl, rfl⟩) (by rfl) T.z_len (by decide +kernel) (pa_cons (pv 3) pa_nil)) (pe_glob (v := .int 6) rfl T.g_MAX_PLACES ⟨_, rfl⟩)))))) (pss_one (ps_ret (pe_tupDK P w K ⟨rfl, rfl, rfl⟩ (pa_cons pe_non (pa_cons pe_str pa_nil))))) pss_nil)
  (pss_cons (ps_for PassesOwn.never rfl (pi_ED P w K ⟨rfl, rfl, rfl⟩ (by rfl) T.z_enumerate (pa_cons (pv 3) pa_nil)) (pg_tupK (n := 2) P w K ⟨rfl, rfl, rfl⟩ (by rfl) (pgs_cons (pg_name (i := 4) sc_plan_error.nd rfl (.inl rfl)) (pgs_cons (pg_name (i := 5) sc_plan_error.nd rfl (.inl rfl)) pgs_nil)))
    (pss_one (ps_if (pt_not (pt_val (pe_callO g_is_row (hr.mono (by decide)) rfl (pa_cons (pv 0) (pa_cons (pe_callB (cr_lenDK P w K ⟨rfl, rfl, rfl⟩) (by rfl) T.z_len (by decide +kernel) (pa_cons (pv 3) pa_nil)) (pa_cons (pv 5) pa_nil)))))) (pss_one (ps_ret (pe_tupDK P w K ⟨rfl, rfl, rfl⟩ (pa_cons (pv 4) (pa_cons pe_str pa_nil))))) pss_nil)))
  (pss_one (ps_ret (pe_ifExp (pt_val (pe_callO g_are_ends (hr.mono (by decide)) rfl (pa_cons (pe_callB (cr_lenDK P w K ⟨rfl, rfl, rfl⟩) (by rfl) T.z_len (by decide +kernel) (pa_cons (pv 3) pa_nil)) (pa_cons (pv 2) pa_nil)))) pe_non (pe_tupDK P w K ⟨rfl, rfl, rfl⟩ (pa_cons pe_non (pa_cons pe_str pa_nil))))))))))), ?_⟩)
  · obtain ⟨h, p, v, u, rfl, _⟩ := h
    rfl
  · obtain ⟨h, p, v, u, rfl, dv, k6, ok, l6, du, q⟩ := h
    have small : 200 < sizeLine := by decide
    have r1 := ok.r1
    have r3 := ok.r3
    have rl : (p.rows.map fun r => NestedKey.tup (r.map ok1)).length = p.rows.length := List.length_map _
    obtain ⟨a, v1, v2, rfl, sq, d1, d2⟩ := of_tup2 du
    refine ⟨.ref a, rfl, _, _, _, _, true, rfl, .ty _, ty_tup du, kit_ty (by decide +kernel), true, rfl, ?_⟩
    refine ⟨.ref a, rfl, .ref a, _, rfl, du, nk 2, nk 2, dv_nk, dv_nk, sm_nk _, sm_nk _, _, rfl, ?_⟩
    refine ⟨.ref a, rfl, a, _, rfl, sq, rfl, v1, _, rfl, v2, _, rfl, rfl, ?_⟩
    refine ⟨v2, rfl, _, _, _, _, true, rfl, .ty _, ty_tup d2, kit_ty (by decide +kernel), true, rfl, ?_⟩
    refine ⟨v2, rfl, v2, _, rfl, d2, _, _, rfl, rfl, _, rfl, ?_⟩
    rw [decide_eq_true (show (1 : Int) ≤ ((p.rows.map fun r => NestedKey.tup (r.map ok1)).length : Int) by rw [rl]; omega)]
    refine iteT ⟨_, _, rfl, rfl, _, rfl, ?_⟩
    rw [decide_eq_true (show ((p.rows.map fun r => NestedKey.tup (r.map ok1)).length : Int) ≤ 6 by rw [rl]; omega)]
    refine ⟨v2, rfl, v2, _, rfl, d2, fun J wk => for_it wk (fun i σ H' => Same H H' ∧ ∃ y4 y5, σ = [some v, some (.ref a), some v1, some v2, y4, y5]) ⟨fun _ _ z => z, _, _, rfl⟩ (fun i σ H' _ pv => .same pv.1) (fun i x σ H1 H2 hi pv y => ?_) (fun σ H1 pv => ?_)⟩
    · obtain ⟨s1, y4, y5, rfl⟩ := pv
      obtain ⟨s2, k, ek, dx⟩ := y
      obtain ⟨hi', ek⟩ := map_get [] ek
      subst ek
      have hm : p.rows.getD i [] ∈ p.rows := by rw [getD_lt hi']; exact List.getElem_mem _
      obtain ⟨a3, v3, v4, rfl, sq3, d3, d4⟩ := of_tup2 dx
      have s12 := sametr s1 s2
      refine ⟨a3, _, rfl, sq3, rfl, v3, _, rfl, v4, _, rfl, rfl, v, rfl, v2, rfl, v2, _, rfl, d2.tx (.same s12), v4, rfl, h, _, p.rows.getD i [], v, v4, rfl, dv.tx (.same s12), k6, d4, (ok.row _ hm).1, ?_, fun H3 s3 => ⟨true, rfl, ?_⟩⟩
      · rw [rl]
        exact (ok.row _ hm).2
      · exact ⟨sametr s12 s3, _, _, rfl⟩
    · obtain ⟨s1, y4, y5, rfl⟩ := pv
      refine ⟨v2, rfl, v2, _, rfl, d2.tx (.same s1), v1, rfl, _, p.ends, v1, rfl, d1.tx (.same s1), ok.e1, l6, ok.asc, ?_, fun H2 s2 => ⟨true, rfl, q H2 (sametr s1 s2)⟩⟩
      rw [rl]
      exact ok.lt
theorem sc_is_plan : FnScope ["handler", "value"] ["handler", "value"] (defScope s_is_plan) := ⟨rfl, rfl, rfl, by decide +kernel, rfl, by decide +kernel, by decide +kernel⟩
def sp_is_plan (K : PySem.W.Frag) : Sp := fun vs H Q _ => ∃ h p v u, vs = [v, u] ∧ DV K H (hk h) v ∧ h.K ≤ 6 ∧ p.Ok h.K ∧ p.ends.length ≤ 6 ∧ DV K H (plk p) u ∧ ∀ H', Same H H' → Q (.bl true) H'
theorem ok_is_plan (T : Txt K mg C S tH tP) (F : FnP K "is_plan" "is_plan" s_is_plan f fd) (g_plan_error : Ok P w K mg base "plan_error" 3 ["handler", "value"] (sp_plan_error K)) : FnOk P w K mg base CX0 4 f fd ["handler", "value"] (sp_is_plan K) := by
  refine F.ok sc_is_plan (fun vs H Q E h => ?_) (fun cdv A outer s H vs Q E hr h => ⟨_, PSs.nox ((pss_one (ps_ret (pe_cmpR op_isN (pe_callO g_plan_error (hr.mono (by decide)) rfl (pa_cons (pv 0) (pa_cons (pv 1) pa_nil))) pe_non (nomark _))))), ?_⟩)
  · obtain ⟨h, p, v, u, rfl, _⟩ := h
    rfl
  · obtain ⟨h, p, v, u, rfl, dv, k6, ok, l6, du, q⟩ := h
    exact ⟨v, rfl, u, rfl, h, p, v, u, rfl, dv, k6, ok, l6, du, fun H1 s1 => ⟨rfl, q H1 s1⟩⟩
end
end K14

/-! W13: the courier's methods. -/
namespace K14
open PySem PySem.Spec PyProof.Rows L2
/-- what a new list of data, a new datum is handed to -/
def NewL (K : PySem.W.Frag) (H : Hp) (ks : List NestedKey) (Q : VK) : Prop := ∀ p us H', Same H H' → H p = none → H' p = some (.lst us) → DVs K H' ks us → Q (.ref p) H'
theorem NewL.on {K : PySem.W.Frag} {H H1 : Hp} {ks : List NestedKey} {Q : VK} (n : NewL K H ks Q) (s : Same H H1) : NewL K H1 ks Q := fun p us H' s1 h0 h1 d => n p us H' (sametr s s1) (s.free h0) h1 d
/-! ### the courier -/
def cflds (v e : V) : List (Str × V) := putF "kept" e (putF "orderly" (.bl false) (putF "hold" (.int 1) (putF "handler" v [])))
theorem cf_handler (v e : V) : (cflds v e).lookup ("handler" : Str) = some v := by
  unfold cflds
  rw [lookup_putF, if_neg (by decide +kernel), lookup_putF, if_neg (by decide +kernel), lookup_putF, if_neg (by decide +kernel), lookup_putF, if_pos rfl]
theorem cf_hold (v e : V) : (cflds v e).lookup ("hold" : Str) = some (.int 1) := by
  unfold cflds
  rw [lookup_putF, if_neg (by decide +kernel), lookup_putF, if_neg (by decide +kernel), lookup_putF, if_pos rfl]
theorem cf_orderly (v e : V) : (cflds v e).lookup ("orderly" : Str) = some (.bl false) := by
  unfold cflds
  rw [lookup_putF, if_neg (by decide +kernel), lookup_putF, if_pos rfl]
theorem cf_kept (v e : V) : (cflds v e).lookup ("kept" : Str) = some e := by
  unfold cflds
  rw [lookup_putF, if_pos rfl]
theorem cf_no (v e : V) {m : Str} (h1 : ¬ m = "kept") (h2 : ¬ m = "orderly") (h3 : ¬ m = "hold") (h4 : ¬ m = "handler") : (cflds v e).lookup m = none := by
  unfold cflds
  rw [lookup_putF, if_neg h1, lookup_putF, if_neg h2, lookup_putF, if_neg h3, lookup_putF, if_neg h4]
  rfl
structure CoAt (K : PySem.W.Frag) (C : Addr) (H : Hp) (c : Addr) (h : Hd) : Prop where
  ex : ∃ dx v e, H c = some (.ins C dx (cflds v e)) ∧ DV K H (hk h) v ∧ DV K H (lk []) e
theorem CoAt.on {K : PySem.W.Frag} {C : Addr} {H H' : Hp} {c : Addr} {h : Hd} (A : CoAt K C H c h) (s : Same H H') : CoAt K C H' c h := by
  obtain ⟨dx, v, e, h1, h2, h3⟩ := A.ex
  exact ⟨dx, v, e, s _ _ h1, h2.tx (.same s), h3.tx (.same s)⟩
theorem sorted_opt (x : Option Nat) (ns : List Int) (nl : ns.length ≤ 1) (hm : ∀ k, k ∈ ns ↔ k ∈ x.toList.map fun n : Nat => (n : Int)) : ns = x.toList.map fun n : Nat => (n : Int) := by
  cases x with
  | none =>
    cases ns with
    | nil => rfl
    | cons z zs => exact absurd ((hm z).mp List.mem_cons_self) (by simp)
  | some y =>
    match ns, nl, hm with
    | [], _, hm => exact absurd ((hm (y : Int)).mpr (by simp)) (by simp)
    | [z], _, hm =>
      have e := (hm z).mp (by simp)
      have e2 : z = (y : Int) := by simpa using e
      rw [e2]
      rfl
    | _ :: _ :: _, nl, _ => simp at nl
def PrOk (h : Hd) (q : Pr) : Prop := q.1 < h.n ∧ ∀ k, q.2 = some k → k < h.K
def StOk (h : Hd) (p : Pl) (t : St4) : Prop := t.pl < p.rows.length ∧ t.s < h.n ∧ t.o < h.n ∧ ∀ k, t.held = some k → k < h.K
section
variable {P : Program} {w : World} {K : PySem.W.Frag} {mg : Str → Option Value} {base : Heap} {C S : Addr} {tH tP : Tok} {f : Addr} {fd : FuncData}
theorem sc_m_led : FnScope ["self", "state", "index"] ["self", "state", "index"] (defScope m_led) := ⟨rfl, rfl, rfl, by decide +kernel, rfl, by decide +kernel, by decide +kernel⟩
def sp_led (K : PySem.W.Frag) (C : Addr) : Sp := fun vs H Q _ => ∃ h c s k, vs = [.ref c, iv s, iv k] ∧ h.Ok ∧ CoAt K C H c h ∧ s < h.n ∧ k < h.K ∧ Q (iv (h.step k s)) H
theorem ok_led (T : Txt K mg C S tH tP) (F : FnP K "led" "Courier.led" m_led f fd) : FnOk P w K mg base CX0 1 f fd ["self", "state", "index"] (sp_led K C) := by
  refine F.ok sc_m_led (fun vs H Q E h => ?_) (fun cdv A outer s H vs Q E hr h => ⟨_, PSs.nox ((pss_one (ps_ret (pe_ix (ix_datK P w K ⟨rfl, rfl, rfl⟩) (pe_ix (ix_datK P w K ⟨rfl, rfl, rfl⟩) (pe_ix (ix_datK P w K ⟨rfl, rfl, rfl⟩) (pe_ix (ix_datK P w K ⟨rfl, rfl, rfl⟩) (pe_fldK P w K ⟨rfl, rfl, rfl⟩ (pv 0) rfl) pe_int (fun _ _ => rfl)) (pv 2) (fun _ _ => rfl)) pe_int (fun _ _ => rfl)) (pv 1) (fun _ _ => rfl))))), ?_⟩)
  · obtain ⟨h, c, s, k, rfl, _⟩ := h
    rfl
  · obtain ⟨h, c, s, k, rfl, o, A, hs, hk', q⟩ := h
    obtain ⟨dx, v, e, h1, h2, h3⟩ := A.ex
    exact ⟨.ref c, rfl, c, C, dx, _, v, rfl, h1, T.cl, T.n_handler, cf_handler _ _, step_rd o h2 rfl rfl hk' hs q⟩
theorem sc_m_is_free : FnScope ["self", "held", "index", "kind"] ["self", "held", "index"] (defScope m_is_free) := ⟨rfl, rfl, rfl, by decide +kernel, rfl, by decide +kernel, by decide +kernel⟩
def sp_is_free (K : PySem.W.Frag) (C : Addr) : Sp := fun vs H Q _ => ∃ h c a b, vs = [.ref c, a, b] ∧ CoAt K C H c h ∧ Q (.bl true) H
theorem ok_is_free (T : Txt K mg C S tH tP) (F : FnP K "is_free" "Courier.is_free" m_is_free f fd) : FnOk P w K mg base CX0 1 f fd ["self", "held", "index"] (sp_is_free K C) := by
  refine F.ok sc_m_is_free (fun vs H Q E h => ?_) (fun cdv A outer s H vs Q E hr h => ⟨_, PSs.nox ((pss_one (ps_ret (pe_or (pe_not (pe_fldK P w K ⟨rfl, rfl, rfl⟩ (pv 0) rfl)) (pe_one pe_off))))), ?_⟩)
  · obtain ⟨h, c, a, b, rfl, _⟩ := h
    rfl
  · obtain ⟨h, c, a, b, rfl, A, q⟩ := h
    obtain ⟨dx, v, e, h1, h2, h3⟩ := A.ex
    exact ⟨.ref c, rfl, c, C, dx, _, _, rfl, h1, T.cl, T.n_orderly, cf_orderly _ _, false, rfl, true, rfl, q⟩
theorem sc_m_may_hold : FnScope ["self", "held", "index"] ["self", "held", "index"] (defScope m_may_hold) := ⟨rfl, rfl, rfl, by decide +kernel, rfl, by decide +kernel, by decide +kernel⟩
def sp_may_hold (K : PySem.W.Frag) (C : Addr) : Sp := fun vs H Q _ => ∃ h c u k l, vs = [.ref c, u, iv k] ∧ CoAt K C H c h ∧ DV K H (lk l) u ∧ Q (.bl (decide (l.length < 1))) H
theorem ok_may_hold (T : Txt K mg C S tH tP) (F : FnP K "may_hold" "Courier.may_hold" m_may_hold f fd) : FnOk P w K mg base CX0 1 f fd ["self", "held", "index"] (sp_may_hold K C) := by
  refine F.ok sc_m_may_hold (fun vs H Q E h => ?_) (fun cdv A outer s H vs Q E hr h => ⟨_, PSs.nox ((pss_one (ps_ret (pe_and (pe_cmpR op_lt (pe_callB (cr_lenDK P w K ⟨rfl, rfl, rfl⟩) (by rfl) T.z_len (by decide +kernel) (pa_cons (pv 1) pa_nil)) (pe_fldK P w K ⟨rfl, rfl, rfl⟩ (pv 0) rfl) (nomark _)) (pe_one (pe_cmpR (op_notinTK P w K ⟨rfl, rfl, rfl⟩) (pv 2) (pe_fldK P w K ⟨rfl, rfl, rfl⟩ (pv 0) rfl) rfl)))))), ?_⟩)
  · obtain ⟨h, c, u, k, l, rfl, _⟩ := h
    rfl
  · obtain ⟨h, c, u, k, l, rfl, A, du, q⟩ := h
    obtain ⟨dx, v, e, h1, h2, h3⟩ := A.ex
    refine ⟨u, rfl, u, _, rfl, du, .ref c, rfl, c, C, dx, _, _, rfl, h1, T.cl, T.n_hold, cf_hold _ _, _, _, rfl, rfl, _, rfl, ?_⟩
    rw [List.length_map]
    by_cases q1 : l.length < 1
    · rw [decide_eq_true (show (l.length : Int) < 1 by omega)]
      rw [decide_eq_true q1] at q
      exact ⟨_, rfl, .ref c, rfl, c, C, dx, _, _, rfl, h1, T.cl, T.n_kept, cf_kept _ _, k, [], rfl, h3, q⟩
    · rw [decide_eq_false (show ¬ (l.length : Int) < 1 by omega)]
      rw [decide_eq_false q1] at q
      exact q
theorem sc_m_with_one : FnScope ["self", "held", "index", "place", "kind"] ["self", "held", "index"] (defScope m_with_one) := ⟨rfl, rfl, rfl, by decide +kernel, rfl, by decide +kernel, by decide +kernel⟩
def sp_with_one (K : PySem.W.Frag) (C : Addr) : Sp := fun vs H Q _ => ∃ h c u k l, vs = [.ref c, u, iv k] ∧ CoAt K C H c h ∧ DV K H (lk l) u ∧ l.length ≤ 1000 ∧ ∀ l' v H', Same H H' → l'.Perm (l ++ [k]) → DV K H' (lk l') v → Q v H'
theorem ok_with_one (T : Txt K mg C S tH tP) (F : FnP K "with_one" "Courier.with_one" m_with_one f fd) : FnOk P w K mg base CX0 1 f fd ["self", "held", "index"] (sp_with_one K C) := by
  refine F.ok sc_m_with_one (fun vs H Q E h => ?_) (fun cdv A outer s H vs Q E hr h => ⟨_, PSs.nox ((pss_cons (ps_if (pt_not (pt_val (pe_fldK P w K ⟨rfl, rfl, rfl⟩ (pv 0) rfl))) (pss_one (ps_ret (pe_callTy (cr_tupOfK P w K ⟨rfl, rfl, rfl⟩) (by rfl) T.z_tuple (by decide +kernel) (pa_cons (pe_callB (cr_sortedIK P w K ⟨rfl, rfl, rfl⟩) (by rfl) T.z_sorted (by decide +kernel) (pa_cons (pe_lst (pa_starK P w K ⟨rfl, rfl, rfl⟩ (pv 1) (pa_cons (pv 2) pa_nil))) pa_nil)) pa_nil)))) pss_nil)
  (pss_cons ps_never
  (pss_one ps_never)))), ?_⟩)
  · obtain ⟨h, c, u, k, l, rfl, _⟩ := h
    rfl
  · obtain ⟨h, c, u, k, l, rfl, A, du, l50, q⟩ := h
    obtain ⟨dx, v, e, h1, h2, h3⟩ := A.ex
    obtain ⟨a, rfl, sq⟩ := of_lk du
    have small : 2000 < sizeLine := by decide
    refine ⟨.ref c, rfl, c, C, dx, _, _, rfl, h1, T.cl, T.n_orderly, cf_orderly _ _, false, rfl, .ref a, rfl, a, _, rfl, .inl sq, iv k, rfl, ?_, fun p hp => ?_⟩
    · rw [List.length_append, List.length_map]
      simp only [List.length_cons, List.length_nil]
      omega
    have e1 : l.map iv ++ [iv k] = ((l ++ [k]).map fun n : Nat => (n : Int)).map V.int := by
      rw [List.map_map, List.map_append]
      rfl
    refine ⟨p, (l ++ [k]).map fun n : Nat => (n : Int), rfl, SqL.of (by rw [upd_same, e1]), fun ns p2 hperm hs hn => ?_⟩
    have hy : ∀ y ∈ ns, y = ((y.toNat : Nat) : Int) := fun y hy => by
      obtain ⟨n, _, e⟩ := List.mem_map.mp (hperm.mem_iff.mp hy)
      rw [← e, Int.toNat_natCast]
    have e2 : ns.map V.int = (ns.map Int.toNat).map iv := by
      rw [List.map_map]
      exact List.map_congr_left fun y h' => congrArg V.int (hy y h')
    refine ⟨p2, _, (ns.map Int.toNat).map nk, rfl, SqL.of upd_same, ?_, fun z H2 s2 dz => q _ z H2 (sametr (same_new hp) (sametr (same_new hn) s2)) ?_ dz⟩
    · rw [e2]
      exact dvs_nks
    · have z := hperm.map Int.toNat
      rw [List.map_map] at z
      have e3 : (l ++ [k]).map (Int.toNat ∘ fun n : Nat => (n : Int)) = l ++ [k] := by
        conv => rhs; rw [← List.map_id (l ++ [k])]
        exact List.map_congr_left fun n _ => Int.toNat_natCast n
      rw [e3] at z
      exact z
theorem sc_m_ready_kinds : FnScope ["self", "held", "found", "kind", "one"] ["self", "held"] (defScope m_ready_kinds) := ⟨rfl, rfl, rfl, by decide +kernel, rfl, by decide +kernel, by decide +kernel⟩
def sp_ready_kinds (K : PySem.W.Frag) (C : Addr) : Sp := fun vs H Q _ => ∃ h c u, ∃ x : Option Nat, vs = [.ref c, u] ∧ CoAt K C H c h ∧ DV K H (lk x.toList) u ∧ NewL K H (x.toList.map nk) Q
theorem ok_ready_kinds (T : Txt K mg C S tH tP) (F : FnP K "ready_kinds" "Courier.ready_kinds" m_ready_kinds f fd) : FnOk P w K mg base CX0 1 f fd ["self", "held"] (sp_ready_kinds K C) := by
  refine F.ok sc_m_ready_kinds (fun vs H Q E h => ?_) (fun cdv A outer s H vs Q E hr h => ⟨_, PSs.nox ((pss_cons (ps_if (pt_not (pt_val (pe_fldK P w K ⟨rfl, rfl, rfl⟩ (pv 0) rfl))) (pss_one (ps_ret (pe_callB (cr_sortedSetK P w K ⟨rfl, rfl, rfl⟩ rfl) (by rfl) T.z_sorted (by decide +kernel) (pa_cons (pe_callTy (cr_setTK P w K ⟨rfl, rfl, rfl⟩ rfl) (by rfl) T.z_set (by decide +kernel) (pa_cons (pv 1) pa_nil)) pa_nil)))) pss_nil)
  (pss_cons ps_never
  (pss_cons ps_never
  (pss_one ps_never))))), ?_⟩)
  · obtain ⟨h, c, u, x, rfl, _⟩ := h
    rfl
  · obtain ⟨h, c, u, x, rfl, A, du, q⟩ := h
    obtain ⟨dx, v, e, h1, h2, h3⟩ := A.ex
    obtain ⟨a, rfl, sq⟩ := of_lk du
    have e1 : x.toList.map iv = (x.toList.map fun n : Nat => (n : Int)).map V.int := by
      rw [List.map_map]
      rfl
    have l1 : (x.toList.map fun n : Nat => (n : Int)).length ≤ 1 := by
      rw [List.length_map]
      cases x <;> simp
    refine ⟨.ref c, rfl, c, C, dx, _, _, rfl, h1, T.cl, T.n_orderly, cf_orderly _ _, false, rfl, .ref a, rfl, a, x.toList.map (fun n : Nat => (n : Int)), rfl, by rw [← e1]; exact sq, by omega, fun b n hn hb => ?_⟩
    refine ⟨b, _, n, rfl, upd_same, by omega, fun ns p hs hm hl hp => ?_⟩
    have en : ns = x.toList.map fun n : Nat => (n : Int) := by
      have hm' : ∀ k, k ∈ ns ↔ k ∈ x.toList.map fun n : Nat => (n : Int) := fun k => by rw [hm]; exact decide_eq_true_iff
      exact sorted_opt x ns (by omega) hm'
    have s1 := same_new hb (o := SetO w b (fun j => decide (j ∈ x.toList.map fun n : Nat => (n : Int))) n)
    refine q p _ _ (sametr s1 (same_new hp)) (s1.free hp) upd_same ?_
    rw [en, ← e1]
    exact dvs_nks
end
end K14

/-! W14: the courier's steps. -/
namespace K14
open PySem PySem.Spec PyProof.Rows L2
/-- a new thing beside: what is local stays -/
theorem upd_at {H : Hp} {a b : Addr} {o u : HO} (h : H a = some o) (n : H b = none) : (upd H b u) a = some o := (upd_ne (ne_of_none h n)).trans h
section
variable {P : Program} {w : World} {K : PySem.W.Frag} {mg : Str → Option Value} {base : Heap} {C S : Addr} {tH tP : Tok} {f : Addr} {fd : FuncData}
theorem sc_m_come_from : FnScope ["self", "pair", "other", "held", "found", "kind", "place", "at", "one"] ["self", "pair"] (defScope m_come_from) := ⟨rfl, rfl, rfl, by decide +kernel, rfl, by decide +kernel, by decide +kernel⟩
def sp_come_from (K : PySem.W.Frag) (C : Addr) : Sp := fun vs H Q _ => ∃ h c u q, vs = [.ref c, u] ∧ h.Ok ∧ CoAt K C H c h ∧ DV K H (pk q) u ∧ PrOk h q ∧ NewL K H ((comeP h q).map pk) Q
theorem ok_come_from (T : Txt K mg C S tH tP) (F : FnP K "come_from" "Courier.come_from" m_come_from f fd) (gm_ready_kinds : OkM P w K mg base C "ready_kinds" 1 ["self", "held"] (sp_ready_kinds K C)) (gm_led : OkM P w K mg base C "led" 1 ["self", "state", "index"] (sp_led K C)) :
    FnOk P w K mg base CX0 2 f fd ["self", "pair"] (sp_come_from K C) := by
  refine F.ok sc_m_come_from (fun vs H Q E h => ?_) (fun cdv A outer s H vs Q E hr h => ⟨_, PSs.nox ((pss_cons (ps_asg (pv 1) (pg_tupK (n := 2) P w K ⟨rfl, rfl, rfl⟩ (by rfl) (pgs_cons (pg_name (i := 2) sc_m_come_from.nd rfl (.inl rfl)) (pgs_cons (pg_name (i := 3) sc_m_come_from.nd rfl (.inl rfl)) pgs_nil))))
  (pss_cons (ps_set (i := 4) sc_m_come_from.nd rfl (.inl rfl) (pe_lst pa_nil))
  (pss_cons (ps_for PassesOwn.never rfl (pi_LDK P w K ⟨rfl, rfl, rfl⟩ (pe_methO (pv 0) T.cl gm_ready_kinds (hr.mono (by decide)) (pa_cons (pv 3) pa_nil))) (pg_name (i := 5) sc_m_come_from.nd rfl (.inr rfl))
    (pss_cons (ps_set (i := 6) sc_m_come_from.nd rfl (.inl rfl) (pe_ix (ix_lstK P w K ⟨rfl, rfl, rfl⟩) (pe_lc (own := [("at", 7), ("one", 8)]) (by rfl) sc_m_come_from.nd (pi_ED P w K ⟨rfl, rfl, rfl⟩ (by rfl) T.z_enumerate (pa_cons (pv 3) pa_nil)) (blkOk_by (own := [("at", 7), ("one", 8)]) (N := ["self", "pair", "other", "held", "found", "kind", "place", "at", "one"]) (sc := defScope m_come_from) (by decide +kernel)) (fun _ _ _ _ _ => (pg_tupK (n := 2) P w K ⟨rfl, rfl, rfl⟩ (by rfl) (pgs_cons (pg_name (i := 7) sc_m_come_from.nd rfl (Or.inl rfl)) (pgs_cons (pg_name (i := 8) sc_m_come_from.nd rfl (Or.inl rfl)) pgs_nil)))) (fun _ _ _ _ _ => (pts_one (pt_cmpR (op_deqK P w K ⟨rfl, rfl, rfl⟩ hr) (pv 8) (pv 5) (nomark _)))) (fun _ _ _ _ _ => (pv 7))) pe_int (fun _ _ => rfl)))
  (pss_one (ps_expr (pe_bmK P w K ⟨rfl, rfl, rfl⟩ PySem.F.plainAttrs_list PySem.F.slot_list_append PySem.F.type_list_append mt_append (pv 4) (pa_cons (pe_tupDK P w K ⟨rfl, rfl, rfl⟩ (pa_cons (pe_methO (pv 0) T.cl gm_led (hr.mono (by decide)) (pa_cons (pv 2) (pa_cons (pv 5) pa_nil))) (pa_cons (pe_tupDK P w K ⟨rfl, rfl, rfl⟩ (pa_starK P w K ⟨rfl, rfl, rfl⟩ (pe_slice (sl_tupK P w K ⟨rfl, rfl, rfl⟩) (pv 3) po_none (po_some (pv 6))) (pa_starK P w K ⟨rfl, rfl, rfl⟩ (pe_slice (sl_tupK P w K ⟨rfl, rfl, rfl⟩) (pv 3) (po_some (pe_op op_add (pv 6) pe_int)) po_none) pa_nil))) pa_nil))) pa_nil))))))
  (pss_one (ps_ret (pv 4))))))), ?_⟩)
  · obtain ⟨h, c, u, q, rfl, _⟩ := h
    rfl
  obtain ⟨h, c, u, ⟨x, hd⟩, rfl, o, A, du, ⟨hx, hk0⟩, q⟩ := h
  have small : 200 < sizeLine := by decide
  obtain ⟨a, v1, v2, rfl, sq, d1, d2⟩ := of_tup2 du
  have e1 := of_num d1
  subst e1
  refine ⟨.ref a, rfl, a, _, rfl, sq, rfl, .int (x : Int), _, rfl, v2, _, rfl, rfl, Nat.zero_le _, fun l hl => ?_⟩
  have s1 : Same H (upd H l (.lst [])) := same_new hl
  obtain ⟨dx, hv, he, c1, c2, c3⟩ := (A.on s1).ex
  have noR : (cflds hv he).lookup ("ready_kinds" : Str) = none := cf_no _ _ (by decide +kernel) (by decide +kernel) (by decide +kernel) (by decide +kernel)
  have noL : (cflds hv he).lookup ("led" : Str) = none := cf_no _ _ (by decide +kernel) (by decide +kernel) (by decide +kernel) (by decide +kernel)
  refine ⟨.ref c, rfl, c, dx, _, rfl, c1, noR, v2, rfl, h, c, v2, hd, rfl, A.on s1, d2.tx (.same s1), fun p us H2 s2 p0 p1 ds => ⟨p, us, _, rfl, SqL.of p1, ds, fun J wk => ?_⟩⟩
  have l2 : H2 l = some (.lst []) := s2 _ _ upd_same
  have s12 : Same H H2 := sametr s1 s2
  refine for_it wk (fun i σ H' => Same H H' ∧ TX H2 H' ∧ SqL K H' p us ∧ (∃ vs, H' l = some (.lst vs) ∧ DVs K H' (((comeP h (x, hd)).take i).map pk) vs) ∧ ∃ y5 y6 y7 y8, σ = [some (.ref c), some (.ref a), some (iv x), some v2, some (.ref l), y5, y6, y7, y8])
    ⟨s12, .refl _, SqL.of p1, ⟨[], l2, dvs_nil⟩, _, _, _, _, rfl⟩ (fun i σ H' _ pv => ⟨pv.2.2.1, pv.2.1⟩) (fun i y σ H3 H4 hi pv yy => ?_) (fun σ H3 pv => ?_)
  · obtain ⟨s3, t3, sp3, ⟨vs, l3, ds3⟩, y5, y6, y7, y8, rfl⟩ := pv
    obtain ⟨rfl, k0, ek, dk⟩ := yy
    cases hd with
    | none => exact absurd hi (Nat.not_lt_zero _)
    | some k =>
      have hi0 : i = 0 := by
        have : i < 1 := hi
        omega
      subst hi0
      have ek0 : k0 = nk k := (Option.some.inj ek).symm
      subst ek0
      have ey := of_num dk
      subst ey
      have evs : vs = [] := of_nil ds3
      subst evs
      obtain ⟨dx4, hv4, he4, c4, c5, c6⟩ := (A.on s3).ex
      have noL4 : (cflds hv4 he4).lookup ("led" : Str) = none := cf_no _ _ (by decide +kernel) (by decide +kernel) (by decide +kernel) (by decide +kernel)
      obtain ⟨a2, rfl, sq2⟩ := of_lk (d2.tx (.same s3))
      refine ⟨.ref a2, rfl, .ref a2, [nk k], rfl, d2.tx (.same s3), fun J2 wk2 D hD => lc_dat (K := K) wk2 (fun i => some (nk 0)) hD (by show 1 < sizeLine; decide) (fun H' s => .same s) (fun j z H5 H6 Nx hj s5 y no yes => ?_) (fun H5 us5 s5 hD5 ds5 => ?_)⟩
      · obtain ⟨s6, k2, ek2, dz⟩ := y
        have hj0 : j = 0 := by
          have : j < 1 := hj
          omega
        subst hj0
        have ek3 : k2 = nk k := (Option.some.inj ek2).symm
        subst ek3
        obtain ⟨a3, w1, w2, rfl, sq3, dw1, dw2⟩ := of_tup2 dz
        have e1 := of_num dw1
        have e2 := of_num dw2
        subst e1 e2
        refine ⟨a3, _, rfl, sq3, rfl, iv 0, _, rfl, iv k, _, rfl, rfl, rfl, iv k, rfl, iv k, rfl, nk k, nk k, dv_nk, dv_nk, sm_nk _, sm_nk _, _, rfl, ?_⟩
        rw [decide_eq_true rfl]
        exact ⟨iv 0, rfl, yes _ _ _ rfl s6 dv_nk⟩
      · have eu : us5 = [iv 0] := of_nks (l := [0]) ds5
        subst eu
        have sq5 := sqT_tx (.same s5) sq2
        refine ⟨D, _, 0, iv 0, rfl, SqL.of hD5, rfl, rfl, ?_⟩
        have l5 : H5 l = some (.lst []) := s5 _ _ l3
        have A5 := (A.on s3).on s5
        obtain ⟨dx5, hv5, he5, c7, c8, c9⟩ := A5.ex
        have noL5 : (cflds hv5 he5).lookup ("led" : Str) = none := cf_no _ _ (by decide +kernel) (by decide +kernel) (by decide +kernel) (by decide +kernel)
        refine ⟨.ref l, rfl, .inl ⟨rfl, _, SqL.of l5⟩, .ref c, rfl, c, dx5, _, rfl, c7, noL5, iv x, rfl, iv k, rfl, h, c, x, k, rfl, o, A5, hx, hk0 k rfl, ?_⟩
        refine ⟨.ref a2, rfl, iv 0, rfl, ((0 : Nat) : Int), rfl, a2, [iv k], rfl, sq5, (fun z => absurd z.2 (by show ¬ (HT.sIx 1 1 (some ((0 : Nat) : Int)) = 1); decide)), fun p5 hp5 => ?_⟩
        have s6 : Same H5 (upd H5 p5 (.tup (cutV [iv k] none (some ((0 : Nat) : Int))))) := same_new hp5
        refine ⟨p5, _, rfl, .inl (SqT.of upd_same), .ref a2, rfl, iv 0, rfl, _, _, rfl, rfl, _, rfl, a2, [iv k], rfl, sqT_tx (.same s6) sq5, (fun z => absurd z.1 (by show ¬ (HT.sIx 1 0 (some (((0 : Nat) : Int) + 1)) = 0); decide)), fun p6 hp6 => ?_⟩
        have s7 : Same _ (upd (upd H5 p5 (.tup (cutV [iv k] none (some ((0 : Nat) : Int))))) p6 (.tup (cutV [iv k] (some (((0 : Nat) : Int) + 1)) none))) := same_new hp6
        refine ⟨p6, _, rfl, .inl (SqT.of upd_same), [], dvs_nil, Nat.zero_le _, fun z H8 s8 dz => ⟨[nk (h.step k x), lk []], dvs_cons dv_nk (dvs_cons dz dvs_nil), (by show 2 ≤ sizeLine; decide), fun z2 H9 s9 dz2 => ?_⟩⟩
        have s10 := sametr s5 (sametr s6 (sametr s7 (sametr s8 s9)))
        have l9 := s10 _ _ l3
        refine ⟨l, [], z2, rfl, rfl, l9, (by show 0 < sizeLine; decide), ?_⟩
        have t9 : TX H9 (upd H9 l (.lst [z2])) := TX.lst l9
        refine ⟨same_upd (sametr s3 s10) hl, (t3.trans (.same s10)).trans t9, ?_, ⟨[z2], upd_same, dvs_cons (dz2.tx t9) dvs_nil⟩, _, _, _, _, rfl⟩
        have pl : p ≠ l := fun e => by
          subst e
          rw [upd_same] at p0
          cases p0
        rcases sp3 with h1 | h1
        · rcases h1 with h2 | ⟨ob, h2⟩
          · exact .inl (.inl ((upd_ne pl).trans (s10 _ _ h2)))
          · exact .inl (.inr ⟨ob, (upd_ne pl).trans (s10 _ _ h2)⟩)
        · exact .inr h1
  · obtain ⟨s3, t3, sp3, ⟨vs, l3, ds3⟩, y5, y6, y7, y8, rfl⟩ := pv
    refine ⟨.ref l, rfl, q l vs H3 s3 hl l3 ?_⟩
    rw [List.length_map] at ds3
    have e : (comeP h (x, hd)).take hd.toList.length = comeP h (x, hd) := by cases hd <;> rfl
    rw [e] at ds3
    exact ds3
end
end K14

/-! W15: send_from, come_at, sent_from. -/
namespace K14
open PySem PySem.Spec PyProof.Rows L2
section
variable {P : Program} {w : World} {K : PySem.W.Frag} {mg : Str → Option Value} {base : Heap} {C S : Addr} {tH tP : Tok} {f : Addr} {fd : FuncData}
theorem sc_m_send_from : FnScope ["self", "pair", "index", "other", "held", "found"] ["self", "pair", "index"] (defScope m_send_from) := ⟨rfl, rfl, rfl, by decide +kernel, rfl, by decide +kernel, by decide +kernel⟩
def sp_send_from (K : PySem.W.Frag) (C : Addr) : Sp := fun vs H Q _ => ∃ h c u k q, vs = [.ref c, u, iv k] ∧ h.Ok ∧ CoAt K C H c h ∧ DV K H (pk q) u ∧ PrOk h q ∧ k < h.K ∧ NewL K H ((sendP h q k).map pk) Q
theorem ok_send_from (T : Txt K mg C S tH tP) (F : FnP K "send_from" "Courier.send_from" m_send_from f fd) (gm_is_free : OkM P w K mg base C "is_free" 1 ["self", "held", "index"] (sp_is_free K C)) (gm_may_hold : OkM P w K mg base C "may_hold" 1 ["self", "held", "index"] (sp_may_hold K C))
    (gm_with_one : OkM P w K mg base C "with_one" 1 ["self", "held", "index"] (sp_with_one K C)) (gm_led : OkM P w K mg base C "led" 1 ["self", "state", "index"] (sp_led K C)) :
    FnOk P w K mg base CX0 2 f fd ["self", "pair", "index"] (sp_send_from K C) := by
  refine F.ok sc_m_send_from (fun vs H Q E h => ?_) (fun cdv A outer s H vs Q E hr h => ⟨_, PSs.nox ((pss_cons (ps_asg (pv 1) (pg_tupK (n := 2) P w K ⟨rfl, rfl, rfl⟩ (by rfl) (pgs_cons (pg_name (i := 3) sc_m_send_from.nd rfl (.inl rfl)) (pgs_cons (pg_name (i := 4) sc_m_send_from.nd rfl (.inl rfl)) pgs_nil))))
  (pss_cons (ps_set (i := 5) sc_m_send_from.nd rfl (.inl rfl) (pe_lst pa_nil))
  (pss_cons (ps_if (pt_val (pe_methO (pv 0) T.cl gm_is_free (hr.mono (by decide)) (pa_cons (pv 4) (pa_cons (pv 2) pa_nil)))) (pss_one (ps_expr (pe_bmK P w K ⟨rfl, rfl, rfl⟩ PySem.F.plainAttrs_list PySem.F.slot_list_append PySem.F.type_list_append mt_append (pv 5) (pa_cons (pe_tupDK P w K ⟨rfl, rfl, rfl⟩ (pa_cons (pe_methO (pv 0) T.cl gm_led (hr.mono (by decide)) (pa_cons (pv 3) (pa_cons (pv 2) pa_nil))) (pa_cons (pv 4) pa_nil))) pa_nil)))) pss_nil)
  (pss_cons (ps_if (pt_val (pe_methO (pv 0) T.cl gm_may_hold (hr.mono (by decide)) (pa_cons (pv 4) (pa_cons (pv 2) pa_nil)))) (pss_one (ps_expr (pe_bmK P w K ⟨rfl, rfl, rfl⟩ PySem.F.plainAttrs_list PySem.F.slot_list_append PySem.F.type_list_append mt_append (pv 5) (pa_cons (pe_tupDK P w K ⟨rfl, rfl, rfl⟩ (pa_cons (pv 3) (pa_cons (pe_methO (pv 0) T.cl gm_with_one (hr.mono (by decide)) (pa_cons (pv 4) (pa_cons (pv 2) pa_nil))) pa_nil))) pa_nil)))) pss_nil)
  (pss_one (ps_ret (pv 5)))))))), ?_⟩)
  · obtain ⟨h, c, u, k, q, rfl, _⟩ := h
    rfl
  obtain ⟨h, c, u, k, ⟨x, hd⟩, rfl, o, A, du, ⟨hx, hk0⟩, hkK, q⟩ := h
  have small : 200 < sizeLine := by decide
  obtain ⟨a, v1, v2, rfl, sq, d1, d2⟩ := of_tup2 du
  have e1 := of_num d1
  subst e1
  refine ⟨.ref a, rfl, a, _, rfl, sq, rfl, .int (x : Int), _, rfl, v2, _, rfl, rfl, Nat.zero_le _, fun l hl => ?_⟩
  have s1 : Same H (upd H l (.lst [])) := same_new hl
  have A1 := A.on s1
  obtain ⟨dx, hv, he, c1, c2, c3⟩ := A1.ex
  have no1 : (cflds hv he).lookup ("is_free" : Str) = none := cf_no _ _ (by decide +kernel) (by decide +kernel) (by decide +kernel) (by decide +kernel)
  have no2 : (cflds hv he).lookup ("led" : Str) = none := cf_no _ _ (by decide +kernel) (by decide +kernel) (by decide +kernel) (by decide +kernel)
  refine ⟨.ref c, rfl, c, dx, _, rfl, c1, no1, v2, rfl, iv k, rfl, h, c, v2, iv k, rfl, A1, true, rfl, ?_⟩
  refine ⟨.ref l, rfl, .inl ⟨rfl, _, SqL.of upd_same⟩, .ref c, rfl, c, dx, _, rfl, c1, no2, iv x, rfl, iv k, rfl, h, c, x, k, rfl, o, A1, hx, hkK, v2, rfl, [nk (h.step k x), lk hd.toList], dvs_cons dv_nk (dvs_cons (d2.tx (.same s1)) dvs_nil), (by show 2 ≤ sizeLine; decide), fun z H2 s2 dz => ?_⟩
  have l2 : H2 l = some (.lst []) := s2 _ _ upd_same
  refine ⟨l, [], z, rfl, rfl, l2, (by show 0 < sizeLine; decide), ?_⟩
  have s3 : Same H (upd H2 l (.lst [z])) := same_upd (sametr s1 s2) hl
  have t3 : TX H2 (upd H2 l (.lst [z])) := TX.lst l2
  have A3 := A.on s3
  have dz3 := dz.tx t3
  have l3 : (upd H2 l (.lst [z])) l = some (.lst [z]) := upd_same
  show (fun _ => _) _
  generalize hH3 : upd H2 l (.lst ([] ++ [z])) = H3
  replace hH3 : upd H2 l (.lst [z]) = H3 := hH3
  rw [hH3] at s3 t3 A3 dz3 l3
  obtain ⟨dx3, hv3, he3, c4, c5, c6⟩ := A3.ex
  have no3 : (cflds hv3 he3).lookup ("may_hold" : Str) = none := cf_no _ _ (by decide +kernel) (by decide +kernel) (by decide +kernel) (by decide +kernel)
  have no4 : (cflds hv3 he3).lookup ("with_one" : Str) = none := cf_no _ _ (by decide +kernel) (by decide +kernel) (by decide +kernel) (by decide +kernel)
  refine ⟨.ref c, rfl, c, dx3, _, rfl, c4, no3, v2, rfl, iv k, rfl, h, c, v2, k, hd.toList, rfl, A3, d2.tx (.same s3), _, rfl, ?_⟩
  cases hd with
  | some j =>
    exact ⟨.ref l, rfl, q l [z] H3 s3 hl l3 (dvs_cons dz3 dvs_nil)⟩
  | none =>
    refine ⟨.ref l, rfl, .inl ⟨rfl, _, SqL.of l3⟩, iv x, rfl, .ref c, rfl, c, dx3, _, rfl, c4, no4, v2, rfl, iv k, rfl, h, c, v2, k, [], rfl, A3, d2.tx (.same s3), Nat.zero_le _, fun l' z2 H4 s4 pm dz2 => ?_⟩
    have el : l' = [k] := List.perm_singleton.mp pm
    subst el
    refine ⟨[nk x, lk [k]], dvs_cons dv_nk (dvs_cons dz2 dvs_nil), (by show 2 ≤ sizeLine; decide), fun z3 H5 s5 dz3' => ?_⟩
    have s45 := sametr s4 s5
    have l5 := s45 _ _ l3
    refine ⟨l, [z], z3, rfl, rfl, l5, (by show 1 < sizeLine; decide), ?_⟩
    have t6 : TX H5 (upd H5 l (.lst [z, z3])) := TX.lst l5
    exact ⟨.ref l, rfl, q l [z, z3] _ (same_upd (sametr s3 s45) hl) hl upd_same (dvs_cons ((dz3.tx (.same s45)).tx t6) (dvs_cons (dz3'.tx t6) dvs_nil))⟩
theorem sc_m_come_at : FnScope ["self", "stand", "place", "state", "other", "held", "pair"] ["self", "stand"] (defScope m_come_at) := ⟨rfl, rfl, rfl, by decide +kernel, rfl, by decide +kernel, by decide +kernel⟩
def sp_come_at (K : PySem.W.Frag) (C : Addr) : Sp := fun vs H Q _ => ∃ h c u, ∃ t : St4, vs = [.ref c, u] ∧ h.Ok ∧ CoAt K C H c h ∧ DV K H (sk t) u ∧ t.o < h.n ∧ (∀ k, t.held = some k → k < h.K) ∧ NewL K H ((comeAt h t).map sk) Q
theorem ok_come_at (T : Txt K mg C S tH tP) (F : FnP K "come_at" "Courier.come_at" m_come_at f fd) (gm_come_from : OkM P w K mg base C "come_from" 2 ["self", "pair"] (sp_come_from K C)) : FnOk P w K mg base CX0 3 f fd ["self", "stand"] (sp_come_at K C) := by
  refine F.ok sc_m_come_at (fun vs H Q E h => ?_) (fun cdv A outer s H vs Q E hr h => ⟨_, PSs.nox ((pss_cons (ps_asg (pv 1) (pg_tupK (n := 4) P w K ⟨rfl, rfl, rfl⟩ (by rfl) (pgs_cons (pg_name (i := 2) sc_m_come_at.nd rfl (.inr rfl)) (pgs_cons (pg_name (i := 3) sc_m_come_at.nd rfl (.inr rfl)) (pgs_cons (pg_name (i := 4) sc_m_come_at.nd rfl (.inl rfl)) (pgs_cons (pg_name (i := 5) sc_m_come_at.nd rfl (.inl rfl)) pgs_nil))))))
  (pss_one (ps_ret (pe_lc (own := [("pair", 6)]) (by rfl) sc_m_come_at.nd (pi_LDK P w K ⟨rfl, rfl, rfl⟩ (pe_methO (pv 0) T.cl gm_come_from (hr.mono (by decide)) (pa_cons (pe_tupDK P w K ⟨rfl, rfl, rfl⟩ (pa_cons (pv 4) (pa_cons (pv 5) pa_nil))) pa_nil))) (blkOk_by (own := [("pair", 6)]) (N := ["self", "stand", "place", "state", "other", "held", "pair"]) (sc := defScope m_come_at) (by decide +kernel)) (fun _ _ _ _ _ => (pg_name (i := 6) sc_m_come_at.nd rfl (Or.inl rfl))) (fun _ _ _ _ _ => pts_nil) (fun _ _ _ _ _ => (pe_tupDK P w K ⟨rfl, rfl, rfl⟩ (pa_cons (pv 2) (pa_cons (pv 3) (pa_starK P w K ⟨rfl, rfl, rfl⟩ (pv 6) pa_nil)))))))))), ?_⟩)
  · obtain ⟨h, c, u, t, rfl, _⟩ := h
    rfl
  obtain ⟨h, c, u, t, rfl, o, A, du, ho, hk0, q⟩ := h
  have small : 200 < sizeLine := by decide
  obtain ⟨a, v1, v2, v3, v4, rfl, sq, d1, d2, d3, d4⟩ := of_tup4 du
  obtain ⟨dx, hv, he, c1, c2, c3⟩ := A.ex
  have no1 : (cflds hv he).lookup ("come_from" : Str) = none := cf_no _ _ (by decide +kernel) (by decide +kernel) (by decide +kernel) (by decide +kernel)
  refine ⟨.ref a, rfl, a, _, rfl, sq, rfl, v1, _, rfl, v2, _, rfl, v3, _, rfl, v4, _, rfl, rfl, ?_⟩
  refine ⟨.ref c, rfl, c, dx, _, rfl, c1, no1, v3, rfl, v4, rfl, [nk t.o, lk t.held.toList], dvs_cons d3 (dvs_cons d4 dvs_nil), (by show 2 ≤ sizeLine; decide), fun z H1 s1 dz => ⟨h, c, z, (t.o, t.held), rfl, o, A.on s1, dz, ⟨ho, hk0⟩, fun p us H2 s2 p0 p1 ds => ⟨p, us, _, rfl, SqL.of p1, ds, fun J wk D hD => ?_⟩⟩⟩
  have cl := comeP_len h (t.o, t.held)
  refine lc_dat (K := K) wk (fun i => some ((fun q : Pr => sk ⟨t.pl, t.s, q.1, q.2⟩) ((comeP h (t.o, t.held)).getD i (0, none)))) hD (by rw [List.length_map]; omega) (fun H' s => ⟨s.seq (SqL.of p1), .same s⟩) (fun i x H3 H4 Nx hi s3 y no yes => ?_) (fun H3 us3 s3 hD3 ds3 => ?_)
  · obtain ⟨rfl, k, ek, dk⟩ := y
    obtain ⟨hi', ek⟩ := map_get (0, none) ek
    subst ek
    obtain ⟨a2, w1, w2, rfl, sq2, e1, e2⟩ := of_tup2 dk
    have sA := sametr s1 (sametr s2 s3)
    exact ⟨rfl, v1, rfl, v2, rfl, .ref a2, rfl, a2, _, rfl, .inl sq2, _, dvs_cons (d1.tx (.same sA)) (dvs_cons (d2.tx (.same sA)) (dvs_cons e1 (dvs_cons e2 dvs_nil))), (by show 4 ≤ sizeLine; decide), fun z2 H5 s5 dz2 => yes _ _ _ rfl s5 dz2⟩
  · refine q D us3 H3 (sametr s1 (sametr s2 s3)) ((sametr s1 s2).free hD) hD3 ?_
    rw [List.length_map, range_map_get (l := comeP h (t.o, t.held)) (g := fun q : Pr => sk ⟨t.pl, t.s, q.1, q.2⟩) (0, none) rfl] at ds3
    unfold comeAt
    rw [List.map_map]
    exact ds3
theorem sc_m_sent_from : FnScope ["self", "plan", "stand", "place", "state", "other", "held", "found", "index", "goal", "ahead", "pair"] ["self", "plan", "stand"] (defScope m_sent_from) := ⟨rfl, rfl, rfl, by decide +kernel, rfl, by decide +kernel, by decide +kernel⟩
def sp_sent_from (K : PySem.W.Frag) (C : Addr) : Sp := fun vs H Q _ => ∃ h p c pv u, ∃ t : St4, vs = [.ref c, pv, u] ∧ h.Ok ∧ p.Ok h.K ∧ CoAt K C H c h ∧ DV K H (plk p) pv ∧ DV K H (sk t) u ∧ StOk h p t ∧ NewL K H ((sentFrom h p t).map ek) Q
theorem ok_sent_from (T : Txt K mg C S tH tP) (F : FnP K "sent_from" "Courier.sent_from" m_sent_from f fd) (gm_send_from : OkM P w K mg base C "send_from" 2 ["self", "pair", "index"] (sp_send_from K C)) (gm_led : OkM P w K mg base C "led" 1 ["self", "state", "index"] (sp_led K C)) :
    FnOk P w K mg base CX0 3 f fd ["self", "plan", "stand"] (sp_sent_from K C) := by
  refine F.ok sc_m_sent_from (fun vs H Q E h => ?_) (fun cdv A outer s H vs Q E hr h => ⟨_, PSs.nox ((pss_cons (ps_asg (pv 2) (pg_tupK (n := 4) P w K ⟨rfl, rfl, rfl⟩ (by rfl) (pgs_cons (pg_name (i := 3) sc_m_sent_from.nd rfl (.inl rfl)) (pgs_cons (pg_name (i := 4) sc_m_sent_from.nd rfl (.inl rfl)) (pgs_cons (pg_name (i := 5) sc_m_sent_from.nd rfl (.inl rfl)) (pgs_cons (pg_name (i := 6) sc_m_sent_from.nd rfl (.inl rfl)) pgs_nil))))))
  (pss_cons (ps_set (i := 7) sc_m_sent_from.nd rfl (.inl rfl) (pe_lst pa_nil))
  (pss_cons (ps_for PassesOwn.never rfl (pi_ED P w K ⟨rfl, rfl, rfl⟩ (by rfl) T.z_enumerate (pa_cons (pe_ix (ix_datK P w K ⟨rfl, rfl, rfl⟩) (pe_ix (ix_datK P w K ⟨rfl, rfl, rfl⟩) (pv 1) pe_int (fun _ _ => rfl)) (pv 3) (fun _ _ => rfl)) pa_nil)) (pg_tupK (n := 2) P w K ⟨rfl, rfl, rfl⟩ (by rfl) (pgs_cons (pg_name (i := 8) sc_m_sent_from.nd rfl (.inr rfl)) (pgs_cons (pg_name (i := 9) sc_m_sent_from.nd rfl (.inl rfl)) pgs_nil)))
    (pss_one (ps_if (pt_cmpR op_notN (pv 9) pe_non (nomark _)) (pss_cons (ps_set (i := 10) sc_m_sent_from.nd rfl (.inr rfl) (pe_tupDK P w K ⟨rfl, rfl, rfl⟩ (pa_cons (pv 9) (pa_cons (pe_methO (pv 0) T.cl gm_led (hr.mono (by decide)) (pa_cons (pv 4) (pa_cons (pv 8) pa_nil))) pa_nil))))
  (pss_one (ps_expr (pe_bmK P w K ⟨rfl, rfl, rfl⟩ PySem.F.plainAttrs_list PySem.F.slot_list_extend PySem.F.type_list_extend mt_extS (pv 7) (pa_cons (pe_lc (own := [("pair", 11)]) (by rfl) sc_m_sent_from.nd (pi_LDK P w K ⟨rfl, rfl, rfl⟩ (pe_methO (pv 0) T.cl gm_send_from (hr.mono (by decide)) (pa_cons (pe_tupDK P w K ⟨rfl, rfl, rfl⟩ (pa_cons (pv 5) (pa_cons (pv 6) pa_nil))) (pa_cons (pv 8) pa_nil)))) (blkOk_by (own := [("pair", 11)]) (N := ["self", "plan", "stand", "place", "state", "other", "held", "found", "index", "goal", "ahead", "pair"]) (sc := defScope m_sent_from) (by decide +kernel)) (fun _ _ _ _ _ => (pg_name (i := 11) sc_m_sent_from.nd rfl (Or.inl rfl))) (fun _ _ _ _ _ => pts_nil) (fun _ _ _ _ _ => (pe_tupDK P w K ⟨rfl, rfl, rfl⟩ (pa_cons (pv 8) (pa_cons (pe_tupDK P w K ⟨rfl, rfl, rfl⟩ (pa_starK P w K ⟨rfl, rfl, rfl⟩ (pv 10) (pa_starK P w K ⟨rfl, rfl, rfl⟩ (pv 11) pa_nil))) pa_nil))))) pa_nil))))) pss_nil)))
  (pss_one (ps_ret (pv 7))))))), ?_⟩)
  · obtain ⟨h, p, c, pv, u, t, rfl, _⟩ := h
    rfl
  obtain ⟨h, p, c, pv, u, t, rfl, o, po, A, dp, du, ⟨tp, ts, to, tk⟩, q⟩ := h
  have small : 200 < sizeLine := by decide
  have k6 := o.k6
  obtain ⟨a, v1, v2, v3, v4, rfl, sq, d1, d2, d3, d4⟩ := of_tup4 du
  have e1 := of_num d1
  have e2 := of_num d2
  have e3 := of_num d3
  subst e1 e2 e3
  have hrow : p.rows.getD t.pl [] ∈ p.rows := by rw [getD_lt tp]; exact List.getElem_mem _
  have rowl := (po.row _ hrow).1
  refine ⟨.ref a, rfl, a, _, rfl, sq, rfl, iv t.pl, _, rfl, iv t.s, _, rfl, iv t.o, _, rfl, v4, _, rfl, rfl, Nat.zero_le _, fun l hl => ?_⟩
  have s1 : Same H (upd H l (.lst [])) := same_new hl
  refine ⟨pv, rfl, _, 1, _, dp.tx (.same s1), rfl, rfl, fun rv drv => ⟨iv t.pl, rfl, _, t.pl, _, drv, rfl, (by rw [List.getElem?_map, List.getElem?_eq_getElem tp, getD_lt tp]; rfl : (p.rows.map fun r => NestedKey.tup (r.map ok1))[t.pl]? = some (.tup ((p.rows.getD t.pl []).map ok1))), fun rw' drw => ⟨rw', _, rfl, drw, fun J wk => ?_⟩⟩⟩
  refine for_it wk (fun i σ H' => Same H H' ∧ TX (upd H l (.lst [])) H' ∧ (∃ vs, H' l = some (.lst vs) ∧ DVs K H' (((List.range i).flatMap (sentAt h p t)).map ek) vs) ∧ ∃ y8 y9 y10 y11, σ = [some (.ref c), some pv, some (.ref a), some (iv t.pl), some (iv t.s), some (iv t.o), some v4, some (.ref l), y8, y9, y10, y11])
    ⟨s1, .refl _, ⟨[], upd_same, dvs_nil⟩, _, _, _, _, rfl⟩ (fun i σ H' _ pv => pv.2.1) (fun i x σ H2 H3 hi pv y => ?_) (fun σ H2 pv => ?_)
  · obtain ⟨s2, t2, ⟨vs, l2, ds2⟩, y8, y9, y10, y11, rfl⟩ := pv
    obtain ⟨s3, k, ek', dx⟩ := y
    obtain ⟨hi', ek'⟩ := map_get none ek'
    subst ek'
    have hiK : i < h.K := by omega
    obtain ⟨a3, w1, w2, rfl, sq3, dw1, dw2⟩ := of_tup2 dx
    have e1 := of_num dw1
    subst e1
    have s23 := sametr s2 s3
    have l3 := s3 _ _ l2
    refine ⟨a3, _, rfl, sq3, rfl, iv i, _, rfl, w2, _, rfl, rfl, w2, rfl, rfl, _, rfl, ?_⟩
    have erow : p.goal t.pl i = (p.rows.getD t.pl []).getD i none := rfl
    have eflat : (List.range (i + 1)).flatMap (sentAt h p t) = (List.range i).flatMap (sentAt h p t) ++ sentAt h p t i := by
      rw [List.range_succ, List.flatMap_append]
      simp
    rw [eflat]
    cases eg : (p.rows.getD t.pl []).getD i none with
    | none =>
      rw [eg] at dw2 erow
      rw [of_non dw2]
      have e0 : sentAt h p t i = [] := by unfold sentAt; rw [erow]
      rw [e0, List.append_nil]
      exact ⟨s23, t2.trans (.same s3), ⟨vs, l3, ds2.tx (.same s3)⟩, _, _, _, _, rfl⟩
    | some g =>
      rw [eg] at dw2 erow
      have ew := of_num dw2
      subst ew
      have e0 : sentAt h p t i = (sendP h (t.o, t.held) i).map fun q => (i, ⟨g, h.step i t.s, q.1, q.2⟩) := by unfold sentAt; rw [erow]
      rw [e0]
      have A3 := A.on s23
      obtain ⟨dx3, hv3, he3, c1, c2, c3⟩ := A3.ex
      have no1 : (cflds hv3 he3).lookup ("led" : Str) = none := cf_no _ _ (by decide +kernel) (by decide +kernel) (by decide +kernel) (by decide +kernel)
      refine ⟨iv g, rfl, .ref c, rfl, c, dx3, _, rfl, c1, no1, iv t.s, rfl, iv i, rfl, h, c, t.s, i, rfl, o, A3, ts, hiK, [nk g, nk (h.step i t.s)], dvs_cons dv_nk (dvs_cons dv_nk dvs_nil), (by show 2 ≤ sizeLine; decide), fun ah H4 s4 dah => ?_⟩
      have l4 := s4 _ _ l3
      have A4 := A3.on s4
      obtain ⟨dx4, hv4, he4, c4, c5, c6⟩ := A4.ex
      have no2 : (cflds hv4 he4).lookup ("send_from" : Str) = none := cf_no _ _ (by decide +kernel) (by decide +kernel) (by decide +kernel) (by decide +kernel)
      refine ⟨.ref l, rfl, .inl ⟨rfl, _, SqL.of l4⟩, .ref c, rfl, c, dx4, _, rfl, c4, no2, iv t.o, rfl, v4, rfl, [nk t.o, lk t.held.toList], dvs_cons dv_nk (dvs_cons (d4.tx (.same (sametr s23 s4))) dvs_nil), (by show 2 ≤ sizeLine; decide), fun pr H5 s5 dpr => ?_⟩
      refine ⟨iv i, rfl, h, c, pr, i, (t.o, t.held), rfl, o, A4.on s5, dpr, ⟨to, tk⟩, hiK, fun pp us H6 s6 p0 p1 ds6 => ⟨pp, us, _, rfl, SqL.of p1, ds6, fun J2 wk2 D hD => ?_⟩⟩
      have sl := sendP_len h (t.o, t.held) i
      refine lc_dat (K := K) wk2 (fun j => some ((fun q : Pr => ek (i, ⟨g, h.step i t.s, q.1, q.2⟩)) ((sendP h (t.o, t.held) i).getD j (0, none)))) hD (by rw [List.length_map]; omega) (fun H' s => ⟨s.seq (SqL.of p1), .same s⟩) (fun j x H7 H8 Nx hj s7 y no yes => ?_) (fun H7 us7 s7 hD7 ds7 => ?_)
      · obtain ⟨rfl, k, ek', dk⟩ := y
        obtain ⟨hj', ek'⟩ := map_get (0, none) ek'
        subst ek'
        obtain ⟨a5, z1, z2, rfl, sq5, f1, f2⟩ := of_tup2 dk
        have sB := sametr s5 (sametr s6 s7)
        obtain ⟨a6, z3, z4, rfl, sq6, f3, f4⟩ := of_tup2 (dah.tx (.same sB))
        exact ⟨rfl, iv i, rfl, .ref a6, rfl, a6, _, rfl, .inl sq6, .ref a5, rfl, a5, _, rfl, .inl sq5, _, dvs_cons f3 (dvs_cons f4 (dvs_cons f1 (dvs_cons f2 dvs_nil))), (by show 4 ≤ sizeLine; decide), fun st H9 s9 dst =>
          ⟨_, dvs_cons dv_nk (dvs_cons dst dvs_nil), (by show 2 ≤ sizeLine; decide), fun z H10 s10 dz => yes _ _ _ rfl (sametr s9 s10) dz⟩⟩
      · have s47 := sametr s5 (sametr s6 s7)
        have l7 := s47 _ _ l4
        have ds8 : DVs K H7 (((sendP h (t.o, t.held) i).map fun q => ((i, ⟨g, h.step i t.s, q.1, q.2⟩) : Nat × St4)).map ek) us7 := by
          rw [List.length_map, range_map_get (l := sendP h (t.o, t.held) i) (g := fun q : Pr => ek (i, ⟨g, h.step i t.s, q.1, q.2⟩)) (0, none) rfl] at ds7
          rw [List.map_map]
          exact ds7
        have fl := flat_len (f := sentAt h p t) (m := 2) (List.range i) fun x _ => sentAt_len h p t x
        rw [List.length_range] at fl
        refine ⟨l, D, vs, us7, rfl, rfl, l7, .inl hD7, ?_, ?_⟩
        · rw [ds2.length, ds8.length, List.length_map, List.length_map, List.length_map]
          omega
        have t8 : TX H7 (upd H7 l (.lst (vs ++ us7))) := TX.lst l7
        have s37 := sametr s3 (sametr s4 s47)
        refine ⟨same_upd (sametr s2 s37) hl, (t2.trans (.same s37)).trans t8, ⟨_, upd_same, ?_⟩, _, _, _, _, rfl⟩
        rw [List.map_append]
        exact ((ds2.tx (.same s37)).append ds8).tx t8
  · obtain ⟨s2, t2, ⟨vs, l2, ds2⟩, y8, y9, y10, y11, rfl⟩ := pv
    refine ⟨.ref l, rfl, q l vs H2 s2 hl l2 ?_⟩
    rw [List.length_map, rowl] at ds2
    exact ds2
end
end K14

/-! W16: dicts as sets; closed. -/
namespace K14
open PySem PySem.Spec PyProof.Rows L2
theorem DVs.snoc_inv {K : PySem.W.Frag} {H : Hp} {ks : List NestedKey} {k : NestedKey} {us : List V} (h : DVs K H (ks ++ [k]) us) : ∃ us' v, us = us' ++ [v] ∧ DVs K H ks us' ∧ DV K H k v := by
  induction ks generalizing us with
  | nil =>
    obtain ⟨v, r, e, d, ds⟩ := of_cons h
    rw [of_nil ds] at e
    exact ⟨[], v, e, dvs_nil, d⟩
  | cons j ks ih =>
    obtain ⟨v, r, e, d, ds⟩ := of_cons h
    obtain ⟨us', u, e2, ds2, d2⟩ := ih ds
    exact ⟨v :: us', u, by rw [e, e2]; rfl, dvs_cons d ds2, d2⟩
theorem pop_get {α : Type} (xs : List α) (x : α) : (xs ++ [x])[(xs ++ [x]).length - 1]? = some x := by simp
theorem pop_drop {α : Type} (xs : List α) (x : α) : (xs ++ [x]).dropLast = xs := by simp
theorem last_of {α : Type} {xs : List α} (h : xs ≠ []) : ∃ ys y, xs = ys ++ [y] := ⟨xs.dropLast, xs.getLast h, (List.dropLast_concat_getLast h).symm⟩
section
variable {α : Type} [DecidableEq α]
def flK (g : α → NestedKey) (qs : List α) : List (NestedKey × V) := qs.map fun q => (g q, V.bl true)
theorem flK_get {g : α → NestedKey} (gi : ∀ a b, g a = g b → a = b) (qs : List α) (q : α) : (valV (flK g qs) (g q)).isSome = decide (q ∈ qs) := by
  induction qs with
  | nil => rfl
  | cons x qs ih =>
    unfold flK at ih ⊢
    rw [List.map_cons]
    by_cases e : x = q
    · rw [valV_pos (p := (g x, V.bl true)) (by rw [e])]
      simp [e]
    · rw [valV_neg (p := (g x, V.bl true)) (fun z => e (gi _ _ z)), ih]
      simp [show ¬ q = x from fun z => e z.symm]
theorem flK_in {g : α → NestedKey} (gi : ∀ a b, g a = g b → a = b) {qs : List α} {q : α} (h : q ∈ qs) : (valV (flK g qs) (g q)).isSome = true := by rw [flK_get gi, decide_eq_true h]
theorem flK_out {g : α → NestedKey} (gi : ∀ a b, g a = g b → a = b) {qs : List α} {q : α} (h : q ∉ qs) : (valV (flK g qs) (g q)).isSome = false := by rw [flK_get gi, decide_eq_false h]
theorem flK_put {g : α → NestedKey} (gi : ∀ a b, g a = g b → a = b) {qs : List α} {q : α} (h : q ∉ qs) : putK (flK g qs) (g q) (V.bl true) = flK g (qs ++ [q]) := by
  have z := flK_get gi qs q
  rw [decide_eq_false h] at z
  have z2 : valV (flK g qs) (g q) = none := by simpa using z
  rw [putK_new _ z2]
  unfold flK
  rw [List.map_append]
  rfl
theorem flK_keys (g : α → NestedKey) (qs : List α) : (flK g qs).map (·.1) = qs.map g := by
  unfold flK
  rw [List.map_map]
  rfl
end
/-- list(d) of a dict with nested keys -/
theorem nlist_rd {P : Program} {w : World} {K : PySem.W.Frag} {H : Hp} {d : Addr} {kvs : List (NestedKey × V)} {Q : VK} (n : NDr P w K H d kvs) (q : ∀ p us H', Same H H' → H p = none → H' p = some (.lst us) → DVs K H' (kvs.map (·.1)) us → Q (.ref p) H') : rNList P w [.ref d] H Q := by
  obtain ⟨xs, hr, e, kk⟩ := n
  refine ⟨d, xs, rfl, hr, fun p hp => q p _ _ (same_new hp) hp upd_same ?_⟩
  have key : ∀ l : List Ent, (∀ x ∈ l, DV K H x.1 (.ref x.2.1)) → DVs K H ((kvOf l).map (·.1)) (l.map fun x => V.ref x.2.1) := by
    intro l
    induction l with
    | nil => intro _; exact dvs_nil
    | cons x l ih =>
      intro hl
      exact dvs_cons (hl x List.mem_cons_self) (ih fun y hy => hl y (List.mem_cons_of_mem _ hy))
  rw [e]
  exact (key xs fun x hx => (kk x hx).1).tx (.new hp)
theorem lkO_inj {a b : Option Nat} (e : lk a.toList = lk b.toList) : a = b := by
  have := lk_inj e
  cases a <;> cases b <;> simp_all
theorem pk_inj : ∀ a b : Pr, pk a = pk b → a = b := fun a b e => by
  unfold pk at e
  injection e with e
  injection e with e1 e2
  injection e2 with e2 _
  exact Prod.ext (nk_inj e1) (lkO_inj e2)
theorem depthL (ks : List NestedKey) (m : Nat) (h : ∀ k ∈ ks, k.depth ≤ m) : (NestedKey.tup ks).depth ≤ m + 1 := by
  show NestedKey.depthAll ks + 1 ≤ m + 1
  have := depthAll_le h
  omega
theorem nk_depth (n : Nat) : (nk n).depth = 0 := by simp [nk, NestedKey.depth]
theorem pk_depth (q : Pr) : (pk q).depth ≤ 8 := by
  refine Nat.le_trans (depthL _ 1 fun k hk => ?_) (by omega)
  rcases List.mem_cons.mp hk with e | hk
  · rw [e, nk_depth]; omega
  · rw [List.mem_singleton.mp hk, lk_depth]; omega
def univP (h : Hd) : List Pr := (List.range h.n).flatMap fun o => (none :: (List.range h.K).map some).map fun x => (o, x)
theorem mem_univP {h : Hd} {q : Pr} (g : PrOk h q) : q ∈ univP h := by
  obtain ⟨o, x⟩ := q
  unfold univP
  refine List.mem_flatMap.mpr ⟨o, List.mem_range.mpr g.1, List.mem_map.mpr ⟨x, ?_, rfl⟩⟩
  cases x with
  | none => exact List.mem_cons_self
  | some k => exact List.mem_cons_of_mem _ (List.mem_map.mpr ⟨k, List.mem_range.mpr (g.2 k rfl), rfl⟩)
theorem univP_len {h : Hd} (o : h.Ok) : (univP h).length ≤ 56 := by
  have n8 := o.n8
  have k6 := o.k6
  have h1 := flat_len (f := fun o => (none :: (List.range h.K).map some).map fun x => ((o, x) : Pr)) (m := h.K + 1) (List.range h.n) fun x _ => by simp
  rw [List.length_range] at h1
  have h2 : h.n * (h.K + 1) ≤ 8 * 7 := Nat.mul_le_mul n8 (by omega)
  exact Nat.le_trans h1 h2
theorem comeP_ok {h : Hd} (o : h.Ok) {q q' : Pr} (g : PrOk h q) (e : q' ∈ comeP h q) : PrOk h q' := by
  obtain ⟨k, e1, rfl⟩ := comeP_one e
  exact ⟨h.step_lt o k _, fun k e => by cases e⟩
theorem sendP_ok {h : Hd} (o : h.Ok) {q q' : Pr} {k : Nat} (hk : k < h.K) (g : PrOk h q) (e : q' ∈ sendP h q k) : PrOk h q' := by
  rcases sendP_one e with rfl | ⟨_, rfl⟩
  · exact ⟨h.step_lt o k _, g.2⟩
  · exact ⟨g.1, fun j e => by cases e; exact hk⟩
section
variable {P : Program} {w : World} {K : PySem.W.Frag} {mg : Str → Option Value} {base : Heap} {C S : Addr} {tH tP : Tok} {f : Addr} {fd : FuncData}
/-- a set of data at d, a pile of data at l -/
structure PileAt (P : Program) (w : World) (K : PySem.W.Frag) (H H' : Hp) (d l : Addr) (kvs : List (NestedKey × V)) (ws : List NestedKey) : Prop where
  same : Same H H'
  d0 : H d = none
  l0 : H l = none
  ne : d ≠ l
  dd : ND P w K H' d kvs
  ll : ∃ us, H' l = some (.lst us) ∧ DVs K H' ws us
theorem PileAt.on {H H' H2 : Hp} {d l : Addr} {kvs : List (NestedKey × V)} {ws : List NestedKey} (A : PileAt P w K H H' d l kvs ws) (s : Same H' H2) : PileAt P w K H H2 d l kvs ws := by
  obtain ⟨us, h3, h4⟩ := A.ll
  exact ⟨sametr A.same s, A.d0, A.l0, A.ne, A.dd.same s, ⟨us, s _ _ h3, h4.tx (.same s)⟩⟩
theorem sc_m_closed : FnScope ["self", "pairs", "found", "waiting", "pair"] ["self", "pairs"] (defScope m_closed) := ⟨rfl, rfl, rfl, by decide +kernel, rfl, by decide +kernel, by decide +kernel⟩
def sp_closed (K : PySem.W.Frag) (C : Addr) : Sp := fun vs H Q _ => ∃ h c a us, ∃ ps : List Pr, vs = [.ref c, .ref a] ∧ h.Ok ∧ CoAt K C H c h ∧ SqL K H a us ∧ DVs K H (ps.map pk) us ∧ (∀ q ∈ ps, PrOk h q) ∧ ps.length ≤ 1000 ∧
  ∀ qs : List Pr, qs.Nodup → (∀ q, q ∈ qs ↔ Clo (fun x => x ∈ ps) (fun _ => True) (comeP h) q) → NewL K H (qs.map pk) Q
theorem ok_closed (T : Txt K mg C S tH tP) (F : FnP K "closed" "Courier.closed" m_closed f fd) (gm_come_from : OkM P w K mg base C "come_from" 2 ["self", "pair"] (sp_come_from K C)) : FnOk P w K mg base CX0 3 f fd ["self", "pairs"] (sp_closed K C) := by
  refine F.ok sc_m_closed (fun vs H Q E h => ?_) (fun cdv A outer s H vs Q E hr h => ⟨_, PSs.nox ((pss_cons (ps_set (i := 2) sc_m_closed.nd rfl (.inl rfl) (pe_nnewK P w K ⟨rfl, rfl, rfl⟩))
  (pss_cons (ps_set (i := 3) sc_m_closed.nd rfl (.inl rfl) (pe_callTy (cr_listOfK P w K ⟨rfl, rfl, rfl⟩) (by rfl) T.z_list (by decide +kernel) (pa_cons (pv 1) pa_nil)))
  (pss_cons (ps_while PassesOwn.never (pt_cmpR (op_nenilK P w K ⟨rfl, rfl, rfl⟩ hr) (pv 3) (pe_lst pa_nil) (nomark _))
    (pss_cons (ps_set (i := 4) sc_m_closed.nd rfl (.inl rfl) (pe_bm0K P w K ⟨rfl, rfl, rfl⟩ PySem.F.plainAttrs_list PySem.F.slot_list_pop PySem.F.type_list_pop mt_pop (pv 3)))
  (pss_one (ps_if (pt_cmpR (op_nnotinK P w K ⟨rfl, rfl, rfl⟩ hr) (pv 4) (pv 2) rfl) (pss_cons (ps_asg pe_bl (pg_sub (pv 2) (pv 4) (set_ndK P w K ⟨rfl, rfl, rfl⟩ hr)))
  (pss_one (ps_expr (pe_bmK P w K ⟨rfl, rfl, rfl⟩ PySem.F.plainAttrs_list PySem.F.slot_list_extend PySem.F.type_list_extend mt_extS (pv 3) (pa_cons (pe_methO (pv 0) T.cl gm_come_from (hr.mono (by decide)) (pa_cons (pv 4) pa_nil)) pa_nil))))) pss_nil))))
  (pss_one (ps_ret (pe_callTy (cr_nlistK P w K ⟨rfl, rfl, rfl⟩ rfl) (by rfl) T.z_list (by decide +kernel) (pa_cons (pv 2) pa_nil)))))))), ?_⟩)
  · obtain ⟨h, c, a, us, ps, rfl, _⟩ := h
    rfl
  obtain ⟨h, c, a, us, ps, rfl, o, A, sq, ds, pok, pl, q⟩ := h
  have small : 2000 < sizeLine := by decide
  have ul := univP_len o
  intro d H1 hd ho1 s1 nd1
  refine ⟨.ref a, rfl, a, us, rfl, .inl (s1.seq sq), fun l hl => ?_⟩
  have dl : d ≠ l := by
    obtain ⟨xs, hx, _⟩ := nd1
    exact ne_of_none hx hl
  have l0 : H l = none := s1.free hl
  have s2 : Same H (upd H1 l (.lst us)) := same_upd s1 l0
  have t2 : TX H1 (upd H1 l (.lst us)) := TX.new hl
  refine while_ne (fun m σ H' => ∃ (keys waiting : List Pr) (y4 : Option V), m = 2 * ((univP h).length - keys.length) + waiting.length ∧ PileAt P w K H H' d l (flK pk keys) (waiting.map pk) ∧ DI (fun x => x ∈ ps) (fun _ => True) (comeP h) keys waiting ∧ (∀ q ∈ keys, PrOk h q) ∧ (∀ q ∈ waiting, PrOk h q) ∧
      2 * ((univP h).length - keys.length) + waiting.length ≤ 1200 ∧ σ = [some (.ref c), some (.ref a), some (.ref d), some (.ref l), y4])
    ⟨_, [], ps, none, rfl, ⟨s2, hd, l0, dl, nd1.upd dl t2, ⟨us, upd_same, (ds.tx (.same s1)).tx t2⟩⟩, DI.start fun x => Iff.rfl, (fun q hq => by cases hq), pok, (by simp only [List.length_nil]; omega), rfl⟩ ?_
  rintro m σ H2 ⟨keys, waiting, y4, rfl, B, D, ko, wo, bound, rfl⟩
  obtain ⟨us2, l2, ds2⟩ := B.ll
  refine ⟨l, us2, rfl, SqL.of l2, fun H3 s3 => ⟨fun e => ?_, fun e N hN => ?_⟩⟩
  · have e' : waiting = [] := by
      have z := ds2.length
      rw [e, List.length_map] at z
      exact List.length_eq_zero_iff.mp z.symm
    subst e'
    have B3 := B.on s3
    refine ⟨.ref d, rfl, nlist_rd B3.dd.r fun p us4 H4 s4 p0 p1 ds4 => q keys D.nd D.done p us4 H4 (sametr B3.same s4) (B3.same.free p0) p1 ?_⟩
    rw [flK_keys] at ds4
    exact ds4
  have wne : waiting ≠ [] := fun z => e (by rw [z] at ds2; exact of_nil ds2)
  obtain ⟨ws, x, rfl⟩ := last_of wne
  have B3 := B.on s3
  obtain ⟨us3, l3, ds3⟩ := B3.ll
  rw [List.map_append] at ds3
  obtain ⟨us4, v, rfl, ds4, dv⟩ := DVs.snoc_inv ds3
  have px : PrOk h x := wo x (by simp)
  refine ⟨.ref l, rfl, .inl ⟨rfl, _, SqL.of l3⟩, l, _, v, rfl, rfl, l3, pop_get _ _, ?_⟩
  rw [pop_drop]
  have t5 : TX H3 (upd H3 l (.lst us4)) := TX.lst l3
  have B5 : PileAt P w K H (upd H3 l (.lst us4)) d l (flK pk keys) (ws.map pk) := ⟨same_upd B3.same B.l0, hd, l0, dl, B3.dd.upd dl t5, ⟨us4, upd_same, ds4.tx t5⟩⟩
  have dv5 := dv.tx t5
  have l5 : (upd H3 l (.lst us4)) l = some (.lst us4) := upd_same
  generalize upd H3 l (.lst us4) = H5 at t5 B5 dv5 l5
  refine ⟨v, rfl, .ref d, rfl, d, _, rfl, nget_of B5.dd.r dv5 (pk_depth x), _, rfl, ?_⟩
  rw [show valV (flK pk keys) (NestedKey.tup [nk x.1, lk x.2.toList]) = valV (flK pk keys) (pk x) from rfl]
  rw [List.length_append] at bound
  simp only [List.length_cons, List.length_nil] at bound
  by_cases m : x ∈ keys
  · rw [flK_in pk_inj m]
    refine iteF (hN _ _ _ ?_ ⟨keys, ws, some v, rfl, B5, D.skip (.inl m), ko, fun q hq => wo q (List.mem_append_left _ hq), by omega, rfl⟩)
    rw [List.length_append]
    simp only [List.length_cons, List.length_nil]
    omega
  · rw [flK_out pk_inj m]
    have kn : (keys ++ [x]).length ≤ (univP h).length := nodup_len (List.nodup_append.mpr ⟨D.nd, by simp, fun a ha b hb e => m (by rw [List.mem_singleton.mp hb] at e; rw [← e]; exact ha)⟩) fun q hq => by
      rcases List.mem_append.mp hq with hq | hq
      · exact mem_univP (ko q hq)
      · rw [List.mem_singleton.mp hq]; exact mem_univP px
    rw [List.length_append] at kn
    simp only [List.length_cons, List.length_nil] at kn
    refine iteT ⟨.ref d, rfl, v, rfl, d, _, _, rfl, B5.dd, dv5, pk_depth x, ?_, fun H6 ho6 t6 nd6 => ?_⟩
    · rw [show (flK pk keys).length = keys.length from List.length_map _]
      omega
    have l6 : H6 l = some (.lst us4) ∧ DVs K H6 (ws.map pk) us4 := by
      have e1 := ds4.tx t5
      refine ⟨?_, e1.tx t6⟩
      rw [ho6 l dl.symm]
      exact l5
    obtain ⟨l6, ds6⟩ := l6
    have s6 : Same H H6 := fun c' o' z => by
      have ne : c' ≠ d := fun e => by rw [e, hd] at z; cases z
      rw [ho6 c' ne]
      exact B5.same _ _ z
    have A6 := A.on s6
    obtain ⟨dx6, hv6, he6, c1, c2, c3⟩ := A6.ex
    have no1 : (cflds hv6 he6).lookup ("come_from" : Str) = none := cf_no _ _ (by decide +kernel) (by decide +kernel) (by decide +kernel) (by decide +kernel)
    refine ⟨.ref l, rfl, .inl ⟨rfl, _, SqL.of l6⟩, .ref c, rfl, c, dx6, _, rfl, c1, no1, v, rfl, h, c, v, x, rfl, o, A6, dv5.tx t6, px, fun p us7 H7 s7 p0 p1 ds7 => ?_⟩
    have l7 := s7 _ _ l6
    have cl := comeP_len h x
    refine ⟨l, p, us4, us7, rfl, rfl, l7, .inl p1, ?_, ?_⟩
    · rw [ds6.length, ds7.length, List.length_map, List.length_map]
      omega
    have t8 : TX H7 (upd H7 l (.lst (us4 ++ us7))) := TX.lst l7
    refine hN _ _ _ ?_ ⟨keys ++ [x], ws ++ comeP h x, some v, rfl, ⟨same_upd (sametr s6 s7) B.l0, hd, B.l0, dl, ?_, ⟨_, upd_same, ?_⟩⟩, D.take m trivial fun y => Iff.rfl, fun q hq => ?_, fun q hq => ?_, ?_, rfl⟩
    · simp only [List.length_append, List.length_cons, List.length_nil]
      omega
    · have z := (nd6.same s7).upd dl t8
      rw [show NestedKey.tup [nk x.1, lk x.2.toList] = pk x from rfl, flK_put pk_inj m] at z
      exact z
    · rw [List.map_append]
      exact ((ds6.tx (.same s7)).append ds7).tx t8
    · rcases List.mem_append.mp hq with hq | hq
      · exact ko q hq
      · rw [List.mem_singleton.mp hq]; exact px
    · rcases List.mem_append.mp hq with hq | hq
      · exact wo q (List.mem_append_left _ hq)
      · exact comeP_ok o px hq
    · simp only [List.length_append, List.length_cons, List.length_nil]
      omega
end
end K14

/-! W17: dicts of lists; all_moves. -/
namespace K14
open PySem PySem.Spec PyProof.Rows L2
/-- a locked list of data -/
def LVal (K : PySem.W.Frag) (H : Hp) (ks : List NestedKey) (v : V) : Prop := ∃ b o us, v = .ref b ∧ H b = some (.frz o (.lst us)) ∧ DVs K H ks us
theorem LVal.tx {K : PySem.W.Frag} {H H' : Hp} {ks : List NestedKey} {v : V} (h : LVal K H ks v) (t : TX H H') : LVal K H' ks v := by
  obtain ⟨b, o, us, e, h1, h2⟩ := h
  exact ⟨b, o, us, e, t.frz _ _ _ h1, h2.tx t⟩
section
variable {α : Type} [DecidableEq α]
/-- entries with lists: the keys by g, the values by val -/
def ML (K : PySem.W.Frag) (H : Hp) (g : α → NestedKey) (val : α → List NestedKey) (keys : List α) (kvs : List (NestedKey × V)) : Prop := Paired (fun (t : α) (q : NestedKey × V) => q.1 = g t ∧ LVal K H (val t) q.2) keys kvs
variable {K : PySem.W.Frag} {H H' : Hp} {g : α → NestedKey} {val : α → List NestedKey} {keys : List α} {kvs : List (NestedKey × V)}
theorem ML.tx (h : ML K H g val keys kvs) (t : TX H H') : ML K H' g val keys kvs := Paired.mapP h fun _ _ z => ⟨z.1, z.2.tx t⟩
theorem ML.len (h : ML K H g val keys kvs) : kvs.length = keys.length := (Paired.length h).symm
theorem ML.snoc (h : ML K H g val keys kvs) {t : α} {v : V} (d : LVal K H (val t) v) : ML K H g val (keys ++ [t]) (kvs ++ [(g t, v)]) := Paired.snoc h ⟨rfl, d⟩
theorem ML.get (h : ML K H g val keys kvs) (gi : ∀ a b, g a = g b → a = b) {t : α} (m : t ∈ keys) : ∃ v, valV kvs (g t) = some v ∧ LVal K H (val t) v := by
  unfold ML at h
  induction h with
  | nil => exact nomatch m
  | @cons p q ps qs hpq _ ih =>
    by_cases e : p = t
    · subst e
      exact ⟨q.2, valV_pos hpq.1, hpq.2⟩
    · have e2 : ¬ q.1 = g t := fun z => e (gi _ _ (hpq.1.symm.trans z))
      rw [valV_neg e2]
      rcases List.mem_cons.mp m with z | z
      · exact absurd z.symm e
      · exact ih z
theorem ML.none (h : ML K H g val keys kvs) (gi : ∀ a b, g a = g b → a = b) {t : α} (m : t ∉ keys) : valV kvs (g t) = none := by
  unfold ML at h
  induction h with
  | nil => rfl
  | @cons p q ps qs hpq _ ih =>
    have e2 : ¬ q.1 = g t := fun z => m (by rw [gi _ _ (hpq.1.symm.trans z)]; exact List.mem_cons_self)
    rw [valV_neg e2]
    exact ih fun z => m (List.mem_cons_of_mem _ z)
end
theorem sk_inj : ∀ a b : St4, sk a = sk b → a = b := fun a b e => by
  obtain ⟨a1, a2, a3, a4⟩ := a
  obtain ⟨b1, b2, b3, b4⟩ := b
  unfold sk at e
  injection e with e
  injection e with e1 e
  injection e with e2 e
  injection e with e3 e
  injection e with e4 _
  rw [St4.mk.injEq]
  exact ⟨nk_inj e1, nk_inj e2, nk_inj e3, lkO_inj e4⟩
theorem sk_depth1 (t : St4) : (sk t).depth ≤ 2 := by
  refine depthL _ 1 fun k hk => ?_
  simp only [List.mem_cons, List.not_mem_nil, or_false] at hk
  rcases hk with e | e | e | e <;> rw [e]
  · rw [nk_depth]; omega
  · rw [nk_depth]; omega
  · rw [nk_depth]; omega
  · rw [lk_depth]; omega
theorem sk_depth (t : St4) : (sk t).depth ≤ 8 := Nat.le_trans (sk_depth1 t) (by omega)
def comeL (h : Hd) (t : St4) : List NestedKey := (comeAt h t).map sk
def sentL (h : Hd) (p : Pl) (t : St4) : List NestedKey := (sentFrom h p t).map ek
theorem Good4.ok {h : Hd} {p : Pl} (o : h.Ok) {t : St4} (g : Good4 h p t) : StOk h p t := ⟨g.pl, g.s.lt o, g.o.lt o, g.hd⟩
section
variable {P : Program} {w : World} {K : PySem.W.Frag} {mg : Str → Option Value} {base : Heap} {C S : Addr} {tH tP : Tok} {f : Addr} {fd : FuncData}
structure MvAt (P : Program) (w : World) (K : PySem.W.Frag) (h : Hd) (p : Pl) (H H' : Hp) (dc ds l : Addr) (kc ks waiting : List St4) : Prop where
  same : Same H H'
  c0 : H dc = none
  s0 : H ds = none
  l0 : H l = none
  cs : dc ≠ ds
  cl : dc ≠ l
  sl : ds ≠ l
  cc : ∃ kv, ND P w K H' dc kv ∧ ML K H' sk (comeL h) kc kv
  ss : ∃ kv, ND P w K H' ds kv ∧ ML K H' sk (sentL h p) ks kv
  ll : ∃ us, H' l = some (.lst us) ∧ DVs K H' (waiting.map sk) us
theorem MvAt.on {h : Hd} {p : Pl} {H H' H2 : Hp} {dc ds l : Addr} {kc ks waiting : List St4} (A : MvAt P w K h p H H' dc ds l kc ks waiting) (s : Same H' H2) : MvAt P w K h p H H2 dc ds l kc ks waiting := by
  obtain ⟨k1, a1, a2⟩ := A.cc
  obtain ⟨k2, b1, b2⟩ := A.ss
  obtain ⟨us, h3, h4⟩ := A.ll
  exact ⟨sametr A.same s, A.c0, A.s0, A.l0, A.cs, A.cl, A.sl, ⟨k1, a1.same s, a2.tx (.same s)⟩, ⟨k2, b1.same s, b2.tx (.same s)⟩, ⟨us, s _ _ h3, h4.tx (.same s)⟩⟩
/-- another thing, not of the caller's, is changed -/
theorem MvAt.off {h : Hd} {p : Pl} {H H' H2 : Hp} {dc ds l b : Addr} {kc ks waiting : List St4} (A : MvAt P w K h p H H' dc ds l kc ks waiting) (b0 : H b = none) (ho : ∀ c, c ≠ b → H2 c = H' c) (t : TX H' H2) (n1 : dc ≠ b) (n2 : ds ≠ b) (n3 : l ≠ b) : MvAt P w K h p H H2 dc ds l kc ks waiting := by
  obtain ⟨k1, a1, a2⟩ := A.cc
  obtain ⟨k2, b1, b2⟩ := A.ss
  obtain ⟨us, h3, h4⟩ := A.ll
  refine ⟨fun c o z => ?_, A.c0, A.s0, A.l0, A.cs, A.cl, A.sl, ⟨k1, a1.keep t (ho _ n1), a2.tx t⟩, ⟨k2, b1.keep t (ho _ n2), b2.tx t⟩, ⟨us, (ho _ n3).trans h3, h4.tx t⟩⟩
  have ne : c ≠ b := fun e => by rw [e, b0] at z; cases z
  rw [ho c ne]
  exact A.same _ _ z
theorem sc_all_moves : FnScope ["courier", "plan", "come", "sent", "waiting", "stand", "index", "there"] ["courier", "plan"] (defScope s_all_moves) := ⟨rfl, rfl, rfl, by decide +kernel, rfl, by decide +kernel, by decide +kernel⟩
/-- come and sent, locked -/
structure Moves (P : Program) (w : World) (K : PySem.W.Frag) (h : Hd) (p : Pl) (H : Hp) (dc ds : Addr) (keys : List St4) : Prop where
  cc : ∃ o xs, NDf P w K H dc o xs ∧ ML K H sk (comeL h) keys (kvOf xs)
  ss : ∃ o xs, NDf P w K H ds o xs ∧ ML K H sk (sentL h p) keys (kvOf xs)
theorem Moves.tx {h : Hd} {p : Pl} {H H' : Hp} {dc ds : Addr} {keys : List St4} (M : Moves P w K h p H dc ds keys) (t : TX H H') : Moves P w K h p H' dc ds keys := by
  obtain ⟨o1, x1, a1, a2⟩ := M.cc
  obtain ⟨o2, x2, b1, b2⟩ := M.ss
  exact ⟨⟨o1, x1, a1.tx t, a2.tx t⟩, ⟨o2, x2, b1.tx t, b2.tx t⟩⟩
def sp_all_moves (P : Program) (w : World) (K : PySem.W.Frag) (C : Addr) : Sp := fun vs H Q _ => ∃ h p c pv, vs = [.ref c, pv] ∧ h.Ok ∧ p.Ok h.K ∧ h.n ≤ 4 ∧ h.K ≤ 3 ∧ CoAt K C H c h ∧ DV K H (plk p) pv ∧
  ∀ T dc ds keys H', Same H H' → SqT K H' T [.ref dc, .ref ds] → keys.Nodup → (∀ t, t ∈ keys ↔ Come h p t) → Moves P w K h p H' dc ds keys → Q (.ref T) H'
theorem ok_all_moves (T : Txt K mg C S tH tP) (F : FnP K "all_moves" "all_moves" s_all_moves f fd) (gm_come_at : OkM P w K mg base C "come_at" 3 ["self", "stand"] (sp_come_at K C)) (gm_sent_from : OkM P w K mg base C "sent_from" 3 ["self", "plan", "stand"] (sp_sent_from K C)) :
    FnOk P w K mg base CX0 4 f fd ["courier", "plan"] (sp_all_moves P w K C) := by
  refine F.ok sc_all_moves (fun vs H Q E h => ?_) (fun cdv A outer s H vs Q E hr h => ⟨_, PSs.nox ((pss_cons (ps_set (i := 2) sc_all_moves.nd rfl (.inl rfl) (pe_nnewK P w K ⟨rfl, rfl, rfl⟩))
  (pss_cons (ps_set (i := 3) sc_all_moves.nd rfl (.inl rfl) (pe_nnewK P w K ⟨rfl, rfl, rfl⟩))
  (pss_cons (ps_set (i := 4) sc_all_moves.nd rfl (.inl rfl) (pe_lst (pa_cons (pe_glob (v := .ref S) rfl T.g_START rfl) pa_nil)))
  (pss_cons (ps_while PassesOwn.never (pt_cmpR (op_nenilK P w K ⟨rfl, rfl, rfl⟩ hr) (pv 4) (pe_lst pa_nil) (nomark _))
    (pss_cons (ps_set (i := 5) sc_all_moves.nd rfl (.inl rfl) (pe_bm0K P w K ⟨rfl, rfl, rfl⟩ PySem.F.plainAttrs_list PySem.F.slot_list_pop PySem.F.type_list_pop mt_pop (pv 4)))
  (pss_one (ps_if (pt_cmpR (op_nnotinK P w K ⟨rfl, rfl, rfl⟩ hr) (pv 5) (pv 2) rfl) (pss_cons (ps_asg (pe_frz (pe_methO (pv 0) T.cl gm_come_at (hr.mono (by decide)) (pa_cons (pv 5) pa_nil))) (pg_sub (pv 2) (pv 5) (set_ndK P w K ⟨rfl, rfl, rfl⟩ hr)))
  (pss_cons (ps_asg (pe_frz (pe_methO (pv 0) T.cl gm_sent_from (hr.mono (by decide)) (pa_cons (pv 1) (pa_cons (pv 5) pa_nil)))) (pg_sub (pv 3) (pv 5) (set_ndK P w K ⟨rfl, rfl, rfl⟩ hr)))
  (pss_cons (ps_expr (pe_bmK P w K ⟨rfl, rfl, rfl⟩ PySem.F.plainAttrs_list PySem.F.slot_list_extend PySem.F.type_list_extend mt_extS (pv 4) (pa_cons (pe_ngetK P w K ⟨rfl, rfl, rfl⟩ hr (pv 2) (pv 5) (fun _ _ => rfl)) pa_nil)))
  (pss_one (ps_expr (pe_bmK P w K ⟨rfl, rfl, rfl⟩ PySem.F.plainAttrs_list PySem.F.slot_list_extend PySem.F.type_list_extend mt_extS (pv 4) (pa_cons (pe_lc (own := [("index", 6), ("there", 7)]) (by rfl) sc_all_moves.nd (pi_LDK P w K ⟨rfl, rfl, rfl⟩ (pe_ngetK P w K ⟨rfl, rfl, rfl⟩ hr (pv 3) (pv 5) (fun _ _ => rfl))) (blkOk_by (own := [("index", 6), ("there", 7)]) (N := ["courier", "plan", "come", "sent", "waiting", "stand", "index", "there"]) (sc := defScope s_all_moves) (by decide +kernel)) (fun _ _ _ _ _ => (pg_tupK (n := 2) P w K ⟨rfl, rfl, rfl⟩ (by rfl) (pgs_cons (pg_name (i := 6) sc_all_moves.nd rfl (Or.inl rfl)) (pgs_cons (pg_name (i := 7) sc_all_moves.nd rfl (Or.inl rfl)) pgs_nil)))) (fun _ _ _ _ _ => pts_nil) (fun _ _ _ _ _ => (pv 7))) pa_nil))))))) pss_nil))))
  (pss_one (ps_frz (ps_frz (ps_ret (pe_tup (pa_cons (pv 2) (pa_cons (pv 3) pa_nil)))))))))))), ?_⟩)
  · obtain ⟨h, p, c, pv, rfl, _⟩ := h
    rfl
  obtain ⟨h, p, c, pv, rfl, o, po, n4, k3, A, dp, q⟩ := h
  have small : 4000 < sizeLine := by decide
  have ul := univ4_len n4 k3 po.r3
  intro dc H1 hc ho1 s1 nd1
  intro ds H2 hs ho2 s2 nd2
  refine ⟨(by show 1 ≤ sizeLine; decide), fun l hl => ?_⟩
  have nex : ∀ {H : Hp} {d : Addr} {kv : List (NestedKey × V)}, ND P w K H d kv → ∃ o, H d = some o := fun n => by
    obtain ⟨xs, hx, _⟩ := n
    exact ⟨_, hx⟩
  have cs : dc ≠ ds := by
    obtain ⟨o1, e1⟩ := nex nd1
    exact ne_of_none e1 hs
  have cl : dc ≠ l := by
    obtain ⟨o1, e1⟩ := nex (nd1.same s2)
    exact ne_of_none e1 hl
  have sl : ds ≠ l := by
    obtain ⟨o1, e1⟩ := nex nd2
    exact ne_of_none e1 hl
  have s12 : Same H H2 := sametr s1 s2
  have l0 : H l = none := s12.free hl
  have t3 : TX H2 (upd H2 l (.lst [.ref S])) := TX.new hl
  refine while_ne (fun m σ H' => ∃ (keys waiting : List St4) (y5 : Option V), m = 14 * ((univ4 h p).length - keys.length) + waiting.length ∧ MvAt P w K h p H H' dc ds l keys keys waiting ∧ DI (fun t => t = start4) (fun _ => True) (moves h p) keys waiting ∧
      14 * ((univ4 h p).length - keys.length) + waiting.length ≤ 3000 ∧ σ = [some (.ref c), some pv, some (.ref dc), some (.ref ds), some (.ref l), y5, none, none])
    ⟨_, [], [start4], none, rfl, ⟨same_upd s12 l0, hc, s1.free hs, l0, cs, cl, sl, ⟨[], (nd1.same s2).upd cl t3, .nil⟩, ⟨[], nd2.upd sl t3, .nil⟩, ⟨_, upd_same, dvs_cons (T.d_START _) dvs_nil⟩⟩, DI.start fun x => by simp, (by simp only [List.length_nil, List.length_cons]; omega), rfl⟩ ?_
  clear t3 l0 s12 hl nd2 s2 ho2 nd1 s1 ho1 sl cl cs hs hc
  rintro m σ H2 ⟨keys, waiting, y5, rfl, B, D, bound, rfl⟩
  obtain ⟨us2, l2, ds2⟩ := B.ll
  have kgood : ∀ t ∈ keys, Good4 h p t := fun t ht => Come.good po (D.sub t ht)
  refine ⟨l, us2, rfl, SqL.of l2, fun H3 s3 => ⟨fun e => ?_, fun e N hN => ?_⟩⟩
  · have e' : waiting = [] := by
      have z := ds2.length
      rw [e, List.length_map] at z
      exact List.length_eq_zero_iff.mp z.symm
    subst e'
    have B3 := B.on s3
    obtain ⟨kc, ⟨xc, a1, rfl, a3⟩, a4⟩ := B3.cc
    obtain ⟨ks, ⟨xs, b1, rfl, b3⟩, b4⟩ := B3.ss
    refine ⟨dc, _, a1, trivial, fun oc => ⟨ds, _, (upd_ne B.cs.symm).trans b1, trivial, fun os => ⟨.ref dc, rfl, .ref ds, rfl, (by show 2 ≤ sizeLine; decide), fun T1 hT => ?_⟩⟩⟩
    have u1 : TX H3 (upd H3 dc (.frz oc (dctO P w dc xc))) := TX.mut (by rw [a1]; trivial)
    have u2 : TX (upd H3 dc (.frz oc (dctO P w dc xc))) (upd (upd H3 dc (.frz oc (dctO P w dc xc))) ds (.frz os (dctO P w ds xs))) := TX.mut (by rw [upd_ne B.cs.symm, b1]; trivial)
    have u3 : TX (upd (upd H3 dc (.frz oc (dctO P w dc xc))) ds (.frz os (dctO P w ds xs))) _ := TX.new (o := .tup [.ref dc, .ref ds]) hT
    have u := u1.trans (u2.trans u3)
    have sf : Same H (upd (upd H3 dc (.frz oc (dctO P w dc xc))) ds (.frz os (dctO P w ds xs))) := same_upd (same_upd B3.same B.c0) B.s0
    have e1 : (upd (upd H3 dc (.frz oc (dctO P w dc xc))) ds (.frz os (dctO P w ds xs))) dc = some (.frz oc (dctO P w dc xc)) := (upd_ne B.cs).trans upd_same
    have e2 : (upd (upd H3 dc (.frz oc (dctO P w dc xc))) ds (.frz os (dctO P w ds xs))) ds = some (.frz os (dctO P w ds xs)) := upd_same
    refine q T1 dc ds keys _ (sametr sf (same_new hT)) (SqT.of upd_same) D.nd D.done ⟨⟨oc, xc, ⟨upd_at e1 hT, a3.tx u⟩, a4.tx u⟩, ⟨os, xs, ⟨upd_at e2 hT, b3.tx u⟩, b4.tx u⟩⟩
  have wne : waiting ≠ [] := fun z => e (by rw [z] at ds2; exact of_nil ds2)
  obtain ⟨ws, x, rfl⟩ := last_of wne
  have B3 := B.on s3
  obtain ⟨us3, l3, ds3⟩ := B3.ll
  rw [List.map_append] at ds3
  obtain ⟨us4, v, rfl, ds4, dv⟩ := DVs.snoc_inv ds3
  have gx : Good4 h p x := Come.good po (D.wt x (by simp) trivial)
  have okx := gx.ok o
  refine ⟨.ref l, rfl, .inl ⟨rfl, _, SqL.of l3⟩, l, _, v, rfl, rfl, l3, pop_get _ _, ?_⟩
  rw [pop_drop]
  have t5 : TX H3 (upd H3 l (.lst us4)) := TX.lst l3
  have B5 : MvAt P w K h p H (upd H3 l (.lst us4)) dc ds l keys keys ws := by
    obtain ⟨k1, a1, a2⟩ := B3.cc
    obtain ⟨k2, b1, b2⟩ := B3.ss
    exact ⟨same_upd B3.same B.l0, B.c0, B.s0, B.l0, B.cs, B.cl, B.sl, ⟨k1, a1.upd B.cl t5, a2.tx t5⟩, ⟨k2, b1.upd B.sl t5, b2.tx t5⟩, ⟨us4, upd_same, ds4.tx t5⟩⟩
  have dv5 := dv.tx t5
  generalize upd H3 l (.lst us4) = H5 at t5 B5 dv5
  rw [List.length_append] at bound
  simp only [List.length_cons, List.length_nil] at bound
  obtain ⟨kc5, nc5, mc5⟩ := B5.cc
  refine ⟨v, rfl, .ref dc, rfl, dc, _, rfl, nget_of nc5.r dv5 (sk_depth x), _, rfl, ?_⟩
  rw [show valV kc5 (NestedKey.tup [nk x.pl, nk x.s, nk x.o, lk x.held.toList]) = valV kc5 (sk x) from rfl]
  by_cases m : x ∈ keys
  · obtain ⟨z, e1, _⟩ := mc5.get sk_inj m
    rw [e1]
    refine iteF (hN _ _ _ ?_ ⟨keys, ws, some v, rfl, B5, D.skip (.inl m), by omega, rfl⟩)
    rw [List.length_append]
    simp only [List.length_cons, List.length_nil]
    omega
  · rw [mc5.none sk_inj m]
    refine iteT ?_
    have kn : (keys ++ [x]).length ≤ (univ4 h p).length := nodup_len (List.nodup_append.mpr ⟨D.nd, by simp, fun a ha b hb e => m (by rw [List.mem_singleton.mp hb] at e; rw [← e]; exact ha)⟩) fun q hq => by
      rcases List.mem_append.mp hq with hq | hq
      · exact mem_univ4 o (kgood q hq)
      · rw [List.mem_singleton.mp hq]; exact mem_univ4 o gx
    rw [List.length_append] at kn
    simp only [List.length_cons, List.length_nil] at kn
    -- come[stand] = ..
    have A5 := A.on B5.same
    obtain ⟨dx5, hv5, he5, c1, c2, c3⟩ := A5.ex
    have no1 : (cflds hv5 he5).lookup ("come_at" : Str) = none := cf_no _ _ (by decide +kernel) (by decide +kernel) (by decide +kernel) (by decide +kernel)
    refine ⟨.ref c, rfl, c, dx5, _, rfl, c1, no1, v, rfl, h, c, v, x, rfl, o, A5, dv5, okx.2.2.1, okx.2.2.2, fun b us6 H6 s6 b0 b1 ds6 => ⟨b, _, rfl, b1, trivial, fun ob => ?_⟩⟩
    have B6 := B5.on s6
    have t7 : TX H6 (upd H6 b (.frz ob (.lst us6))) := TX.lst b1
    have b00 : H b = none := B5.same.free b0
    have nb1 : dc ≠ b := by
      obtain ⟨o1, e1⟩ := nex nc5
      exact ne_of_none e1 b0
    have nb2 : ds ≠ b := by
      obtain ⟨k2, n2, _⟩ := B5.ss
      obtain ⟨o1, e1⟩ := nex n2
      exact ne_of_none e1 b0
    have nb3 : l ≠ b := by
      obtain ⟨u2, n2, _⟩ := B5.ll
      exact ne_of_none n2 b0
    have B7 : MvAt P w K h p H (upd H6 b (.frz ob (.lst us6))) dc ds l keys keys ws := B6.off b00 (fun c hc => upd_ne hc) t7 nb1 nb2 nb3
    have lv7 : LVal K (upd H6 b (.frz ob (.lst us6))) (comeL h x) (.ref b) := ⟨b, ob, us6, rfl, upd_same, ds6.tx t7⟩
    have dv7 := (dv5.tx (.same s6)).tx t7
    generalize upd H6 b (.frz ob (.lst us6)) = H7 at t7 B7 lv7 dv7
    clear B6 b1 ds6 c1 c2 c3 no1
    obtain ⟨kc7, nc7, mc7⟩ := B7.cc
    refine ⟨.ref dc, rfl, v, rfl, dc, _, kc7, rfl, nc7, dv7, sk_depth x, ?_, fun H8 ho8 t8 nd8 => ?_⟩
    · rw [mc7.len]; omega
    rw [show NestedKey.tup [nk x.pl, nk x.s, nk x.o, lk x.held.toList] = sk x from rfl, putK_new _ (mc7.none sk_inj m)] at nd8
    have B8 : MvAt P w K h p H H8 dc ds l (keys ++ [x]) keys ws := by
      obtain ⟨k2, b1, b2⟩ := B7.ss
      obtain ⟨us, h3, h4⟩ := B7.ll
      refine ⟨fun c' o' z => ?_, B.c0, B.s0, B.l0, B.cs, B.cl, B.sl, ⟨_, nd8, (mc7.tx t8).snoc (lv7.tx t8)⟩, ⟨k2, b1.keep t8 (ho8 _ B.cs.symm), b2.tx t8⟩, ⟨us, (ho8 _ B.cl.symm).trans h3, h4.tx t8⟩⟩
      have ne : c' ≠ dc := fun e => by rw [e, B.c0] at z; cases z
      rw [ho8 c' ne]
      exact B7.same _ _ z
    have dv8 := dv7.tx t8
    -- sent[stand] = ..
    have A8 := A.on B8.same
    obtain ⟨dx8, hv8, he8, c1, c2, c3⟩ := A8.ex
    have no1 : (cflds hv8 he8).lookup ("sent_from" : Str) = none := cf_no _ _ (by decide +kernel) (by decide +kernel) (by decide +kernel) (by decide +kernel)
    refine ⟨.ref c, rfl, c, dx8, _, rfl, c1, no1, pv, rfl, v, rfl, h, p, c, pv, v, x, rfl, o, po, A8, dp.tx (.same B8.same), dv8, okx, fun b2 us9 H9 s9 b20 b21 ds9 => ⟨b2, _, rfl, b21, trivial, fun ob2 => ?_⟩⟩
    have B9 := B8.on s9
    have t10 : TX H9 (upd H9 b2 (.frz ob2 (.lst us9))) := TX.lst b21
    have b200 : H b2 = none := B8.same.free b20
    have nb4 : dc ≠ b2 := by
      obtain ⟨k2, n2, _⟩ := B8.cc
      obtain ⟨o1, e1⟩ := nex n2
      exact ne_of_none e1 b20
    have nb5 : ds ≠ b2 := by
      obtain ⟨k2, n2, _⟩ := B8.ss
      obtain ⟨o1, e1⟩ := nex n2
      exact ne_of_none e1 b20
    have nb6 : l ≠ b2 := by
      obtain ⟨u2, n2, _⟩ := B8.ll
      exact ne_of_none n2 b20
    have B10 : MvAt P w K h p H (upd H9 b2 (.frz ob2 (.lst us9))) dc ds l (keys ++ [x]) keys ws := B9.off b200 (fun c hc => upd_ne hc) t10 nb4 nb5 nb6
    have lv10 : LVal K (upd H9 b2 (.frz ob2 (.lst us9))) (sentL h p x) (.ref b2) := ⟨b2, ob2, us9, rfl, upd_same, ds9.tx t10⟩
    have dv10 := (dv8.tx (.same s9)).tx t10
    generalize upd H9 b2 (.frz ob2 (.lst us9)) = H10 at t10 B10 lv10 dv10
    clear B9 b21 ds9 c1 c2 c3 no1
    obtain ⟨ks10, ns10, ms10⟩ := B10.ss
    refine ⟨.ref ds, rfl, v, rfl, ds, _, ks10, rfl, ns10, dv10, sk_depth x, ?_, fun H11 ho11 t11 nd11 => ?_⟩
    · rw [ms10.len]; omega
    rw [show NestedKey.tup [nk x.pl, nk x.s, nk x.o, lk x.held.toList] = sk x from rfl, putK_new _ (ms10.none sk_inj m)] at nd11
    have B11 : MvAt P w K h p H H11 dc ds l (keys ++ [x]) (keys ++ [x]) ws := by
      obtain ⟨k2, b1, b2⟩ := B10.cc
      obtain ⟨us, h3, h4⟩ := B10.ll
      refine ⟨fun c' o' z => ?_, B.c0, B.s0, B.l0, B.cs, B.cl, B.sl, ⟨k2, b1.keep t11 (ho11 _ B.cs), b2.tx t11⟩, ⟨_, nd11, (ms10.tx t11).snoc (lv10.tx t11)⟩, ⟨us, (ho11 _ B.sl.symm).trans h3, h4.tx t11⟩⟩
      have ne : c' ≠ ds := fun e => by rw [e, B.s0] at z; cases z
      rw [ho11 c' ne]
      exact B10.same _ _ z
    have dv11 := dv10.tx t11
    -- waiting.extend(come[stand])
    obtain ⟨kc11, nc11, mc11⟩ := B11.cc
    obtain ⟨ks11, ns11, ms11⟩ := B11.ss
    obtain ⟨us11, l11, ds11⟩ := B11.ll
    have xin : x ∈ keys ++ [x] := by simp
    obtain ⟨z1, e1, ⟨lb, lo, lus, rfl, f1, f2⟩⟩ := mc11.get sk_inj xin
    have g1 := nget_of nc11.r dv11 (sk_depth x)
    rw [show valV kc11 (NestedKey.tup [nk x.pl, nk x.s, nk x.o, lk x.held.toList]) = valV kc11 (sk x) from rfl, e1] at g1
    have cl1 := comeAt_len h x
    have cl2 := sentFrom_len h p x
    refine ⟨.ref l, rfl, .inl ⟨rfl, _, SqL.of l11⟩, .ref dc, rfl, v, rfl, dc, _, rfl, g1, l, lb, us11, lus, rfl, rfl, l11, .inr ⟨lo, f1⟩, ?_, ?_⟩
    · rw [ds11.length, f2.length, List.length_map]
      unfold comeL
      rw [List.length_map]
      omega
    have t12 : TX H11 (upd H11 l (.lst (us11 ++ lus))) := TX.lst l11
    have B12 : MvAt P w K h p H (upd H11 l (.lst (us11 ++ lus))) dc ds l (keys ++ [x]) (keys ++ [x]) (ws ++ comeAt h x) := by
      refine ⟨same_upd B11.same B.l0, B.c0, B.s0, B.l0, B.cs, B.cl, B.sl, ⟨kc11, nc11.upd B.cl t12, mc11.tx t12⟩, ⟨ks11, ns11.upd B.sl t12, ms11.tx t12⟩, ⟨_, upd_same, ?_⟩⟩
      rw [List.map_append]
      exact (ds11.append f2).tx t12
    have dv12 := dv11.tx t12
    have l12 : (upd H11 l (.lst (us11 ++ lus))) l = some (.lst (us11 ++ lus)) := upd_same
    have hl12 : us11.length + lus.length ≤ 3001 := by
      rw [ds11.length, f2.length, List.length_map]
      unfold comeL
      rw [List.length_map]
      omega
    generalize upd H11 l (.lst (us11 ++ lus)) = H12 at t12 B12 dv12 l12
    clear g1 f1 f2 e1 ds11 l11 ms11 ns11 mc11 nc11
    -- waiting.extend([there for index, there in sent[stand]])
    obtain ⟨ks12, ns12, ms12⟩ := B12.ss
    obtain ⟨z2, e2, ⟨lb2, lo2, lus2, rfl, f3, f4⟩⟩ := ms12.get sk_inj xin
    have g2 := nget_of ns12.r dv12 (sk_depth x)
    rw [show valV ks12 (NestedKey.tup [nk x.pl, nk x.s, nk x.o, lk x.held.toList]) = valV ks12 (sk x) from rfl, e2] at g2
    have sf3 : SqL K H12 lb2 lus2 := .inl (.inr ⟨lo2, f3⟩)
    refine ⟨.ref l, rfl, .inl ⟨rfl, _, SqL.of l12⟩, .ref ds, rfl, v, rfl, ds, _, rfl, g2, lb2, lus2, _, rfl, sf3, f4, fun J wk D1 hD1 => lc_dat (K := K) wk (fun i => some ((fun y : Nat × St4 => sk y.2) ((sentFrom h p x).getD i (0, start4)))) hD1 ?_ (fun H' s => ⟨s.seq sf3, .same s⟩) (fun i y H13 H14 Nx hi s13 yy no yes => ?_) (fun H13 us13 s13 hD13 ds13 => ?_)⟩
    · unfold sentL
      rw [List.length_map]
      omega
    · obtain ⟨rfl, k, ek', dk⟩ := yy
      obtain ⟨hi', ek'⟩ := map_get (0, start4) ek'
      subst ek'
      obtain ⟨a3, w1, w2, rfl, sq3, dw1, dw2⟩ := of_tup2 dk
      exact ⟨a3, _, rfl, sq3, rfl, w1, _, rfl, w2, _, rfl, rfl, rfl, w2, rfl, yes _ _ _ rfl (fun _ _ z => z) dw2⟩
    · have B13 := B12.on s13
      have l13 := s13 _ _ l12
      have ds14 : DVs K H13 (((sentFrom h p x).map (·.2)).map sk) us13 := by
        unfold sentL at ds13
        rw [List.length_map, range_map_get (l := sentFrom h p x) (g := fun y : Nat × St4 => sk y.2) (0, start4) rfl] at ds13
        rw [List.map_map]
        exact ds13
      have e14 : us13.length = (sentFrom h p x).length := by rw [ds14.length, List.length_map, List.length_map]
      refine ⟨l, D1, _, us13, rfl, rfl, l13, .inl hD13, ?_, ?_⟩
      · rw [List.length_append]
        omega
      have t15 : TX H13 (upd H13 l (.lst (us11 ++ lus ++ us13))) := TX.lst l13
      obtain ⟨kc13, nc13, mc13⟩ := B13.cc
      obtain ⟨ks13, ns13, ms13⟩ := B13.ss
      obtain ⟨us14, l14, ds15⟩ := B13.ll
      rw [l13] at l14
      cases l14
      refine hN _ _ _ ?_ ⟨keys ++ [x], ws ++ moves h p x, some v, rfl, ⟨same_upd B13.same B.l0, B.c0, B.s0, B.l0, B.cs, B.cl, B.sl, ⟨kc13, nc13.upd B.cl t15, mc13.tx t15⟩, ⟨ks13, ns13.upd B.sl t15, ms13.tx t15⟩, ⟨_, upd_same, ?_⟩⟩, D.take m trivial fun y => Iff.rfl, ?_, rfl⟩
      · unfold moves
        simp only [List.length_append, List.length_cons, List.length_nil, List.length_map]
        omega
      · unfold moves
        rw [← List.append_assoc, List.map_append]
        exact (ds15.append ds14).tx t15
      · unfold moves
        simp only [List.length_append, List.length_cons, List.length_nil, List.length_map]
        omega
end
end K14

/-! W18: is_wrong, sources. -/
namespace K14
open PySem PySem.Spec PyProof.Rows L2
section
variable {P : Program} {w : World} {K : PySem.W.Frag} {mg : Str → Option Value} {base : Heap} {C S : Addr} {tH tP : Tok} {f : Addr} {fd : FuncData}
theorem sc_is_wrong : FnScope ["plan", "classes", "stand", "place", "state", "other", "held"] ["plan", "classes", "stand"] (defScope s_is_wrong) := ⟨rfl, rfl, rfl, by decide +kernel, rfl, by decide +kernel, by decide +kernel⟩
def sp_is_wrong (K : PySem.W.Frag) : Sp := fun vs H Q _ => ∃ h p c pv cv u, ∃ t : St4, vs = [pv, cv, u] ∧ ClsOk h c ∧ DV K H (plk p) pv ∧ DV K H (lk c) cv ∧ DV K H (sk t) u ∧ t.s < h.n ∧ t.o < h.n ∧ ∀ b H', Same H H' → (b = true ↔ Wrong h p t) → Q (.bl b) H'
theorem ok_is_wrong (T : Txt K mg C S tH tP) (F : FnP K "is_wrong" "is_wrong" s_is_wrong f fd) : FnOk P w K mg base CX0 1 f fd ["plan", "classes", "stand"] (sp_is_wrong K) := by
  refine F.ok sc_is_wrong (fun vs H Q E h => ?_) (fun cdv A outer s H vs Q E hr h => ⟨_, PSs.nox ((pss_cons (ps_asg (pv 2) (pg_tupK (n := 4) P w K ⟨rfl, rfl, rfl⟩ (by rfl) (pgs_cons (pg_name (i := 3) sc_is_wrong.nd rfl (.inl rfl)) (pgs_cons (pg_name (i := 4) sc_is_wrong.nd rfl (.inl rfl)) (pgs_cons (pg_name (i := 5) sc_is_wrong.nd rfl (.inl rfl)) (pgs_cons (pg_name (i := 6) sc_is_wrong.nd rfl (.inl rfl)) pgs_nil))))))
  (pss_one (ps_ret (pe_and (pe_cmpR (op_inTK P w K ⟨rfl, rfl, rfl⟩) (pv 3) (pe_ix (ix_datK P w K ⟨rfl, rfl, rfl⟩) (pv 0) pe_int (fun _ _ => rfl)) rfl) (pe_and (pe_cmpR (op_deqK P w K ⟨rfl, rfl, rfl⟩ hr) (pv 6) (pe_tupDK P w K ⟨rfl, rfl, rfl⟩ pa_nil) (nomark _)) (pe_one (pe_cmpR (op_dneK P w K ⟨rfl, rfl, rfl⟩ hr) (pe_ix (ix_datK P w K ⟨rfl, rfl, rfl⟩) (pv 1) (pv 4) (fun _ _ => rfl)) (pe_ix (ix_datK P w K ⟨rfl, rfl, rfl⟩) (pv 1) (pv 5) (fun _ _ => rfl)) (nomark _))))))))), ?_⟩)
  · obtain ⟨h, p, c, pv, cv, u, t, rfl, _⟩ := h
    rfl
  obtain ⟨h, p, c, pv, cv, u, t, rfl, hc, dp, dc, du, ts, to, q⟩ := h
  obtain ⟨a, v1, v2, v3, v4, rfl, sq, d1, d2, d3, d4⟩ := of_tup4 du
  have e1 := of_num d1
  have e2 := of_num d2
  have e3 := of_num d3
  subst e1 e2 e3
  refine ⟨.ref a, rfl, a, _, rfl, sq, rfl, iv t.pl, _, rfl, iv t.s, _, rfl, iv t.o, _, rfl, v4, _, rfl, rfl, ?_⟩
  refine ⟨iv t.pl, rfl, pv, rfl, _, 0, _, dp, rfl, rfl, fun ev de => ⟨t.pl, p.ends, rfl, de, _, rfl, ?_⟩⟩
  by_cases m1 : t.pl ∈ p.ends
  · rw [decide_eq_true m1]
    refine iteT ⟨v4, rfl, [], dvs_nil, Nat.zero_le _, fun e0 H1 s1 d0 => ⟨lk t.held.toList, .tup [], d4.tx (.same s1), d0, sm_lk _, sm_lk [], _, rfl, ?_⟩⟩
    by_cases m2 : t.held = none
    · rw [decide_eq_true (show lk t.held.toList = NestedKey.tup [] by rw [m2]; rfl)]
      have dc1 := dc.tx (.same s1)
      refine iteT ⟨cv, rfl, iv t.s, rfl, _, t.s, _, dc1, rfl, lk_get (by rw [hc.1]; exact ts), fun z1 dz1 => ⟨cv, rfl, iv t.o, rfl, _, t.o, _, dc1, rfl, lk_get (by rw [hc.1]; exact to), fun z2 dz2 => ⟨nk _, nk _, dz1, dz2, sm_nk _, sm_nk _, q _ H1 s1 ?_⟩⟩⟩
      have k := hc.2 t.s t.o ts to
      constructor
      · intro z
        refine ⟨m1, m2, fun al => ?_⟩
        rw [k.mpr al] at z
        simp at z
      · rintro ⟨_, _, z⟩
        have z2 : ¬ nk (c.getD t.s 0) = nk (c.getD t.o 0) := fun e => z (k.mp (nk_inj e))
        rw [decide_eq_false z2]
        rfl
    · rw [decide_eq_false (show ¬ lk t.held.toList = NestedKey.tup [] from fun z => m2 (lkO_inj (b := none) z))]
      exact iteF (q false H1 s1 ⟨(fun z => by cases z), fun z => absurd z.2.1 m2⟩)
  · rw [decide_eq_false m1]
    exact iteF (q false H (fun _ _ z => z) ⟨(fun z => by cases z), fun z => absurd z.1 m1⟩)
/-! ### sources -/
omit K in
theorem putK_in {κ : Type} [DecidableEq κ] {kvs : List (κ × V)} {k : κ} (v : V) (h : (valV kvs k).isSome = true) : putK kvs k v = kvs.map fun x => if x.1 = k then (x.1, v) else x := by
  unfold putK
  rw [valV_any, if_pos h]
/-- a store, in its place or at the end -/
theorem ML.put {α : Type} [DecidableEq α] {H : Hp} {g : α → NestedKey} {val val' : α → List NestedKey} {keys : List α} {kvs : List (NestedKey × V)} (h : ML K H g val keys kvs) (gi : ∀ a b, g a = g b → a = b) {t : α} {v : V} (hv : LVal K H (val' t) v) (ho : ∀ u ∈ keys, u ≠ t → val' u = val u) :
    ∃ keys', (∀ u, u ∈ keys' ↔ u ∈ keys ∨ u = t) ∧ keys'.length ≤ keys.length + 1 ∧ (keys.Nodup → keys'.Nodup) ∧ ML K H g val' keys' (putK kvs (g t) v) := by
  by_cases m : t ∈ keys
  · obtain ⟨z, e1, _⟩ := h.get gi m
    refine ⟨keys, fun u => ⟨.inl, fun q => q.elim id fun e => by rw [e]; exact m⟩, Nat.le_succ _, id, ?_⟩
    rw [putK_in v (by rw [e1]; rfl)]
    clear e1 m
    unfold ML at h ⊢
    induction h with
    | nil => exact .nil
    | @cons p q ps qs hpq _ ih =>
      rw [List.map_cons]
      refine .cons ?_ (ih fun u hu => ho u (List.mem_cons_of_mem _ hu))
      by_cases e : p = t
      · subst e
        rw [if_pos hpq.1]
        exact ⟨hpq.1, hv⟩
      · have e2 : ¬ q.1 = g t := fun z => e (gi _ _ (hpq.1.symm.trans z))
        rw [if_neg e2]
        exact ⟨hpq.1, by rw [ho p List.mem_cons_self e]; exact hpq.2⟩
  · refine ⟨keys ++ [t], fun u => by simp, by simp, fun nd => List.nodup_append.mpr ⟨nd, by simp, fun a ha b hb e => m (by rw [List.mem_singleton.mp hb] at e; rw [← e]; exact ha)⟩, ?_⟩
    rw [putK_new _ (h.none gi m)]
    refine Paired.snoc ?_ ⟨rfl, hv⟩
    unfold ML at h
    clear hv
    induction h with
    | nil => exact .nil
    | @cons p q ps qs hpq _ ih =>
      refine .cons ⟨hpq.1, by rw [ho p List.mem_cons_self fun e => m (by rw [e]; exact List.mem_cons_self)]; exact hpq.2⟩ (ih (fun u hu => ho u (List.mem_cons_of_mem _ hu)) fun z => m (List.mem_cons_of_mem _ z))
/-- whence one comes, by edges -/
def prOf (es : List (St4 × St4)) (u : St4) : List St4 := (es.filter fun e => decide (e.2 = u)).map (·.1)
omit K in
theorem prOf_snoc (es : List (St4 × St4)) (t u v : St4) : prOf (es ++ [(t, u)]) v = if u = v then prOf es v ++ [t] else prOf es v := by
  unfold prOf
  rw [List.filter_append, List.map_append]
  by_cases e : u = v
  · rw [if_pos e]; simp [e]
  · rw [if_neg e]; simp [e]
omit K in
theorem mem_prOf {es : List (St4 × St4)} {t u : St4} : t ∈ prOf es u ↔ (t, u) ∈ es := by
  unfold prOf
  rw [List.mem_map]
  constructor
  · rintro ⟨e, he, rfl⟩
    obtain ⟨h1, h2⟩ := List.mem_filter.mp he
    have : e.2 = u := of_decide_eq_true h2
    rw [← this]
    exact h1
  · intro h
    exact ⟨(t, u), List.mem_filter.mpr ⟨h, decide_eq_true rfl⟩, rfl⟩
omit K in
theorem prOf_len (es : List (St4 × St4)) (u : St4) : (prOf es u).length ≤ es.length := by
  unfold prOf
  rw [List.length_map]
  exact List.length_filter_le _ _
def edgesOf (val : St4 → List St4) (keys : List St4) : List (St4 × St4) := keys.flatMap fun t => (val t).map fun u => (t, u)
/-- the found ones, by the edges -/
structure SrcAt (P : Program) (w : World) (K : PySem.W.Frag) (H H' : Hp) (d : Addr) (es : List (St4 × St4)) : Prop where
  same : Same H H'
  d0 : H d = none
  dd : ∃ ks kv, ND P w K H' d kv ∧ ML K H' sk (fun u => (prOf es u).map sk) ks kv ∧ (∀ u, u ∈ ks ↔ ∃ t, (t, u) ∈ es) ∧ ks.length ≤ es.length
theorem SrcAt.on {H H' H2 : Hp} {d : Addr} {es : List (St4 × St4)} (A : SrcAt P w K H H' d es) (s : Same H' H2) : SrcAt P w K H H2 d es := by
  obtain ⟨ks, kv, h1, h2, h3, h4⟩ := A.dd
  exact ⟨sametr A.same s, A.d0, ks, kv, h1.same s, h2.tx (.same s), h3, h4⟩
theorem sc_sources : FnScope ["goals", "found", "stand", "some", "there"] ["goals"] (defScope s_sources) := ⟨rfl, rfl, rfl, by decide +kernel, rfl, by decide +kernel, by decide +kernel⟩
def sp_sources (P : Program) (w : World) (K : PySem.W.Frag) : Sp := fun vs H Q _ => ∃ d o xs keys, ∃ val : St4 → List St4, vs = [.ref d] ∧ NDf P w K H d o xs ∧ ML K H sk (fun t => (val t).map sk) keys (kvOf xs) ∧ (∀ t ∈ keys, (val t).length ≤ 8) ∧ keys.length ≤ 200 ∧
  ∀ d2 o2 xs2 ks (pr : St4 → List St4) H', Same H H' → NDf P w K H' d2 o2 xs2 → ML K H' sk (fun u => (pr u).map sk) ks (kvOf xs2) → (∀ t u, (u ∈ ks ∧ t ∈ pr u) ↔ (t ∈ keys ∧ u ∈ val t)) → (∀ u, (pr u).length ≤ 1600) → Q (.ref d2) H'
theorem ok_sources (T : Txt K mg C S tH tP) (F : FnP K "sources" "sources" s_sources f fd) : FnOk P w K mg base CX0 1 f fd ["goals"] (sp_sources P w K) := by
  refine F.ok sc_sources (fun vs H Q E h => ?_) (fun cdv A outer s H vs Q E hr h => ⟨_, PSs.nox ((pss_cons (ps_set (i := 1) sc_sources.nd rfl (.inl rfl) (pe_nnewK P w K ⟨rfl, rfl, rfl⟩))
  (pss_cons (ps_for PassesOwn.never rfl (pi_PK P w K ⟨rfl, rfl, rfl⟩ (pv 0)) (pg_tupK (n := 2) P w K ⟨rfl, rfl, rfl⟩ (by rfl) (pgs_cons (pg_name (i := 2) sc_sources.nd rfl (.inl rfl)) (pgs_cons (pg_name (i := 3) sc_sources.nd rfl (.inl rfl)) pgs_nil)))
    (pss_one (ps_for PassesOwn.never rfl (pi_LDK P w K ⟨rfl, rfl, rfl⟩ (pv 3)) (pg_name (i := 4) sc_sources.nd rfl (.inl rfl))
    (pss_one (ps_asg (pe_frz (pe_op op_catS (pe_nget2K P w K ⟨rfl, rfl, rfl⟩ hr (pv 1) (pv 4) (pe_lst pa_nil) ⟨rfl, rfl, rfl, rfl⟩) (pe_lst (pa_cons (pv 2) pa_nil)))) (pg_sub (pv 1) (pv 4) (set_ndK P w K ⟨rfl, rfl, rfl⟩ hr)))))))
  (pss_one (ps_frz (ps_ret (pv 1))))))), ?_⟩)
  · obtain ⟨d, o, xs, keys, val, rfl, _⟩ := h
    rfl
  obtain ⟨d, o, xs, keys, val, rfl, nf, ml, v8, k200, q⟩ := h
  have small : 4000 < sizeLine := by decide
  have kl : xs.length = keys.length := by rw [← ml.len, kvOf_len]
  intro d2 H1 hd2 ho1 s1 nd1
  have el : ∀ i, (edgesOf val (keys.take i)).length ≤ 1600 := fun i => by
    have h1 := flat_len (f := fun t => (val t).map fun u => (t, u)) (m := 8) (keys.take i) fun t ht => by
      rw [List.length_map]
      exact v8 t (List.mem_of_mem_take ht)
    rw [List.length_take] at h1
    unfold edgesOf
    omega
  refine ⟨.ref d, rfl, d, o, xs, rfl, s1 _ _ nf.1, for_it walk_P (fun i σ H' => SrcAt P w K H H' d2 (edgesOf val (keys.take i)) ∧ H' d = some (.frz o (dctO P w d xs)) ∧ ∃ y2 y3 y4, σ = [some (.ref d), some (.ref d2), y2, y3, y4])
    ⟨⟨s1, hd2, [], [], nd1, .nil, (by simp [edgesOf]), Nat.zero_le _⟩, s1 _ _ nf.1, _, _, _, rfl⟩ (fun i σ H' _ pv => pv.2.1) (fun i x σ H2 H3 hi pv y => ?_) (fun σ H2 pv => ?_)⟩
  · obtain ⟨A, f2, y2, y3, y4, rfl⟩ := pv
    obtain ⟨T1, en, een, rfl, hT, rfl⟩ := y
    have hi' : i < keys.length := by omega
    -- the entry
    have hpair : ∃ p q, keys[i]? = some p ∧ (kvOf xs)[i]? = some q ∧ q.1 = sk p ∧ LVal K H ((val p).map sk) q.2 := by
      have e1 : (kvOf xs)[i]? = some (en.1, en.2.2) := by unfold kvOf; rw [List.getElem?_map, een]; rfl
      obtain ⟨q', hq, hr⟩ := paired_get ml (List.getElem?_eq_getElem hi')
      exact ⟨_, q', List.getElem?_eq_getElem hi', hq, hr.1, hr.2⟩
    obtain ⟨t, en2, et, eq2, ek1, lv⟩ := hpair
    have eq3 : en2 = (en.1, en.2.2) := by
      unfold kvOf at eq2
      rw [List.getElem?_map, een] at eq2
      exact (Option.some.inj eq2).symm
    subst eq3
    dsimp only at ek1 lv
    have s3 : Same H2 (upd H2 T1 (.tup [.ref en.2.1, en.2.2])) := same_new hT
    have A3 := A.on s3
    have dk : DV K (upd H2 T1 (.tup [.ref en.2.1, en.2.2])) (sk t) (.ref en.2.1) := by
      rw [← ek1]
      exact (nf.2 en (List.mem_of_getElem? een)).1.tx (.same A3.same)
    have lv3 := lv.tx (.same A3.same)
    obtain ⟨lb, lo, lus, elb, g1, g2⟩ := lv3
    have f3 := s3 _ _ f2
    have tk : keys.take (i + 1) = keys.take i ++ [t] := by rw [List.take_add_one, et]; rfl
    have ee : edgesOf val (keys.take (i + 1)) = edgesOf val (keys.take i) ++ (val t).map fun u => (t, u) := by
      rw [tk]
      unfold edgesOf
      rw [List.flatMap_append]
      simp
    have vt8 : (val t).length ≤ 8 := v8 t (List.mem_of_getElem? et)
    have el0 := el i
    refine ⟨T1, _, rfl, SqT.of upd_same, rfl, .ref en.2.1, _, rfl, en.2.2, _, rfl, rfl, en.2.2, rfl, lb, lus, _, elb, .inl (.inr ⟨lo, g1⟩), g2, fun J wk => ?_⟩
    generalize upd H2 T1 (.tup [.ref en.2.1, en.2.2]) = H3 at s3 A3 dk g1 g2 f3 wk ⊢
    refine for_it wk (fun j σ H' => SrcAt P w K H H' d2 (edgesOf val (keys.take i) ++ ((val t).take j).map fun u => (t, u)) ∧ TX H3 H' ∧ H' d = some (.frz o (dctO P w d xs)) ∧ ∃ y4, σ = [some (.ref d), some (.ref d2), some (.ref en.2.1), some en.2.2, y4])
      ⟨by simpa using A3, .refl _, f3, _, rfl⟩ (fun j σ H' _ pv => ⟨.inl (.inr ⟨lo, pv.2.1.frz _ _ _ g1⟩), pv.2.1⟩) (fun j x σ H4 H5 hj pv y => ?_) (fun σ H4 pv => ?_)
    · obtain ⟨A4, t4, f4, y4, rfl⟩ := pv
      obtain ⟨rfl, k0, ek0, dx⟩ := y
      obtain ⟨hj', ek0⟩ := map_get start4 ek0
      subst ek0
      have ej : (val t).take (j + 1) = (val t).take j ++ [(val t).getD j start4] := by
        rw [List.take_add_one, List.getElem?_eq_getElem hj', getD_lt hj']
        rfl
      rw [ej, List.map_append, ← List.append_assoc, List.map_cons, List.map_nil]
      have esl : (edgesOf val (keys.take i) ++ ((val t).take j).map fun u => (t, u)).length ≤ 1608 := by
        rw [List.length_append, List.length_map, List.length_take]
        omega
      generalize (val t).getD j start4 = u at dx
      generalize edgesOf val (keys.take i) ++ ((val t).take j).map (fun u => (t, u)) = es at A4 esl
      obtain ⟨ks, kv, n4, m4, kin, ksl⟩ := A4.dd
      have ng := nget_of n4.r dx (sk_depth u)
      -- found.get(there, []) + [stand]
      refine ⟨.ref d2, rfl, d2, kv, rfl, n4.r, x, rfl, Nat.zero_le _, fun e0 he0 => ?_⟩
      have s5 : Same H5 (upd H5 e0 (.lst [])) := same_new he0
      obtain ⟨ys, hys, dys, rdy⟩ : ∃ ys, (∃ b, (valV kv (sk u)).getD (.ref e0) = .ref b ∧ Rd (upd H5 e0 (.lst [])) b (.lst ys)) ∧ DVs K (upd H5 e0 (.lst [])) ((prOf es u).map sk) ys ∧ ys.length ≤ 1608 := by
        by_cases m : u ∈ ks
        · obtain ⟨z, e1, ⟨b, ob, bs, rfl, r1, r2⟩⟩ := m4.get sk_inj m
          refine ⟨bs, ⟨b, by rw [e1]; rfl, .inr ⟨ob, s5 _ _ r1⟩⟩, r2.tx (.same s5), ?_⟩
          rw [r2.length, List.length_map]
          exact Nat.le_trans (prOf_len es u) esl
        · have e0' : prOf es u = [] := by
            cases q' : prOf es u with
            | nil => rfl
            | cons z zs =>
              exact absurd ((kin u).mpr ⟨z, mem_prOf.mp (by rw [q']; exact List.mem_cons_self)⟩) m
          refine ⟨[], ⟨e0, by rw [m4.none sk_inj m]; rfl, .inl upd_same⟩, by rw [e0']; exact dvs_nil, Nat.zero_le _⟩
      obtain ⟨b, eb, rb⟩ := hys
      refine ⟨_, n4.same s5 |>.r |> fun n => nget_of n (dx.tx (.same s5)) (sk_depth u), .ref en.2.1, rfl, (by show 1 ≤ sizeLine; decide), fun e1 he1 => ?_⟩
      have s6 : Same (upd H5 e0 (.lst [])) (upd (upd H5 e0 (.lst [])) e1 (.lst [.ref en.2.1])) := same_new he1
      refine ⟨b, e1, ys, [.ref en.2.1], eb, rfl, ?_, .inl upd_same, (by simp only [List.length_cons, List.length_nil]; omega), fun p hp => ⟨p, _, rfl, upd_same, trivial, fun ob => ?_⟩⟩
      · rcases rb with r | ⟨ob, r⟩
        · exact .inl (s6 _ _ r)
        · exact .inr ⟨ob, s6 _ _ r⟩
      have s7 : Same _ (upd (upd (upd H5 e0 (.lst [])) e1 (.lst [.ref en.2.1])) p (.lst (ys ++ [.ref en.2.1]))) := same_new hp
      have s57 := sametr s5 (sametr s6 s7)
      have A7 := A4.on s57
      have p0 : H p = none := (sametr A4.same (sametr s5 s6)).free hp
      have dp : d2 ≠ p := by
        obtain ⟨xs', hx, _⟩ := n4
        exact ne_of_none (s6 _ _ (s5 _ _ hx)) hp
      generalize hH7 : upd (upd (upd H5 e0 (.lst [])) e1 (.lst [.ref en.2.1])) p (.lst (ys ++ [.ref en.2.1])) = H7 at s7 s57 A7
      have e7 : H7 p = some (.lst (ys ++ [.ref en.2.1])) := by rw [← hH7, upd_same]
      have t8 : TX H7 (upd H7 p (.frz ob (.lst (ys ++ [.ref en.2.1])))) := TX.lst e7
      have t58 : TX H5 (upd H7 p (.frz ob (.lst (ys ++ [.ref en.2.1])))) := (TX.same s57).trans t8
      have dys7 : DVs K H7 ((prOf es u).map sk) ys := dys.tx (.same (sametr s6 s7))
      have lv8 : LVal K (upd H7 p (.frz ob (.lst (ys ++ [.ref en.2.1])))) ((prOf (es ++ [(t, u)]) u).map sk) (.ref p) := by
        refine ⟨p, ob, _, rfl, upd_same, ?_⟩
        rw [prOf_snoc, if_pos rfl, List.map_append]
        exact ((dys7.snoc (dk.tx (t4.trans (.same s57)))).tx t8)
      obtain ⟨ks7, kv7, n7, m7, kin7, ksl7⟩ := A7.dd
      refine ⟨.ref d2, rfl, x, rfl, d2, _, kv7, rfl, n7.keep t8 (upd_ne dp), dx.tx t58, sk_depth u, ?_, fun H9 ho9 t9 nd9 => ?_⟩
      · rw [m7.len]; omega
      obtain ⟨ks', k1, k2, _, k4⟩ := ((m7.tx t8).tx t9).put sk_inj (val' := fun v => (prOf (es ++ [(t, u)]) v).map sk) (lv8.tx t9) fun v _ hv => by
        rw [prOf_snoc, if_neg fun e => hv e.symm]
      refine ⟨⟨fun c o' z => ?_, hd2, ks', _, nd9, k4, fun v => ?_, ?_⟩, t4.trans (t58.trans t9), ?_, _, rfl⟩
      · have ne1 : c ≠ d2 := fun e => by rw [e, hd2] at z; cases z
        have ne2 : c ≠ p := fun e => by rw [e, p0] at z; cases z
        rw [ho9 c ne1, upd_ne ne2]
        exact A7.same _ _ z
      · rw [k1, kin7]
        constructor
        · rintro (⟨t', h'⟩ | e)
          · exact ⟨t', List.mem_append_left _ h'⟩
          · exact ⟨t, by rw [e]; simp⟩
        · rintro ⟨t', h'⟩
          rcases List.mem_append.mp h' with h' | h'
          · exact .inl ⟨t', h'⟩
          · have e := List.mem_singleton.mp h'
            injection e with _ e
            exact .inr e
      · rw [List.length_append]
        simp only [List.length_cons, List.length_nil]
        omega
      · exact t9.frz _ _ _ (t58.frz _ _ _ f4)
    · obtain ⟨A4, t4, f4, y4, rfl⟩ := pv
      rw [List.length_map, List.take_length] at A4
      rw [ee]
      exact ⟨A4, f4, _, _, _, rfl⟩
  · obtain ⟨A, f2, y2, y3, y4, rfl⟩ := pv
    rw [kl, List.take_length] at A
    have el' := el keys.length
    rw [List.take_length] at el'
    obtain ⟨ks, kv, ⟨xk, n2, rfl, kk2⟩, m2, kin, ksl⟩ := A.dd
    refine ⟨d2, _, n2, trivial, fun od => ⟨.ref d2, rfl, ?_⟩⟩
    have t3 : TX H2 (upd H2 d2 (.frz od (dctO P w d2 xk))) := TX.mut (by rw [n2]; trivial)
    refine q d2 od xk ks (prOf (edgesOf val keys)) _ (same_upd A.same hd2) ⟨upd_same, kk2.tx t3⟩ (m2.tx t3) (fun t u => ?_) fun u => Nat.le_trans (prOf_len _ u) el'
    rw [mem_prOf, kin]
    unfold edgesOf
    constructor
    · rintro ⟨_, h1⟩
      obtain ⟨t', ht', hm⟩ := List.mem_flatMap.mp h1
      obtain ⟨u', hu', e⟩ := List.mem_map.mp hm
      injection e with e1 e2
      subst e1 e2
      exact ⟨ht', hu'⟩
    · rintro ⟨h1, h2⟩
      have hm : (t, u) ∈ keys.flatMap fun t => (val t).map fun u => (t, u) := List.mem_flatMap.mpr ⟨t, h1, List.mem_map.mpr ⟨u, h2, rfl⟩⟩
      exact ⟨⟨t, hm⟩, hm⟩
end
end K14

/-! W19: needs_of. -/
namespace K14
open PySem PySem.Spec PyProof.Rows L2
/-! ### dicts from stands to numbers -/
def nmK (F : List (St4 × Nat)) : List (NestedKey × V) := F.map fun e => (sk e.1, iv e.2)
theorem nmK_out : ∀ {F : List (St4 × Nat)} {t : St4}, t ∉ F.map (·.1) → valV (nmK F) (sk t) = none
  | [], _, _ => rfl
  | e :: F, t, h => by
    have n1 : ¬ sk e.1 = sk t := fun z => h (by rw [← sk_inj _ _ z]; exact List.mem_cons_self)
    show valV ((sk e.1, iv e.2) :: nmK F) (sk t) = none
    rw [valV_neg (p := (sk e.1, iv e.2)) n1]
    exact nmK_out fun z => h (List.mem_cons_of_mem _ z)
theorem nmK_in : ∀ {F : List (St4 × Nat)} {t : St4} {j : Nat}, (F.map (·.1)).Nodup → (t, j) ∈ F → valV (nmK F) (sk t) = some (iv j)
  | e :: F, t, j, nd, h => by
    show valV ((sk e.1, iv e.2) :: nmK F) (sk t) = _
    rw [List.map_cons, List.nodup_cons] at nd
    rcases List.mem_cons.mp h with z | z
    · rw [valV_pos (p := (sk e.1, iv e.2)) (by rw [← z])]
      rw [← z]
    · have n1 : ¬ sk e.1 = sk t := fun y => nd.1 (by rw [sk_inj _ _ y]; exact List.mem_map.mpr ⟨(t, j), z, rfl⟩)
      rw [valV_neg (p := (sk e.1, iv e.2)) n1]
      exact nmK_in nd.2 z
theorem nmK_put {F : List (St4 × Nat)} {t : St4} (j : Nat) (h : t ∉ F.map (·.1)) : putK (nmK F) (sk t) (iv j) = nmK (F ++ [(t, j)]) := by
  rw [putK_new _ (nmK_out h)]
  unfold nmK
  rw [List.map_append]
  rfl
theorem nmK_len (F : List (St4 × Nat)) : (nmK F).length = F.length := List.length_map _
section
open Classical in
/-- what d.get(u, []) gives -/
noncomputable def predsOf (ks : List St4) (pr : St4 → List St4) (u : St4) : List St4 := if u ∈ ks then pr u else []
theorem mem_predsOf {ks keys : List St4} {pr val : St4 → List St4} (h : ∀ t u, (u ∈ ks ∧ t ∈ pr u) ↔ (t ∈ keys ∧ u ∈ val t)) (t u : St4) : t ∈ predsOf ks pr u ↔ t ∈ keys ∧ u ∈ val t := by
  rw [← h]
  unfold predsOf
  by_cases m : u ∈ ks
  · rw [if_pos m]; exact ⟨fun z => ⟨m, z⟩, fun z => z.2⟩
  · rw [if_neg m]; exact ⟨(fun z => nomatch z), fun z => absurd z.1 m⟩
theorem predsOf_len {ks : List St4} {pr : St4 → List St4} {n : Nat} (h : ∀ u, (pr u).length ≤ n) (u : St4) : (predsOf ks pr u).length ≤ n := by
  unfold predsOf
  split
  · exact h u
  · exact Nat.zero_le _
theorem get_lst {K : PySem.W.Frag} {H : Hp} {ks : List St4} {pr : St4 → List St4} {kv : List (NestedKey × V)} (m : ML K H sk (fun u => (pr u).map sk) ks kv) (u : St4) {e0 : Addr} (he0 : H e0 = none) :
    ∃ b ys, (valV kv (sk u)).getD (.ref e0) = .ref b ∧ Rd (upd H e0 (.lst [])) b (.lst ys) ∧ DVs K (upd H e0 (.lst [])) ((predsOf ks pr u).map sk) ys := by
  have s5 : Same H (upd H e0 (.lst [])) := same_new he0
  unfold predsOf
  by_cases hm : u ∈ ks
  · obtain ⟨z, e1, ⟨b, ob, bs, rfl, r1, r2⟩⟩ := m.get sk_inj hm
    rw [if_pos hm]
    exact ⟨b, bs, by rw [e1]; rfl, .inr ⟨ob, s5 _ _ r1⟩, r2.tx (.same s5)⟩
  · rw [if_neg hm]
    exact ⟨e0, [], by rw [m.none sk_inj hm]; rfl, .inl upd_same, dvs_nil⟩
end
theorem range_filter {α : Type} {l : List α} {n : Nat} {g : α → NestedKey} {p : α → Bool} (d : α) (e : n = l.length) : ((List.range n).filterMap fun i => if p (l.getD i d) = true then some (g (l.getD i d)) else none) = (l.filter p).map g := by
  subst e
  induction l with
  | nil => rfl
  | cons x l ih =>
    rw [List.length_cons, List.range_succ_eq_map, List.filterMap_cons, List.filterMap_map, List.filter_cons]
    have e2 : (fun i => if p ((x :: l).getD (i + 1) d) = true then some (g ((x :: l).getD (i + 1) d)) else none) = fun i => if p (l.getD i d) = true then some (g (l.getD i d)) else none := by
      funext i
      rfl
    have e3 : ((fun i => if p ((x :: l).getD i d) = true then some (g ((x :: l).getD i d)) else none) ∘ Nat.succ) = fun i => if p (l.getD i d) = true then some (g (l.getD i d)) else none := by
      rw [← e2]
      rfl
    rw [e3, ih]
    by_cases q : p x = true
    · rw [show (x :: l).getD 0 d = x from rfl, if_pos q, if_pos q]
      rfl
    · rw [show (x :: l).getD 0 d = x from rfl, if_neg q, if_neg q]
theorem dom_app (F : List (St4 × Nat)) (N : List St4) (m : Nat) (t : St4) : t ∈ (F ++ N.map fun x => (x, m)).map (·.1) ↔ t ∈ F.map (·.1) ∨ t ∈ N := by
  rw [List.map_append, List.map_map, List.mem_append]
  have e : N.map ((·.1) ∘ fun x => ((x, m) : St4 × Nat)) = N := by
    conv => rhs; rw [← List.map_id N]
    rfl
  rw [e]
theorem entry_at {P : Program} {w : World} {K : PySem.W.Frag} {H : Hp} {d : Addr} {o : Obj} {xs : List Ent} {keys : List St4} {val : St4 → List NestedKey} (nf : NDf P w K H d o xs) (ml : ML K H sk val keys (kvOf xs)) {i : Nat} {en : Ent} (e : xs[i]? = some en) :
    ∃ t, keys[i]? = some t ∧ DV K H (sk t) (.ref en.2.1) ∧ LVal K H (val t) en.2.2 := by
  have kl : xs.length = keys.length := by rw [← ml.len, kvOf_len]
  have hi : i < keys.length := by
    have := (List.getElem?_eq_some_iff.mp e).1
    omega
  have e1 : (kvOf xs)[i]? = some (en.1, en.2.2) := by unfold kvOf; rw [List.getElem?_map, e]; rfl
  obtain ⟨q', hq, hr⟩ := paired_get ml (List.getElem?_eq_getElem hi)
  rw [e1] at hq
  cases hq
  refine ⟨_, List.getElem?_eq_getElem hi, ?_, hr.2⟩
  rw [← show en.1 = sk keys[i] from hr.1]
  exact (nf.2 en (List.mem_of_getElem? e)).1
theorem clo_in {keys layer : List St4} {pred : St4 → List St4} {ok : St4 → Prop} (h1 : ∀ t ∈ layer, t ∈ keys) (h2 : ∀ t u, t ∈ pred u → t ∈ keys) {t : St4} (c : Clo (fun x => x ∈ layer) ok pred t) : t ∈ keys := by
  cases c with
  | base i _ => exact h1 _ i
  | step _ hs _ => exact h2 _ _ hs
section
variable {P : Program} {w : World} {K : PySem.W.Frag} {mg : Str → Option Value} {base : Heap} {C S : Addr} {tH tP : Tok} {f : Addr} {fd : FuncData}
theorem sc_needs_of : FnScope ["come", "sent", "wrong", "by_come", "found", "goals", "stand", "some", "by_sent", "layer", "many", "waiting", "later", "index", "there"] ["come", "sent", "wrong"] (defScope s_needs_of) := ⟨rfl, rfl, rfl, by decide +kernel, rfl, by decide +kernel, by decide +kernel⟩
def sp_needs_of (P : Program) (w : World) (K : PySem.W.Frag) : Sp := fun vs H Q _ => ∃ h p dc ds lw us keys, ∃ W : List St4, vs = [.ref dc, .ref ds, .ref lw] ∧ h.Ok ∧ h.K ≤ 3 ∧ Moves P w K h p H dc ds keys ∧ keys.Nodup ∧ keys.length ≤ 200 ∧ (∀ t, t ∈ keys ↔ Come h p t) ∧ SqL K H lw us ∧ DVs K H (W.map sk) us ∧ W.length ≤ 200 ∧
  (∀ t, t ∈ W ↔ t ∈ keys ∧ Wrong h p t) ∧ ∀ d F H', Same H H' → H d = none → ND P w K H' d (nmK F) → (F.map (·.1)).Nodup → (∀ t ∈ keys, ∀ j, (t, j) ∈ F ↔ Dist h p j t) → (∀ e ∈ F, e.1 ∈ keys ∧ e.2 ≤ 200) → Q (.ref d) H'
/-- the two piles and the found ones -/
structure NdAt (P : Program) (w : World) (K : PySem.W.Frag) (H H' : Hp) (d l1 l2 : Addr) (F : List (St4 × Nat)) (ws la : List St4) : Prop where
  same : Same H H'
  d0 : H d = none
  l10 : H l1 = none
  l20 : H l2 = none
  n1 : d ≠ l1
  n2 : d ≠ l2
  n3 : l1 ≠ l2
  dd : ND P w K H' d (nmK F)
  ww : ∃ us, H' l1 = some (.lst us) ∧ DVs K H' (ws.map sk) us
  ll : ∃ us, H' l2 = some (.lst us) ∧ DVs K H' (la.map sk) us
theorem NdAt.on {H H' H2 : Hp} {d l1 l2 : Addr} {F : List (St4 × Nat)} {ws la : List St4} (A : NdAt P w K H H' d l1 l2 F ws la) (s : Same H' H2) : NdAt P w K H H2 d l1 l2 F ws la := by
  obtain ⟨us, a1, a2⟩ := A.ww
  obtain ⟨vs, b1, b2⟩ := A.ll
  exact ⟨sametr A.same s, A.d0, A.l10, A.l20, A.n1, A.n2, A.n3, A.dd.same s, ⟨us, s _ _ a1, a2.tx (.same s)⟩, ⟨vs, s _ _ b1, b2.tx (.same s)⟩⟩
theorem ok_needs_of (T : Txt K mg C S tH tP) (F : FnP K "needs_of" "needs_of" s_needs_of f fd) (g_sources : Ok P w K mg base "sources" 1 ["goals"] (sp_sources P w K)) : FnOk P w K mg base CX0 2 f fd ["come", "sent", "wrong"] (sp_needs_of P w K) := by
  refine F.ok sc_needs_of (fun vs H Q E h => ?_) (fun cdv A outer s H vs Q E hr h => ⟨_, PSs.nox ((pss_cons (ps_set (i := 3) sc_needs_of.nd rfl (.inl rfl) (pe_callO g_sources (hr.mono (by decide)) rfl (pa_cons (pv 0) pa_nil)))
  (pss_cons (ps_set (i := 4) sc_needs_of.nd rfl (.inr rfl) (pe_nnewK P w K ⟨rfl, rfl, rfl⟩))
  (pss_cons (ps_set (i := 5) sc_needs_of.nd rfl (.inl rfl) (pe_nnewK P w K ⟨rfl, rfl, rfl⟩))
  (pss_cons (ps_for PassesOwn.never rfl (pi_PK P w K ⟨rfl, rfl, rfl⟩ (pv 1)) (pg_tupK (n := 2) P w K ⟨rfl, rfl, rfl⟩ (by rfl) (pgs_cons (pg_name (i := 6) sc_needs_of.nd rfl (.inl rfl)) (pgs_cons (pg_name (i := 7) sc_needs_of.nd rfl (.inl rfl)) pgs_nil)))
    (pss_one (ps_asg (pe_frz (pe_lc (own := [("index", 13), ("there", 14)]) (by rfl) sc_needs_of.nd (pi_LDK P w K ⟨rfl, rfl, rfl⟩ (pv 7)) (blkOk_by (own := [("index", 13), ("there", 14)]) (N := ["come", "sent", "wrong", "by_come", "found", "goals", "stand", "some", "by_sent", "layer", "many", "waiting", "later", "index", "there"]) (sc := defScope s_needs_of) (by decide +kernel)) (fun _ _ _ _ _ => (pg_tupK (n := 2) P w K ⟨rfl, rfl, rfl⟩ (by rfl) (pgs_cons (pg_name (i := 13) sc_needs_of.nd rfl (Or.inl rfl)) (pgs_cons (pg_name (i := 14) sc_needs_of.nd rfl (Or.inl rfl)) pgs_nil)))) (fun _ _ _ _ _ => pts_nil) (fun _ _ _ _ _ => (pv 14)))) (pg_sub (pv 5) (pv 6) (set_ndK P w K ⟨rfl, rfl, rfl⟩ hr)))))
  (pss_cons (ps_frz (ps_par3 (i := 8) (j := 9) (l := 10) (by rfl) sc_needs_of.nd rfl rfl rfl (by decide) (by decide) (by decide) rfl rfl rfl (pa_cons (pe_callO g_sources (hr.mono (by decide)) rfl (pa_cons (pv 5) pa_nil)) (pa_cons (pv 2) (pa_cons pe_int pa_nil))) (by rfl)))
  (pss_cons (ps_while PassesOwn.never (pt_cmpR (op_nenilK P w K ⟨rfl, rfl, rfl⟩ hr) (pv 9) (pe_lst pa_nil) (nomark _))
    (pss_cons (ps_set (i := 11) sc_needs_of.nd rfl (.inl rfl) (pe_callTy (cr_listOfK P w K ⟨rfl, rfl, rfl⟩) (by rfl) T.z_list (by decide +kernel) (pa_cons (pv 9) pa_nil)))
  (pss_cons (ps_set (i := 12) sc_needs_of.nd rfl (.inl rfl) (pe_lst pa_nil))
  (pss_cons (ps_while PassesOwn.never (pt_cmpR (op_nenilK P w K ⟨rfl, rfl, rfl⟩ hr) (pv 11) (pe_lst pa_nil) (nomark _))
    (pss_cons (ps_set (i := 6) sc_needs_of.nd rfl (.inl rfl) (pe_bm0K P w K ⟨rfl, rfl, rfl⟩ PySem.F.plainAttrs_list PySem.F.slot_list_pop PySem.F.type_list_pop mt_pop (pv 11)))
  (pss_one (ps_if (pt_cmpR (op_nnotinK P w K ⟨rfl, rfl, rfl⟩ hr) (pv 6) (pv 4) rfl) (pss_cons (ps_asg (pv 10) (pg_sub (pv 4) (pv 6) (set_ndK P w K ⟨rfl, rfl, rfl⟩ hr)))
  (pss_cons (ps_expr (pe_bmK P w K ⟨rfl, rfl, rfl⟩ PySem.F.plainAttrs_list PySem.F.slot_list_extend PySem.F.type_list_extend mt_extS (pv 11) (pa_cons (pe_nget2K P w K ⟨rfl, rfl, rfl⟩ hr (pv 3) (pv 6) (pe_lst pa_nil) ⟨rfl, rfl, rfl, rfl⟩) pa_nil)))
  (pss_one (ps_expr (pe_bmK P w K ⟨rfl, rfl, rfl⟩ PySem.F.plainAttrs_list PySem.F.slot_list_extend PySem.F.type_list_extend mt_extS (pv 12) (pa_cons (pe_nget2K P w K ⟨rfl, rfl, rfl⟩ hr (pv 8) (pv 6) (pe_lst pa_nil) ⟨rfl, rfl, rfl, rfl⟩) pa_nil)))))) pss_nil))))
  (pss_cons (ps_setLc (i := 9) (own := [("stand", 6)]) (by rfl) sc_needs_of.nd rfl rfl (sw_true rfl rfl rfl (by decide +kernel)) (pi_LDK P w K ⟨rfl, rfl, rfl⟩ (pv 12)) (blkOk_by (own := [("stand", 6)]) (N := ["come", "sent", "wrong", "by_come", "found", "goals", "stand", "some", "by_sent", "layer", "many", "waiting", "later", "index", "there"]) (sc := defScope s_needs_of) (by decide +kernel)) (fun _ _ _ _ _ => (pg_name (i := 6) sc_needs_of.nd rfl (Or.inl rfl))) (fun _ _ _ _ _ => (pts_one (pt_cmpR (op_nnotinK P w K ⟨rfl, rfl, rfl⟩ hr) (pv 6) (pv 4) rfl))) (fun _ _ _ _ _ => (pv 6)))
  (pss_one (ps_set (i := 10) sc_needs_of.nd rfl (.inl rfl) (pe_op op_add (pv 10) pe_int))))))))
  (pss_one (ps_ret (pv 4)))))))))), ?_⟩)
  · obtain ⟨h, p, dc, ds, lw, us, keys, W, rfl, _⟩ := h
    rfl
  obtain ⟨h, p, dc, ds, lw, us, keys, W, rfl, o, k3, M, knd, kl, kc, sqw, dsw, wl, hW, q⟩ := h
  have small : 3000000 < sizeLine := by decide
  obtain ⟨oc, xc, fc, mc⟩ := M.cc
  obtain ⟨os, xs, fs, ms⟩ := M.ss
  refine ⟨.ref dc, rfl, dc, oc, xc, keys, fun t => comeAt h t, rfl, fc, mc, fun t _ => Nat.le_trans (comeAt_len h t) (by omega), kl, fun dbc obc xbc kbc prc H1 s1 fbc mbc hbc lbc => ?_⟩
  intro d H2 hd ho2 s2 nd2
  intro g H3 hg ho3 s3 ng3
  have s13 : Same H H3 := sametr s1 (sametr s2 s3)
  have dg : d ≠ g := by
    obtain ⟨x1, e1, _⟩ := nd2
    exact ne_of_none e1 hg
  have xl : xs.length = keys.length := by rw [← ms.len, kvOf_len]
  have d0 : H d = none := s1.free hd
  have g0 : H g = none := (sametr s1 s2).free hg
  -- goals
  refine ⟨.ref ds, rfl, ds, os, xs, rfl, s13 _ _ fs.1, for_it walk_P (fun i σ H' => Same H H' ∧ TX H3 H' ∧ ND P w K H' d [] ∧ (∃ kv, ND P w K H' g kv ∧ ML K H' sk (fun t => ((sentFrom h p t).map (·.2)).map sk) (keys.take i) kv) ∧ H' ds = some (.frz os (dctO P w ds xs)) ∧
      ∃ y6 y7, σ = [some (.ref dc), some (.ref ds), some (.ref lw), some (.ref dbc), some (.ref d), some (.ref g), y6, y7, none, none, none, none, none, none, none])
    ⟨s13, .refl _, nd2.same s3, ⟨[], ng3, .nil⟩, s13 _ _ fs.1, _, _, rfl⟩ (fun i σ H' _ pv => pv.2.2.2.2.1) (fun i x σ H4 H5 hi pv y => ?_) (fun σ H4 pv => ?_)⟩
  · obtain ⟨s4, t4, nd4, ⟨kv4, ng4, mg4⟩, f4, y6, y7, rfl⟩ := pv
    obtain ⟨T1, en, een, rfl, hT, rfl⟩ := y
    obtain ⟨t, et, dk, lv⟩ := entry_at fs ms een
    have s5 : Same H4 (upd H4 T1 (.tup [.ref en.2.1, en.2.2])) := same_new hT
    have s45 := sametr s4 s5
    have dk5 := dk.tx (.same s45)
    have tk : keys.take (i + 1) = keys.take i ++ [t] := by rw [List.take_add_one, et]; rfl
    have tin : t ∉ keys.take i := by
      have nd' : (keys.take (i + 1)).Nodup := knd.sublist (List.take_sublist _ _)
      rw [tk] at nd'
      intro z
      exact (List.nodup_append.mp nd').2.2 t z t (by simp) rfl
    obtain ⟨lb, lo, lus, elb, r1, r2⟩ := lv.tx (.same s45)
    have sl := sentFrom_len h p t
    refine ⟨T1, _, rfl, SqT.of upd_same, rfl, .ref en.2.1, _, rfl, en.2.2, _, rfl, rfl, en.2.2, rfl, lb, lus, _, elb, .inl (.inr ⟨lo, r1⟩), r2, fun J wk D hD => ?_⟩
    have f5 := s5 _ _ f4
    have nd5 := nd4.same s5
    have ng5 := ng4.same s5
    have mg5 := mg4.tx (.same s5)
    generalize upd H4 T1 (.tup [.ref en.2.1, en.2.2]) = H5 at s5 s45 dk5 r1 r2 wk hD f5 nd5 ng5 mg5 ⊢
    have sq5 : SqL K H5 lb lus := .inl (.inr ⟨lo, r1⟩)
    refine lc_dat (K := K) wk (fun j => some ((fun y : Nat × St4 => sk y.2) ((sentFrom h p t).getD j (0, start4)))) hD ?_ (fun H' s => ⟨s.seq sq5, .same s⟩) (fun j x H6 H7 Nx hj s6 yy no yes => ?_) (fun H6 us6 s6 hD6 ds6 => ?_)
    · unfold sentL
      rw [List.length_map]
      omega
    · obtain ⟨rfl, k, ek', dk'⟩ := yy
      obtain ⟨hi', ek'⟩ := map_get (0, start4) ek'
      subst ek'
      obtain ⟨a3, w1, w2, rfl, sq3, dw1, dw2⟩ := of_tup2 dk'
      exact ⟨a3, _, rfl, sq3, rfl, w1, _, rfl, w2, _, rfl, rfl, rfl, w2, rfl, yes _ _ _ rfl (fun _ _ z => z) dw2⟩
    · have ds7 : DVs K H6 (((sentFrom h p t).map (·.2)).map sk) us6 := by
        unfold sentL at ds6
        rw [List.length_map, range_map_get (l := sentFrom h p t) (g := fun y : Nat × St4 => sk y.2) (0, start4) rfl] at ds6
        rw [List.map_map]
        exact ds6
      have D0 : H D = none := s45.free hD
      have gD : g ≠ D := by
        obtain ⟨x1, e1, _⟩ := ng5
        exact ne_of_none e1 hD
      have dD : d ≠ D := by
        obtain ⟨x1, e1, _⟩ := nd5
        exact ne_of_none e1 hD
      refine ⟨D, _, rfl, hD6, trivial, fun oD => ⟨.ref g, rfl, .ref en.2.1, rfl, g, _, kv4, rfl, (ng5.same s6).keep (TX.lst hD6) (upd_ne gD), (dk5.tx (.same s6)).tx (TX.lst hD6), sk_depth t, ?_, fun H8 ho8 t8 nd8 => ?_⟩⟩
      · rw [mg4.len, List.length_take]; omega
      have t7 : TX H6 (upd H6 D (.frz oD (.lst us6))) := TX.lst hD6
      have t58 : TX H5 H8 := (TX.same s6).trans (t7.trans t8)
      refine ⟨fun c o' z => ?_, t4.trans ((TX.same s5).trans t58), (nd5.same s6).keep (t7.trans t8) ((ho8 _ dg).trans (upd_ne dD)), ⟨_, nd8, ?_⟩, t58.frz _ _ _ f5, _, _, rfl⟩
      · have ne1 : c ≠ g := fun e => by rw [e, g0] at z; cases z
        have ne2 : c ≠ D := fun e => by rw [e, D0] at z; cases z
        rw [ho8 c ne1, upd_ne ne2]
        exact s6 _ _ (s45 _ _ z)
      · rw [show NestedKey.tup [nk t.pl, nk t.s, nk t.o, lk t.held.toList] = sk t from rfl, putK_new _ (mg4.none sk_inj tin), tk]
        exact (mg5.tx t58).snoc ⟨D, oD, us6, rfl, t8.frz _ _ _ upd_same, (ds7.tx t7).tx t8⟩
  obtain ⟨s4, t4, nd4, ⟨kv4, ng4, mg4⟩, f4, y6, y7, rfl⟩ := pv
  rw [xl, List.take_length] at mg4
  obtain ⟨xg, ng5, rfl, kg⟩ := ng4
  refine ⟨g, _, ng5, trivial, fun og => ?_⟩
  have t5 : TX H4 (upd H4 g (.frz og (dctO P w g xg))) := TX.mut (by rw [ng5]; trivial)
  have s5 : Same H (upd H4 g (.frz og (dctO P w g xg))) := same_upd s4 g0
  have f5 : NDf P w K (upd H4 g (.frz og (dctO P w g xg))) g og xg := ⟨upd_same, kg.tx t5⟩
  have nd5 := nd4.keep t5 (upd_ne dg)
  have m5 := mg4.tx t5
  have t35 := t4.trans t5
  generalize upd H4 g (.frz og (dctO P w g xg)) = H5 at t5 s5 f5 nd5 m5 t35
  refine ⟨.ref g, rfl, g, og, xg, keys, fun t => (sentFrom h p t).map (·.2), rfl, f5, m5, fun t _ => ?_, kl, fun dbs obs xbs kbs prs H6 s6 fbs mbs hbs lbs => ⟨.ref lw, rfl, _, _, _, rfl, ?_⟩⟩
  · rw [List.length_map]
    have := sentFrom_len h p t
    omega
  have s06 := sametr s5 s6
  have fbc6 : NDf P w K H6 dbc obc xbc := fbc.tx (((TX.same (sametr s2 s3)).trans t35).trans (.same s6))
  have mbc6 : ML K H6 sk (fun u => (prc u).map sk) kbc (kvOf xbc) := mbc.tx (((TX.same (sametr s2 s3)).trans t35).trans (.same s6))
  have nd6 := nd5.same s6
  have dsw6 := dsw.tx (.same s06)
  have sqw6 := s06.seq sqw
  -- the layers
  have hC : ∀ t u, t ∈ predsOf kbc prc u ↔ t ∈ keys ∧ u ∈ comeAt h t := mem_predsOf hbc
  have hS : ∀ t u, t ∈ predsOf kbs prs u ↔ t ∈ keys ∧ ∃ k, (k, u) ∈ sentFrom h p t := fun t u => by
    rw [mem_predsOf hbs]
    refine and_congr_right fun _ => ?_
    rw [List.mem_map]
    exact ⟨fun ⟨e, he, e2⟩ => ⟨e.1, by rw [← e2]; exact he⟩, fun ⟨k, hk'⟩ => ⟨_, hk', rfl⟩⟩
  have hcl : ∀ t ∈ keys, ∀ u ∈ comeAt h t, u ∈ keys := fun t ht u hu => (kc u).mpr (((kc t).mp ht).come hu)
  have hsl : ∀ t ∈ keys, ∀ k u, (k, u) ∈ sentFrom h p t → u ∈ keys := fun t ht k u hu => (kc u).mpr (((kc t).mp ht).sent hu)
  refine while_ne (fun m σ H' => ∃ F layer many l us y6 y7 y11 y12, m = 2 * (keys.length - F.length) + (if layer = [] then 0 else 1) ∧ Same H H' ∧ TX H6 H' ∧ ND P w K H' d (nmK F) ∧ SqL K H' l us ∧ DVs K H' (layer.map sk) us ∧ layer.length ≤ 320000 ∧ many ≤ F.length ∧ NI h p keys F layer many ∧
      σ = [some (.ref dc), some (.ref ds), some (.ref lw), some (.ref dbc), some (.ref d), some (.ref g), y6, y7, some (.ref dbs), some (.ref l), some (iv many), y11, y12, none, none])
    ⟨_, [], W, 0, lw, us, y6, y7, none, none, rfl, s06, .refl _, nd6, sqw6, dsw6, by omega, Nat.le_refl _, NI.start hW, rfl⟩ ?_
  rintro m σ H7 ⟨Fo, layer, many, l, us7, y6, y7, y11, y12, rfl, s7, t7, nd7, sq7, ds7, ll7, mf7, I, rfl⟩
  refine ⟨l, us7, rfl, sq7, fun H8 s8 => ⟨fun e => ?_, fun e N hN => ?_⟩⟩
  · have e' : layer = [] := by
      have z := ds7.length
      rw [e, List.length_map] at z
      exact List.length_eq_zero_iff.mp z.symm
    subst e'
    have lF : Fo.length ≤ keys.length := by
      have := nodup_len (l := Fo.map (·.1)) (m := keys) I.nd fun x hx => by
        obtain ⟨⟨t, j⟩, h1, h2⟩ := List.mem_map.mp hx
        have h2' : t = x := h2
        subst h2'
        exact (I.a _ j h1).2.2
      rwa [List.length_map] at this
    refine ⟨.ref d, rfl, q d Fo H8 (sametr s7 s8) d0 (nd7.same s8) I.nd (fun t ht j => I.done hcl hsl ht j) fun e he => ⟨(I.a e.1 e.2 he).2.2, ?_⟩⟩
    have := (I.a e.1 e.2 he).1
    omega
  have lne : layer ≠ [] := fun z => e (by rw [z] at ds7; exact of_nil ds7)
  have kin : ∀ {x : St4}, Clo (fun x => x ∈ layer) (fun x => x ∉ Fo.map (·.1)) (predsOf kbc prc) x → x ∈ keys := fun c => clo_in (fun t ht => (I.c t ht).1) (fun t u hu => ((hC t u).mp hu).1) c
  have fsz : ∀ Nn : List St4, Nn.Nodup → (∀ x ∈ Nn, Clo (fun x => x ∈ layer) (fun x => x ∉ Fo.map (·.1)) (predsOf kbc prc) x) → Fo.length + Nn.length ≤ keys.length := fun Nn nd hcl' => by
    have := nodup_len (l := Fo.map (·.1) ++ Nn) (m := keys) (List.nodup_append.mpr ⟨I.nd, nd, fun a ha b hb e => by subst e; exact (hcl' a hb).ok ha⟩) fun x hx => by
      rcases List.mem_append.mp hx with hx | hx
      · obtain ⟨⟨t, j⟩, h1, h2⟩ := List.mem_map.mp hx
        have h2' : t = x := h2
        subst h2'
        exact (I.a _ j h1).2.2
      · exact kin (hcl' x hx)
    rw [List.length_append, List.length_map] at this
    exact this
  -- waiting = list(layer); later = []
  refine ⟨.ref l, rfl, l, us7, rfl, .inl (s8.seq sq7), fun l1 hl1 => ⟨Nat.zero_le _, fun l2 hl2 => ?_⟩⟩
  have s9 : Same H8 (upd H8 l1 (.lst us7)) := same_new hl1
  have s10 : Same (upd H8 l1 (.lst us7)) (upd (upd H8 l1 (.lst us7)) l2 (.lst [])) := same_new hl2
  have s810 := sametr s9 s10
  have s710 := sametr s8 s810
  have s010 := sametr s7 s710
  have l1_0 : H l1 = none := (sametr s7 s8).free hl1
  have l2_0 : H l2 = none := (sametr (sametr s7 s8) s9).free hl2
  have n1 : d ≠ l1 := by
    obtain ⟨x1, e1, _⟩ := nd7.same s8
    exact ne_of_none e1 hl1
  have n2 : d ≠ l2 := by
    obtain ⟨x1, e1, _⟩ := (nd7.same s8).same s9
    exact ne_of_none e1 hl2
  have n3 : l1 ≠ l2 := ne_of_none upd_same hl2
  have A10 : NdAt P w K H (upd (upd H8 l1 (.lst us7)) l2 (.lst [])) d l1 l2 Fo layer [] := ⟨s010, d0, l1_0, l2_0, n1, n2, n3, nd7.same s710, ⟨us7, s10 _ _ upd_same, ds7.tx (.same s710)⟩, ⟨[], upd_same, dvs_nil⟩⟩
  have t10 : TX H6 (upd (upd H8 l1 (.lst us7)) l2 (.lst [])) := t7.trans (.same s710)
  generalize upd (upd H8 l1 (.lst us7)) l2 (.lst []) = H10 at A10 t10 ⊢
  refine while_ne (fun m σ H' => ∃ (Nn ws la : List St4) (y6 : Option V), m = 1601 * (keys.length - (Fo.length + Nn.length)) + ws.length ∧ NdAt P w K H H' d l1 l2 (Fo ++ Nn.map fun x => (x, many)) ws la ∧ TX H6 H' ∧ DI (fun x => x ∈ layer) (fun x => x ∉ Fo.map (·.1)) (predsOf kbc prc) Nn ws ∧
      (∀ u, u ∈ la ↔ ∃ x ∈ Nn, u ∈ predsOf kbs prs x) ∧ la.length ≤ 1600 * Nn.length ∧ 1601 * (keys.length - (Fo.length + Nn.length)) + ws.length ≤ 700000 ∧
      σ = [some (.ref dc), some (.ref ds), some (.ref lw), some (.ref dbc), some (.ref d), some (.ref g), y6, y7, some (.ref dbs), some (.ref l), some (iv many), some (.ref l1), some (.ref l2), none, none])
    ⟨_, [], layer, [], y6, rfl, by simpa using A10, t10, DI.start fun x => Iff.rfl, fun u => by simp, Nat.zero_le _, by simp only [List.length_nil]; omega, rfl⟩ ?_
  rintro m2 σ H11 ⟨Nn, ws, la, z6, rfl, A11, t11, D11, hla, lla, bound, rfl⟩
  obtain ⟨us11, w11, dw11⟩ := A11.ww
  refine ⟨l1, us11, rfl, SqL.of w11, fun H12 s12 => ⟨fun e => ?_, fun e N2 hN2 => ?_⟩⟩
  · -- the layer is done
    have e' : ws = [] := by
      have z := dw11.length
      rw [e, List.length_map] at z
      exact List.length_eq_zero_iff.mp z.symm
    subst e'
    have A12 := A11.on s12
    obtain ⟨us12, v12, dl12⟩ := A12.ll
    have t12 : TX H6 H12 := t11.trans (.same s12)
    have fz := fsz Nn D11.nd D11.sub
    generalize hF' : Fo ++ Nn.map (fun x => (x, many)) = F' at A12
    have ndF : (F'.map (·.1)).Nodup := by
      rw [← hF', List.map_append, List.map_map]
      have e : Nn.map ((·.1) ∘ fun x => ((x, many) : St4 × Nat)) = Nn := by
        conv => rhs; rw [← List.map_id Nn]
        rfl
      rw [e]
      exact List.nodup_append.mpr ⟨I.nd, D11.nd, fun a ha b hb e => by subst e; exact (D11.sub a hb).ok ha⟩
    refine ⟨.ref l2, rfl, l2, us12, la.map sk, rfl, SqL.of v12, dl12, fun J wk D hD => lc_dat (K := K) wk (fun i => if (fun t : St4 => !decide (t ∈ F'.map (·.1))) (la.getD i start4) = true then some (sk (la.getD i start4)) else none) hD ?_ (fun H' s => ⟨s.seq (SqL.of v12), .same s⟩) (fun i x H13 H14 Nx hi s13 yy no yes => ?_) (fun H13 us13 s13 hD13 ds13 => ?_)⟩
    · rw [List.length_map]; omega
    · obtain ⟨rfl, k0, ek', dk'⟩ := yy
      obtain ⟨hi', ek'⟩ := map_get start4 ek'
      subst ek'
      have A13 := A12.on s13
      refine ⟨rfl, x, rfl, .ref d, rfl, d, _, rfl, nget_of A13.dd.r dk' (sk_depth _), _, rfl, ?_⟩
      generalize la.getD i start4 = t at dk' no yes
      rw [show valV (nmK F') (NestedKey.tup [nk t.pl, nk t.s, nk t.o, lk t.held.toList]) = valV (nmK F') (sk t) from rfl]
      by_cases m : t ∈ F'.map (·.1)
      · obtain ⟨⟨t', j⟩, h1, h2⟩ := List.mem_map.mp m
        have h2' : t' = t := h2
        subst h2'
        rw [nmK_in ndF h1]
        refine iteF (no ?_ _ fun _ _ z => z)
        rw [if_neg (by simp [m])]
      · rw [nmK_out m]
        refine iteT ⟨x, rfl, yes _ _ _ ?_ (fun _ _ z => z) dk'⟩
        rw [if_pos (by simp [m])]
    · have ds14 : DVs K H13 ((la.filter fun t => !decide (t ∈ F'.map (·.1))).map sk) us13 := by
        rw [List.length_map, range_filter (l := la) (g := sk) (p := fun t : St4 => !decide (t ∈ F'.map (·.1))) start4 rfl] at ds13
        exact ds13
      have A13 := A12.on s13
      have ne0 : Nn ≠ [] := by
        intro z
        cases layer with
        | nil => exact lne rfl
        | cons t r =>
          have c := (D11.done t).mpr (.base List.mem_cons_self (I.c t List.mem_cons_self).2.2)
          rw [z] at c
          exact nomatch c
      have pos : 0 < Nn.length := List.length_pos_iff.mpr ne0
      have I2 := I.next hC hS hcl hsl D11.nd D11.done (layer' := la.filter fun t => !decide (t ∈ F'.map (·.1))) fun t => by
        rw [List.mem_filter, hla, hF']
        simp
      rw [hF'] at I2
      have lF : F'.length = Fo.length + Nn.length := by rw [← hF', List.length_append, List.length_map]
      refine ⟨iv many, rfl, _, _, rfl, rfl, hN _ _ _ ?_ ⟨F', la.filter fun t => !decide (t ∈ F'.map (·.1)), many + 1, D, us13, z6, y7, _, _, rfl, A13.same, t12.trans (.same s13), A13.dd, SqL.of hD13, ds14, ?_, by omega, I2, rfl⟩⟩
      · rw [if_neg lne, lF]
        split <;> omega
      · have := List.length_filter_le (fun t => !decide (t ∈ F'.map (·.1))) la
        have h2 : Nn.length ≤ 200 := by omega
        omega
  have wne : ws ≠ [] := fun z => e (by rw [z] at dw11; exact of_nil dw11)
  obtain ⟨ws', x, rfl⟩ := last_of wne
  have A12 := A11.on s12
  obtain ⟨us12, w12, dw12⟩ := A12.ww
  rw [List.map_append] at dw12
  obtain ⟨us13, v, rfl, ds13, dv⟩ := DVs.snoc_inv dw12
  refine ⟨.ref l1, rfl, .inl ⟨rfl, _, SqL.of w12⟩, l1, _, v, rfl, rfl, w12, pop_get _ _, ?_⟩
  rw [pop_drop]
  have t13 : TX H12 (upd H12 l1 (.lst us13)) := TX.lst w12
  have A13 : NdAt P w K H (upd H12 l1 (.lst us13)) d l1 l2 (Fo ++ Nn.map fun x => (x, many)) ws' la := by
    obtain ⟨vs, b1, b2⟩ := A12.ll
    exact ⟨same_upd A12.same A12.l10, d0, l1_0, l2_0, n1, n2, n3, A12.dd.upd n1 t13, ⟨us13, upd_same, ds13.tx t13⟩, ⟨vs, (upd_ne n3.symm).trans b1, b2.tx t13⟩⟩
  have dv13 := dv.tx t13
  have t613 : TX H6 (upd H12 l1 (.lst us13)) := (t11.trans (.same s12)).trans t13
  generalize upd H12 l1 (.lst us13) = H13 at t13 A13 dv13 t613
  rw [List.length_append] at bound
  simp only [List.length_cons, List.length_nil] at bound
  refine ⟨v, rfl, .ref d, rfl, d, _, rfl, nget_of A13.dd.r dv13 (sk_depth x), _, rfl, ?_⟩
  rw [show valV (nmK (Fo ++ Nn.map fun x => (x, many))) (NestedKey.tup [nk x.pl, nk x.s, nk x.o, lk x.held.toList]) = valV (nmK (Fo ++ Nn.map fun x => (x, many))) (sk x) from rfl]
  have fz := fsz Nn D11.nd D11.sub
  have ndF : ((Fo ++ Nn.map fun x => (x, many)).map (·.1)).Nodup := by
    rw [List.map_append, List.map_map]
    have e : Nn.map ((·.1) ∘ fun x => ((x, many) : St4 × Nat)) = Nn := by
      conv => rhs; rw [← List.map_id Nn]
      rfl
    rw [e]
    exact List.nodup_append.mpr ⟨I.nd, D11.nd, fun a ha b hb e => by subst e; exact (D11.sub a hb).ok ha⟩
  by_cases m : x ∈ (Fo ++ Nn.map fun x => (x, many)).map (·.1)
  · obtain ⟨⟨t', j⟩, h1, h2⟩ := List.mem_map.mp m
    have h2' : t' = x := h2
    subst h2'
    rw [nmK_in ndF h1]
    refine iteF (hN2 _ _ _ ?_ ⟨Nn, ws', la, some v, rfl, A13, t613, D11.skip ?_, hla, lla, by omega, rfl⟩)
    · rw [List.length_append]
      simp only [List.length_cons, List.length_nil]
      omega
    · rcases (dom_app Fo Nn many _).mp m with z | z
      · exact .inr fun y => y z
      · exact .inl z
  · rw [nmK_out m]
    rw [dom_app, not_or] at m
    have D14 := D11.take (x := x) m.2 m.1 (more := predsOf kbc prc x) fun y => Iff.rfl
    have fz2 := fsz (Nn ++ [x]) D14.nd D14.sub
    rw [List.length_append] at fz2
    simp only [List.length_cons, List.length_nil] at fz2
    refine iteT ⟨iv many, rfl, .ref d, rfl, v, rfl, d, _, _, rfl, A13.dd, dv13, sk_depth x, ?_, fun H14 ho14 t14 nd14 => ?_⟩
    · rw [nmK_len, List.length_append, List.length_map]; omega
    rw [show NestedKey.tup [nk x.pl, nk x.s, nk x.o, lk x.held.toList] = sk x from rfl, nmK_put many (by rw [dom_app, not_or]; exact m)] at nd14
    have eF : Fo ++ Nn.map (fun x => (x, many)) ++ [(x, many)] = Fo ++ (Nn ++ [x]).map fun x => (x, many) := by
      rw [List.map_append, List.append_assoc]
      rfl
    rw [eF] at nd14
    have A14 : NdAt P w K H H14 d l1 l2 (Fo ++ (Nn ++ [x]).map fun x => (x, many)) ws' la := by
      obtain ⟨us, a1, a2⟩ := A13.ww
      obtain ⟨vs, b1, b2⟩ := A13.ll
      refine ⟨fun c o' z => ?_, d0, l1_0, l2_0, n1, n2, n3, nd14, ⟨us, (ho14 _ n1.symm).trans a1, a2.tx t14⟩, ⟨vs, (ho14 _ n2.symm).trans b1, b2.tx t14⟩⟩
      have ne1 : c ≠ d := fun e => by rw [e, d0] at z; cases z
      rw [ho14 c ne1]
      exact A13.same _ _ z
    have dv14 := dv13.tx t14
    have t614 := t613.trans t14
    have plc := predsOf_len (ks := kbc) lbc x
    have pls := predsOf_len (ks := kbs) lbs x
    -- waiting.extend(by_come.get(stand, []))
    obtain ⟨us14, w14, dw14⟩ := A14.ww
    have fbc14 := fbc6.tx t614
    refine ⟨.ref l1, rfl, .inl ⟨rfl, _, SqL.of w14⟩, .ref dbc, rfl, dbc, _, rfl, fbc14.r, v, rfl, Nat.zero_le _, fun e0 he0 => ?_⟩
    have s15 : Same H14 (upd H14 e0 (.lst [])) := same_new he0
    obtain ⟨b, ys, eb, rb, dys⟩ := get_lst (mbc6.tx t614) x he0
    have A15 := A14.on s15
    have w15 := s15 _ _ w14
    have t615 := t614.trans (.same s15)
    have dv15 := dv14.tx (.same s15)
    have fbc15 := fbc14.tx (.same s15)
    have dw15 := dw14.tx (.same s15)
    generalize upd H14 e0 (.lst []) = H15 at s15 rb dys A15 w15 t615 dv15 fbc15 dw15
    refine ⟨_, nget_of fbc15.r dv15 (sk_depth x), l1, b, us14, ys, rfl, congrArg (fun z => [z]) eb, w15, rb, ?_, ?_⟩
    · rw [dw14.length, dys.length, List.length_map, List.length_map]; omega
    have t16 : TX H15 (upd H15 l1 (.lst (us14 ++ ys))) := TX.lst w15
    have A16 : NdAt P w K H (upd H15 l1 (.lst (us14 ++ ys))) d l1 l2 (Fo ++ (Nn ++ [x]).map fun x => (x, many)) (ws' ++ predsOf kbc prc x) la := by
      obtain ⟨vs, b1, b2⟩ := A15.ll
      refine ⟨same_upd A15.same l1_0, d0, l1_0, l2_0, n1, n2, n3, A15.dd.upd n1 t16, ⟨_, upd_same, ?_⟩, ⟨vs, (upd_ne n3.symm).trans b1, b2.tx t16⟩⟩
      rw [List.map_append]
      exact (dw15.append dys).tx t16
    have t616 := t615.trans t16
    have dv16 := dv15.tx t16
    generalize upd H15 l1 (.lst (us14 ++ ys)) = H16 at t16 A16 t616 dv16
    -- later.extend(by_sent.get(stand, []))
    obtain ⟨us16, w16, dw16⟩ := A16.ll
    have fbs16 : NDf P w K H16 dbs obs xbs := fbs.tx t616
    refine ⟨.ref l2, rfl, .inl ⟨rfl, _, SqL.of w16⟩, .ref dbs, rfl, dbs, _, rfl, fbs16.r, v, rfl, Nat.zero_le _, fun e1 he1 => ?_⟩
    have s17 : Same H16 (upd H16 e1 (.lst [])) := same_new he1
    obtain ⟨b2, ys2, eb2, rb2, dys2⟩ := get_lst (mbs.tx t616) x he1
    have A17 := A16.on s17
    have w17 := s17 _ _ w16
    have t617 := t616.trans (.same s17)
    have dv17 := dv16.tx (.same s17)
    have fbs17 := fbs16.tx (.same s17)
    have dw17 := dw16.tx (.same s17)
    generalize upd H16 e1 (.lst []) = H17 at s17 rb2 dys2 A17 w17 t617 dv17 fbs17 dw17
    refine ⟨_, nget_of fbs17.r dv17 (sk_depth x), l2, b2, us16, ys2, rfl, congrArg (fun z => [z]) eb2, w17, rb2, ?_, ?_⟩
    · rw [dw16.length, dys2.length, List.length_map, List.length_map]
      have h2 : Nn.length ≤ 200 := by omega
      omega
    have t18 : TX H17 (upd H17 l2 (.lst (us16 ++ ys2))) := TX.lst w17
    refine hN2 _ _ _ ?_ ⟨Nn ++ [x], ws' ++ predsOf kbc prc x, la ++ predsOf kbs prs x, some v, rfl, ⟨same_upd A17.same l2_0, d0, l1_0, l2_0, n1, n2, n3, A17.dd.upd n2 t18, ?_, ⟨_, upd_same, ?_⟩⟩, t617.trans t18, D14, fun u => ?_, ?_, ?_, rfl⟩
    · simp only [List.length_append, List.length_cons, List.length_nil]
      omega
    · obtain ⟨vs, b1, b2⟩ := A17.ww
      exact ⟨vs, (upd_ne n3).trans b1, b2.tx t18⟩
    · rw [List.map_append]
      exact (dw17.append dys2).tx t18
    · rw [List.mem_append, hla]
      constructor
      · rintro (⟨y, hy, hu⟩ | hu)
        · exact ⟨y, List.mem_append_left _ hy, hu⟩
        · exact ⟨x, by simp, hu⟩
      · rintro ⟨y, hy, hu⟩
        rcases List.mem_append.mp hy with hy | hy
        · exact .inl ⟨y, hy, hu⟩
        · rw [List.mem_singleton.mp hy] at hu
          exact .inr hu
    · simp only [List.length_append, List.length_cons, List.length_nil]
      omega
    · simp only [List.length_append, List.length_cons, List.length_nil]
      omega
end
end K14

/-! W20: near_ones, first_wrong_log. -/
namespace K14
open PySem PySem.Spec PyProof.Rows L2
structure NeedAt (P : Program) (w : World) (K : PySem.W.Frag) (h : Hd) (p : Pl) (H : Hp) (dn : Addr) (keys : List St4) (F : List (St4 × Nat)) : Prop where
  nd : NDr P w K H dn (nmK F)
  uq : (F.map (·.1)).Nodup
  di : ∀ t ∈ keys, ∀ j, (t, j) ∈ F ↔ Dist h p j t
  le : ∀ e ∈ F, e.2 ≤ 200
theorem NeedAt.on {P : Program} {w : World} {K : PySem.W.Frag} {h : Hd} {p : Pl} {H H' : Hp} {dn : Addr} {keys : List St4} {F : List (St4 × Nat)} (A : NeedAt P w K h p H dn keys F) (s : Same H H') : NeedAt P w K h p H' dn keys F := ⟨A.nd.same s, A.uq, A.di, A.le⟩
theorem sm_none : Sm .none := ⟨by show (0 : Nat) ≤ 8; omega, rfl⟩
/-- need.get(stand) -/
theorem NeedAt.get {P : Program} {w : World} {K : PySem.W.Frag} {h : Hd} {p : Pl} {H : Hp} {dn : Addr} {keys : List St4} {F : List (St4 × Nat)} (A : NeedAt P w K h p H dn keys F) {t : St4} {v : V} (ht : t ∈ keys) (dv : DV K H (sk t) v) :
    ∃ r, NGet P w K H dn v r ∧ ∃ k, DV K H k (r.getD .non) ∧ Sm k ∧ ∀ m, k = nk m ↔ Dist h p m t := by
  have g := nget_of A.nd dv (sk_depth t)
  refine ⟨_, g, ?_⟩
  rw [show valV (nmK F) (NestedKey.tup [nk t.pl, nk t.s, nk t.o, lk t.held.toList]) = valV (nmK F) (sk t) from rfl]
  by_cases m : t ∈ F.map (·.1)
  · obtain ⟨⟨t', j⟩, h1, h2⟩ := List.mem_map.mp m
    have h2' : t' = t := h2
    subst h2'
    rw [nmK_in A.uq h1]
    have dj := (A.di t' ht j).mp h1
    refine ⟨nk j, dv_nk, sm_nk j, fun m => ⟨fun e => ?_, fun d => by rw [dj.inj d]⟩⟩
    rw [← nk_inj e]
    exact dj
  · rw [nmK_out m]
    refine ⟨.none, dv_non, sm_none, fun j => ⟨fun e => (by cases e), fun d => ?_⟩⟩
    exact absurd (List.mem_map.mpr ⟨(t, j), (A.di t ht j).mpr d, rfl⟩) m
section
variable {P : Program} {w : World} {K : PySem.W.Frag} {mg : Str → Option Value} {base : Heap} {C S : Addr} {tH tP : Tok} {f : Addr} {fd : FuncData}
theorem sc_near_ones : FnScope ["come", "need", "stands", "many", "found", "waiting", "stand"] ["come", "need", "stands", "many"] (defScope s_near_ones) := ⟨rfl, rfl, rfl, by decide +kernel, rfl, by decide +kernel, by decide +kernel⟩
def sp_near_ones (P : Program) (w : World) (K : PySem.W.Frag) : Sp := fun vs H Q _ => ∃ h p dc dn a m o xs us keys F, ∃ ls : List St4, vs = [.ref dc, .ref dn, .ref a, iv m] ∧ NDf P w K H dc o xs ∧ ML K H sk (comeL h) keys (kvOf xs) ∧ keys.length ≤ 200 ∧ (∀ t ∈ keys, ∀ u ∈ comeAt h t, u ∈ keys) ∧
  NeedAt P w K h p H dn keys F ∧ SqL K H a us ∧ DVs K H (ls.map sk) us ∧ (∀ t ∈ ls, t ∈ keys) ∧ ls.length ≤ 3000 ∧
  ∀ N : List St4, N.Nodup → (∀ t, t ∈ N ↔ Near h p m (fun x => x ∈ ls) t) → (∀ t ∈ N, t ∈ keys) → NewL K H (N.map sk) Q
theorem ok_near_ones (T : Txt K mg C S tH tP) (F : FnP K "near_ones" "near_ones" s_near_ones f fd) : FnOk P w K mg base CX0 1 f fd ["come", "need", "stands", "many"] (sp_near_ones P w K) := by
  refine F.ok sc_near_ones (fun vs H Q E h => ?_) (fun cdv A outer s H vs Q E hr h => ⟨_, PSs.nox ((pss_cons (ps_set (i := 4) sc_near_ones.nd rfl (.inl rfl) (pe_nnewK P w K ⟨rfl, rfl, rfl⟩))
  (pss_cons (ps_set (i := 5) sc_near_ones.nd rfl (.inl rfl) (pe_callTy (cr_listOfK P w K ⟨rfl, rfl, rfl⟩) (by rfl) T.z_list (by decide +kernel) (pa_cons (pv 2) pa_nil)))
  (pss_cons (ps_while PassesOwn.never (pt_cmpR (op_nenilK P w K ⟨rfl, rfl, rfl⟩ hr) (pv 5) (pe_lst pa_nil) (nomark _))
    (pss_cons (ps_set (i := 6) sc_near_ones.nd rfl (.inl rfl) (pe_bm0K P w K ⟨rfl, rfl, rfl⟩ PySem.F.plainAttrs_list PySem.F.slot_list_pop PySem.F.type_list_pop mt_pop (pv 5)))
  (pss_one (ps_if (PW.pt (pw_and (pt_cmpR (op_nnotinK P w K ⟨rfl, rfl, rfl⟩ hr) (pv 6) (pv 4) rfl) (pw_and1 (pt_cmpR (op_deqK P w K ⟨rfl, rfl, rfl⟩ hr) (pe_nget1K P w K ⟨rfl, rfl, rfl⟩ hr (pv 1) (pv 6) ⟨rfl, rfl, rfl, rfl⟩) (pv 3) (nomark _))))) (pss_cons (ps_asg pe_bl (pg_sub (pv 4) (pv 6) (set_ndK P w K ⟨rfl, rfl, rfl⟩ hr)))
  (pss_one (ps_expr (pe_bmK P w K ⟨rfl, rfl, rfl⟩ PySem.F.plainAttrs_list PySem.F.slot_list_extend PySem.F.type_list_extend mt_extS (pv 5) (pa_cons (pe_ngetK P w K ⟨rfl, rfl, rfl⟩ hr (pv 0) (pv 6) (fun _ _ => rfl)) pa_nil))))) pss_nil))))
  (pss_one (ps_ret (pe_callTy (cr_nlistK P w K ⟨rfl, rfl, rfl⟩ rfl) (by rfl) T.z_list (by decide +kernel) (pa_cons (pv 4) pa_nil)))))))), ?_⟩)
  · obtain ⟨h, p, dc, dn, a, m, o, xs, us, keys, F, ls, rfl, _⟩ := h
    rfl
  obtain ⟨h, p, dc, dn, a, mm, o, xs, us, keys, Fn, ls, rfl, nf, ml, kl, hcl, An, sq, ds, lsk, lsl, q⟩ := h
  have small : 5000 < sizeLine := by decide
  intro d H1 hd ho1 s1 nd1
  refine ⟨.ref a, rfl, a, us, rfl, .inl (s1.seq sq), fun l hl => ?_⟩
  have dl : d ≠ l := by
    obtain ⟨xs, hx, _⟩ := nd1
    exact ne_of_none hx hl
  have l0 : H l = none := s1.free hl
  have s2 : Same H (upd H1 l (.lst us)) := same_upd s1 l0
  have t2 : TX H1 (upd H1 l (.lst us)) := TX.new hl
  refine while_ne (fun m σ H' => ∃ (N ws : List St4) (y6 : Option V), m = 2 * (keys.length - N.length) + ws.length ∧ PileAt P w K H H' d l (flK sk N) (ws.map sk) ∧ DI (fun x => x ∈ ls) (Dist h p mm) (comeAt h) N ws ∧ (∀ t ∈ N, t ∈ keys) ∧ (∀ t ∈ ws, t ∈ keys) ∧
      2 * (keys.length - N.length) + ws.length ≤ 3500 ∧ σ = [some (.ref dc), some (.ref dn), some (.ref a), some (iv mm), some (.ref d), some (.ref l), y6])
    ⟨_, [], ls, none, rfl, ⟨s2, hd, l0, dl, nd1.upd dl t2, ⟨us, upd_same, (ds.tx (.same s1)).tx t2⟩⟩, DI.start fun x => Iff.rfl, (fun q hq => by cases hq), lsk, (by simp only [List.length_nil]; omega), rfl⟩ ?_
  rintro m σ H2 ⟨N, ws, y6, rfl, B, D, ko, wo, bound, rfl⟩
  obtain ⟨us2, l2, ds2⟩ := B.ll
  refine ⟨l, us2, rfl, SqL.of l2, fun H3 s3 => ⟨fun e => ?_, fun e Nx hN => ?_⟩⟩
  · have e' : ws = [] := by
      have z := ds2.length
      rw [e, List.length_map] at z
      exact List.length_eq_zero_iff.mp z.symm
    subst e'
    have B3 := B.on s3
    refine ⟨.ref d, rfl, nlist_rd B3.dd.r fun p us4 H4 s4 p0 p1 ds4 => q N D.nd D.done ko p us4 H4 (sametr B3.same s4) (B3.same.free p0) p1 ?_⟩
    rw [flK_keys] at ds4
    exact ds4
  have wne : ws ≠ [] := fun z => e (by rw [z] at ds2; exact of_nil ds2)
  obtain ⟨ws, x, rfl⟩ := last_of wne
  have B3 := B.on s3
  obtain ⟨us3, l3, ds3⟩ := B3.ll
  rw [List.map_append] at ds3
  obtain ⟨us4, v, rfl, ds4, dv⟩ := DVs.snoc_inv ds3
  have px : x ∈ keys := wo x (by simp)
  refine ⟨.ref l, rfl, .inl ⟨rfl, _, SqL.of l3⟩, l, _, v, rfl, rfl, l3, pop_get _ _, ?_⟩
  rw [pop_drop]
  have t5 : TX H3 (upd H3 l (.lst us4)) := TX.lst l3
  have B5 : PileAt P w K H (upd H3 l (.lst us4)) d l (flK sk N) (ws.map sk) := ⟨same_upd B3.same B.l0, hd, l0, dl, B3.dd.upd dl t5, ⟨us4, upd_same, ds4.tx t5⟩⟩
  have dv5 := dv.tx t5
  have l5 : (upd H3 l (.lst us4)) l = some (.lst us4) := upd_same
  have ds5 := ds4.tx t5
  generalize upd H3 l (.lst us4) = H5 at t5 B5 dv5 l5 ds5
  rw [List.length_append] at bound
  simp only [List.length_cons, List.length_nil] at bound
  have skip : ∀ Hz, Hz = H5 → (x ∈ N ∨ ¬ Dist h p mm x) → Nx [some (.ref dc), some (.ref dn), some (.ref a), some (iv mm), some (.ref d), some (.ref l), some v] Hz := fun Hz e z => by
    subst e
    refine hN _ _ _ ?_ ⟨N, ws, some v, rfl, B5, D.skip z, ko, fun q hq => wo q (List.mem_append_left _ hq), by omega, rfl⟩
    rw [List.length_append]
    simp only [List.length_cons, List.length_nil]
    omega
  refine ⟨v, rfl, .ref d, rfl, d, _, rfl, nget_of B5.dd.r dv5 (sk_depth x), _, rfl, ?_⟩
  rw [show valV (flK sk N) (NestedKey.tup [nk x.pl, nk x.s, nk x.o, lk x.held.toList]) = valV (flK sk N) (sk x) from rfl]
  by_cases m : x ∈ N
  · rw [flK_in sk_inj m]
    exact iteF (iteF (skip _ rfl (.inl m)))
  · rw [flK_out sk_inj m]
    obtain ⟨r, g1, k, dk, smk, hk⟩ := (An.on B5.same).get px dv5
    refine iteT ⟨.ref dn, rfl, dn, _, rfl, (An.on B5.same).nd, v, rfl, r, g1, iv mm, rfl, k, nk mm, dk, dv_nk, smk, sm_nk _, _, rfl, ?_⟩
    by_cases di : Dist h p mm x
    · rw [decide_eq_true ((hk mm).mpr di)]
      have kn : (N ++ [x]).length ≤ keys.length := nodup_len (List.nodup_append.mpr ⟨D.nd, by simp, fun a ha b hb e => m (by rw [List.mem_singleton.mp hb] at e; rw [← e]; exact ha)⟩) fun q hq => by
        rcases List.mem_append.mp hq with hq | hq
        · exact ko q hq
        · rw [List.mem_singleton.mp hq]; exact px
      rw [List.length_append] at kn
      simp only [List.length_cons, List.length_nil] at kn
      refine iteT ⟨.ref d, rfl, v, rfl, d, _, _, rfl, B5.dd, dv5, sk_depth x, ?_, fun H6 ho6 t6 nd6 => ?_⟩
      · rw [show (flK sk N).length = N.length from List.length_map _]
        omega
      have l6 : H6 l = some (.lst us4) := (ho6 _ dl.symm).trans l5
      have ds6 := ds5.tx t6
      have s6 : Same H H6 := fun c' o' z => by
        have ne : c' ≠ d := fun e => by rw [e, hd] at z; cases z
        rw [ho6 c' ne]
        exact B5.same _ _ z
      have nf6 := nf.tx (.same s6)
      obtain ⟨z1, e1, ⟨lb, lo, lus, rfl, f1, f2⟩⟩ := (ml.tx (.same s6)).get sk_inj px
      have g2 := nget_of nf6.r (dv5.tx t6) (sk_depth x)
      rw [show valV (kvOf xs) (NestedKey.tup [nk x.pl, nk x.s, nk x.o, lk x.held.toList]) = valV (kvOf xs) (sk x) from rfl, e1] at g2
      have cl := comeAt_len h x
      refine ⟨.ref l, rfl, .inl ⟨rfl, _, SqL.of l6⟩, .ref dc, rfl, v, rfl, dc, _, rfl, g2, l, lb, us4, lus, rfl, rfl, l6, .inr ⟨lo, f1⟩, ?_, ?_⟩
      · rw [ds6.length, f2.length, List.length_map]
        unfold comeL
        rw [List.length_map]
        omega
      have t8 : TX H6 (upd H6 l (.lst (us4 ++ lus))) := TX.lst l6
      refine hN _ _ _ ?_ ⟨N ++ [x], ws ++ comeAt h x, some v, rfl, ⟨same_upd s6 B.l0, hd, B.l0, dl, ?_, ⟨_, upd_same, ?_⟩⟩, D.take m di fun y => Iff.rfl, fun q hq => ?_, fun q hq => ?_, ?_, rfl⟩
      · simp only [List.length_append, List.length_cons, List.length_nil]
        omega
      · have z := nd6.upd dl t8
        rw [show NestedKey.tup [nk x.pl, nk x.s, nk x.o, lk x.held.toList] = sk x from rfl, flK_put sk_inj m] at z
        exact z
      · rw [List.map_append]
        exact (ds6.append f2).tx t8
      · rcases List.mem_append.mp hq with hq | hq
        · exact ko q hq
        · rw [List.mem_singleton.mp hq]; exact px
      · rcases List.mem_append.mp hq with hq | hq
        · exact wo q (List.mem_append_left _ hq)
        · exact hcl x px q hq
      · simp only [List.length_append, List.length_cons, List.length_nil]
        omega
    · rw [decide_eq_false (fun z => di ((hk mm).mp z))]
      exact iteF (skip _ rfl (.inr di))
end
end K14

/-! W21: first_wrong_log. -/
namespace K14
open PySem PySem.Spec PyProof.Rows L2
theorem sub1_op {a k : Nat} {σ : L2.St} {H : Hp} {Q : VK} (e : σ[a]? = some (some (iv (k + 1)))) (q : Q (iv k) H) : tOp (rI0 fun i j => .int (i - j)) (tVar a) (tC (.int 1)) σ H Q := by
  refine ⟨_, e, _, _, rfl, rfl, ?_⟩
  have e : ((k + 1 : Nat) : Int) - 1 = (k : Int) := by omega
  show Q (.int (((k + 1 : Nat) : Int) - 1)) H
  rw [e]
  exact q
theorem of_ints : ∀ {l : List Nat} {ns : List Int}, ns = l.map (fun n : Nat => (n : Int)) → ns.map V.int = l.map iv := fun {l ns} e => by
  rw [e, List.map_map]
  rfl
section
variable {P : Program} {w : World} {K : PySem.W.Frag} {mg : Str → Option Value} {base : Heap} {C S : Addr} {tH tP : Tok} {f : Addr} {fd : FuncData}
theorem sc_first_wrong_log : FnScope ["come", "sent", "need", "log", "many", "stands", "rows", "stand", "least", "index", "there"] ["come", "sent", "need"] (defScope s_first_wrong_log) := ⟨rfl, rfl, rfl, by decide +kernel, rfl, by decide +kernel, by decide +kernel⟩
def sp_first_wrong_log (P : Program) (w : World) (K : PySem.W.Frag) : Sp := fun vs H Q _ => ∃ h p dc ds dn keys F, vs = [.ref dc, .ref ds, .ref dn] ∧ h.K ≤ 3 ∧ Moves P w K h p H dc ds keys ∧ keys.length ≤ 200 ∧ (∀ t, t ∈ keys ↔ Come h p t) ∧ NeedAt P w K h p H dn keys F ∧
  (FirstWrong h p none → ∀ H', Same H H' → Q .non H') ∧ ∀ l u H', Same H H' → l.length ≤ 200 → FirstWrong h p (some l) → DV K H' (lk l) u → Q u H'
theorem ok_first_wrong_log (T : Txt K mg C S tH tP) (F : FnP K "first_wrong_log" "first_wrong_log" s_first_wrong_log f fd) (g_near_ones : Ok P w K mg base "near_ones" 1 ["come", "need", "stands", "many"] (sp_near_ones P w K)) : FnOk P w K mg base CX0 2 f fd ["come", "sent", "need"] (sp_first_wrong_log P w K) := by
  refine F.ok sc_first_wrong_log (fun vs H Q E h => ?_) (fun cdv A outer s H vs Q E hr h => ⟨_, PSs.nox ((pss_cons (ps_if (pt_cmpR (op_nnotinK P w K ⟨rfl, rfl, rfl⟩ hr) (pe_glob (v := .ref S) rfl T.g_START rfl) (pv 2) rfl) (pss_one (ps_ret pe_non)) pss_nil)
  (pss_cons (ps_set (i := 3) sc_first_wrong_log.nd rfl (.inl rfl) (pe_lst pa_nil))
  (pss_cons (ps_set (i := 4) sc_first_wrong_log.nd rfl (.inr rfl) (pe_ngetK P w K ⟨rfl, rfl, rfl⟩ hr (pv 2) (pe_glob (v := .ref S) rfl T.g_START rfl) (fun _ _ => rfl)))
  (pss_cons (ps_set (i := 5) sc_first_wrong_log.nd rfl (.inl rfl) (pe_callO g_near_ones (hr.mono (by decide)) rfl (pa_cons (pv 0) (pa_cons (pv 2) (pa_cons (pe_lst (pa_cons (pe_glob (v := .ref S) rfl T.g_START rfl) pa_nil)) (pa_cons (pv 4) pa_nil))))))
  (pss_cons (ps_while PassesOwn.never (pt_cmpR op_gt (pv 4) pe_int (nomark _))
    (pss_cons (ps_set (i := 4) sc_first_wrong_log.nd rfl (.inr rfl) (pe_op op_sub (pv 4) pe_int))
  (pss_cons (ps_set (i := 6) sc_first_wrong_log.nd rfl (.inl rfl) (pe_lst pa_nil))
  (pss_cons (ps_for PassesOwn.never rfl (pi_LDK P w K ⟨rfl, rfl, rfl⟩ (pv 5)) (pg_name (i := 7) sc_first_wrong_log.nd rfl (.inl rfl))
    (pss_one (ps_expr (pe_bmK P w K ⟨rfl, rfl, rfl⟩ PySem.F.plainAttrs_list PySem.F.slot_list_extend PySem.F.type_list_extend mt_extS (pv 6) (pa_cons (pe_lc (own := [("index", 9), ("there", 10)]) (by rfl) sc_first_wrong_log.nd (pi_LDK P w K ⟨rfl, rfl, rfl⟩ (pe_ngetK P w K ⟨rfl, rfl, rfl⟩ hr (pv 1) (pv 7) (fun _ _ => rfl))) (blkOk_by (own := [("index", 9), ("there", 10)]) (N := ["come", "sent", "need", "log", "many", "stands", "rows", "stand", "least", "index", "there"]) (sc := defScope s_first_wrong_log) (by decide +kernel)) (fun _ _ _ _ _ => (pg_tupK (n := 2) P w K ⟨rfl, rfl, rfl⟩ (by rfl) (pgs_cons (pg_name (i := 9) sc_first_wrong_log.nd rfl (Or.inl rfl)) (pgs_cons (pg_name (i := 10) sc_first_wrong_log.nd rfl (Or.inl rfl)) pgs_nil)))) (fun _ _ _ _ _ => (pts_one (pt_cmpR (op_deqK P w K ⟨rfl, rfl, rfl⟩ hr) (pe_nget1K P w K ⟨rfl, rfl, rfl⟩ hr (pv 2) (pv 10) ⟨rfl, rfl, rfl, rfl⟩) (pv 4) (nomark _)))) (fun _ _ _ _ _ => (pe_tupDK P w K ⟨rfl, rfl, rfl⟩ (pa_cons (pv 9) (pa_cons (pv 10) pa_nil))))) pa_nil)))))
  (pss_cons (ps_set (i := 8) sc_first_wrong_log.nd rfl (.inr rfl) (pe_callB (cr_minK P w K ⟨rfl, rfl, rfl⟩ rfl) (by rfl) T.z_min (by decide +kernel) (pa_cons (pe_lc (own := [("index", 9), ("there", 10)]) (by rfl) sc_first_wrong_log.nd (pi_LDK P w K ⟨rfl, rfl, rfl⟩ (pv 6)) (blkOk_by (own := [("index", 9), ("there", 10)]) (N := ["come", "sent", "need", "log", "many", "stands", "rows", "stand", "least", "index", "there"]) (sc := defScope s_first_wrong_log) (by decide +kernel)) (fun _ _ _ _ _ => (pg_tupK (n := 2) P w K ⟨rfl, rfl, rfl⟩ (by rfl) (pgs_cons (pg_name (i := 9) sc_first_wrong_log.nd rfl (Or.inl rfl)) (pgs_cons (pg_name (i := 10) sc_first_wrong_log.nd rfl (Or.inl rfl)) pgs_nil)))) (fun _ _ _ _ _ => pts_nil) (fun _ _ _ _ _ => (pv 9))) pa_nil)))
  (pss_cons (ps_expr (pe_bmK P w K ⟨rfl, rfl, rfl⟩ PySem.F.plainAttrs_list PySem.F.slot_list_append PySem.F.type_list_append mt_append (pv 3) (pa_cons (pv 8) pa_nil)))
  (pss_one (ps_set (i := 5) sc_first_wrong_log.nd rfl (.inl rfl) (pe_callO g_near_ones (hr.mono (by decide)) rfl (pa_cons (pv 0) (pa_cons (pv 2) (pa_cons (pe_lc (own := [("index", 9), ("there", 10)]) (by rfl) sc_first_wrong_log.nd (pi_LDK P w K ⟨rfl, rfl, rfl⟩ (pv 6)) (blkOk_by (own := [("index", 9), ("there", 10)]) (N := ["come", "sent", "need", "log", "many", "stands", "rows", "stand", "least", "index", "there"]) (sc := defScope s_first_wrong_log) (by decide +kernel)) (fun _ _ _ _ _ => (pg_tupK (n := 2) P w K ⟨rfl, rfl, rfl⟩ (by rfl) (pgs_cons (pg_name (i := 9) sc_first_wrong_log.nd rfl (Or.inl rfl)) (pgs_cons (pg_name (i := 10) sc_first_wrong_log.nd rfl (Or.inl rfl)) pgs_nil)))) (fun _ _ _ _ _ => (pts_one (pt_cmpR (op_deqK P w K ⟨rfl, rfl, rfl⟩ hr) (pv 9) (pv 8) (nomark _)))) (fun _ _ _ _ _ => (pv 10))) (pa_cons (pv 4) pa_nil)))))))))))))
  (pss_one (ps_ret (pe_callTy (cr_tupOfK P w K ⟨rfl, rfl, rfl⟩) (by rfl) T.z_tuple (by decide +kernel) (pa_cons (pv 3) pa_nil)))))))))), ?_⟩)
  · obtain ⟨h, p, dc, ds, dn, keys, F, rfl, _⟩ := h
    rfl
  obtain ⟨h, p, dc, ds, dn, keys, Fn, rfl, k3, M, kl, kc, An, qn, qs⟩ := h
  have small : 5000 < sizeLine := by decide
  obtain ⟨oc, xc, fc, mc⟩ := M.cc
  obtain ⟨os, xs, fs, ms⟩ := M.ss
  have hcl : ∀ t ∈ keys, ∀ u ∈ comeAt h t, u ∈ keys := fun t ht u hu => (kc u).mpr (((kc t).mp ht).come hu)
  have hsl : ∀ t ∈ keys, ∀ k u, (k, u) ∈ sentFrom h p t → u ∈ keys := fun t ht k u hu => (kc u).mpr (((kc t).mp ht).sent hu)
  have k0 : start4 ∈ keys := (kc _).mpr (.base rfl trivial)
  have gS := nget_of An.nd (T.d_START H) (sk_depth start4)
  rw [show valV (nmK Fn) (NestedKey.tup [nk start4.pl, nk start4.s, nk start4.o, lk start4.held.toList]) = valV (nmK Fn) (sk start4) from rfl] at gS
  refine ⟨.ref dn, rfl, dn, _, rfl, gS, _, rfl, ?_⟩
  by_cases m : start4 ∈ Fn.map (·.1)
  · obtain ⟨⟨t', M0⟩, hM, h2⟩ := List.mem_map.mp m
    have h2' : t' = start4 := h2
    subst h2'
    rw [nmK_in An.uq hM] at gS ⊢
    have dM := (An.di _ k0 _).mp hM
    have M200 := An.le _ hM
    -- log = []; many = need[START]; stands = near_ones(..)
    refine iteF ⟨Nat.zero_le _, fun l hl => ?_⟩
    have s1 : Same H (upd H l (.lst [])) := same_new hl
    have gS1 := nget_of (An.on s1).nd (T.d_START _) (sk_depth start4)
    rw [show valV (nmK Fn) (NestedKey.tup [nk start4.pl, nk start4.s, nk start4.o, lk start4.held.toList]) = valV (nmK Fn) (sk start4) from rfl, nmK_in An.uq hM] at gS1
    refine ⟨.ref dn, rfl, dn, _, rfl, gS1, .ref dc, rfl, .ref dn, rfl, (by show 1 ≤ sizeLine; decide), fun b hb => ?_⟩
    have s2 : Same (upd H l (.lst [])) (upd (upd H l (.lst [])) b (.lst [.ref S])) := same_new hb
    have s12 := sametr s1 s2
    refine ⟨iv M0, rfl, h, p, dc, dn, b, M0, oc, xc, [.ref S], keys, Fn, [start4], rfl, fc.tx (.same s12), mc.tx (.same s12), kl, hcl, An.on s12, SqL.of upd_same, dvs_cons (T.d_START _) dvs_nil, fun t ht => by rw [List.mem_singleton.mp ht]; exact k0, by show 1 ≤ 3000; omega, fun N nd hN nk' a us H3 s3 a0 a1 ds3 => ?_⟩
    have s13 := sametr s12 s3
    have hS0 : (fun x => x ∈ [start4]) = fun t : St4 => t = start4 := funext fun x => propext (by simp)
    rw [hS0] at hN
    have l3 : H3 l = some (.lst []) := s3 _ _ (s2 _ _ upd_same)
    have la : l ≠ a := ne_of_none (s2 _ _ upd_same) a0
    have a00 : H a = none := s12.free a0
    refine ⟨fun m σ H' => ∃ (k : Nat) (pre : List Nat) (N : List St4) (S0 : St4 → Prop) (a : Addr) (us : List V) (y6 y7 y8 : Option V), m = k ∧ Same H H' ∧ l ≠ a ∧ H a = none ∧ H' l = some (.lst (pre.map iv)) ∧ H' a = some (.lst us) ∧ DVs K H' (N.map sk) us ∧ N.Nodup ∧ (∀ t, t ∈ N ↔ Near h p k S0 t) ∧ (∀ t ∈ N, t ∈ keys) ∧
        (∃ t, Near h p k S0 t) ∧ pre.length + k = M0 ∧ (∀ lg, IsLog h p k (Near h p k S0) lg → IsLog h p M0 (Near h p M0 fun t => t = start4) (pre ++ lg)) ∧ σ = [some (.ref dc), some (.ref ds), some (.ref dn), some (.ref l), some (iv k), some (.ref a), y6, y7, y8, none, none],
      ⟨M0, M0, [], N, _, a, us, none, none, none, rfl, s13, la, a00, l3, a1, ds3, nd, hN, nk', ⟨start4, .base rfl dM⟩, by simp, fun lg q => q, rfl⟩, ?_⟩
    clear l3 la a00 hN hS0 s13 ds3 a1 a0 s3 nk' nd s12 s2 hb gS1 gS
    rintro m σ H4 ⟨k, pre, N, S0, a, us, y6, y7, y8, rfl, s4, la, a00, l4, a4, ds4, nd, hN, nk', ⟨t0, ht0⟩, plen, hlog, rfl⟩
    refine ⟨iv m, rfl, (m : Int), 0, rfl, rfl, _, rfl, ?_⟩
    cases m with
    | zero =>
      have z := hlog [] .nil
      rw [List.append_nil] at z
      refine ⟨.ref l, rfl, l, _, pre.map nk, rfl, SqL.of l4, dvs_nks, fun u H5 s5 du => qs pre u H5 (sametr s4 s5) (by omega) (.inr ⟨M0, pre, dM, z, rfl⟩) du⟩
    | succ k =>
      rw [decide_eq_true (show (0 : Int) < ((k + 1 : Nat) : Int) by omega)]
      refine ⟨_, fun σ' H' z => z, ?_⟩
      refine sub1_op rfl ?_
      refine ⟨Nat.zero_le _, fun r hr => ?_⟩
      have s5 : Same H4 (upd H4 r (.lst [])) := same_new hr
      have r0 : H r = none := s4.free hr
      have lr : l ≠ r := ne_of_none l4 hr
      have ar : a ≠ r := ne_of_none a4 hr
      have s45 := sametr s4 s5
      have t5 : TX H4 (upd H4 r (.lst [])) := .same s5
      have l5 := s5 _ _ l4
      have a5 := s5 _ _ a4
      have r5 : (upd H4 r (.lst [])) r = some (.lst []) := upd_same
      have ds5 := ds4.tx t5
      generalize upd H4 r (.lst []) = H5 at s5 s45 t5 l5 a5 r5 ds5
      have nl : N.length ≤ 200 := Nat.le_trans (nodup_len nd nk') kl
      have sfl : ∀ t, (sentFrom h p t).length ≤ 6 := fun t => by
        have := sentFrom_len h p t
        omega
      refine ⟨.ref a, rfl, a, us, N.map sk, rfl, SqL.of a5, ds5, fun J wk => for_it wk (fun i σ H' => Same H H' ∧ TX H5 H' ∧ H' l = some (.lst (pre.map iv)) ∧ H' a = some (.lst us) ∧ (∃ vs, H' r = some (.lst vs) ∧ DVs K H' (((N.take i).flatMap fun t => (sentFrom h p t).filter fun e => decide ((e.2, k) ∈ Fn)).map ek) vs) ∧
          ∃ y7, σ = [some (.ref dc), some (.ref ds), some (.ref dn), some (.ref l), some (iv k), some (.ref a), some (.ref r), y7, y8, none, none])
        ⟨s45, .refl _, l5, a5, ⟨[], r5, dvs_nil⟩, _, rfl⟩ (fun i σ H' _ pv => ⟨SqL.of pv.2.2.2.1, pv.2.1⟩) (fun i x σ H6 H7 hi pv y => ?_) (fun σ H6 pv => ?_)⟩
      · obtain ⟨s6, t6, l6, a6, ⟨vs, r6, dv6⟩, y7', rfl⟩ := pv
        obtain ⟨rfl, k1, ek1, dx⟩ := y
        obtain ⟨hi', ek1⟩ := map_get start4 ek1
        subst ek1
        have etk : N.take (i + 1) = N.take i ++ [N.getD i start4] := by
          rw [List.take_add_one, List.getElem?_eq_getElem hi', getD_lt hi']
          rfl
        rw [etk, List.flatMap_append]
        have hx : N.getD i start4 ∈ keys := nk' _ (by rw [getD_lt hi']; exact List.getElem_mem _)
        generalize N.getD i start4 = x4 at dx hx
        have fs6 := fs.tx (.same s6)
        obtain ⟨z1, e1, ⟨lb, lo, lus, rfl, f1, f2⟩⟩ := (ms.tx (.same s6)).get sk_inj hx
        have g2 := nget_of fs6.r dx (sk_depth x4)
        rw [show valV (kvOf xs) (NestedKey.tup [nk x4.pl, nk x4.s, nk x4.o, lk x4.held.toList]) = valV (kvOf xs) (sk x4) from rfl, e1] at g2
        have sq6 : SqL K H7 lb lus := .inl (.inr ⟨lo, f1⟩)
        refine ⟨.ref r, rfl, .inl ⟨rfl, _, SqL.of r6⟩, .ref ds, rfl, x, rfl, ds, _, rfl, g2, lb, lus, _, rfl, sq6, f2, fun J2 wk2 D hD => lc_dat (K := K) wk2 (fun j => if (fun e : Nat × St4 => decide ((e.2, k) ∈ Fn)) ((sentFrom h p x4).getD j (0, start4)) = true then some (ek ((sentFrom h p x4).getD j (0, start4))) else none) hD ?_ (fun H' s => ⟨s.seq sq6, .same s⟩) (fun j z H8 H9 Nx hj s8 yy no yes => ?_) (fun H8 us8 s8 hD8 ds8 => ?_)⟩
        · unfold sentL
          rw [List.length_map]
          have := sfl x4
          omega
        · obtain ⟨rfl, k2, ek2, dz⟩ := yy
          obtain ⟨hj', ek2⟩ := map_get (0, start4) ek2
          subst ek2
          have hsent : (sentFrom h p x4).getD j (0, start4) ∈ sentFrom h p x4 := by rw [getD_lt hj']; exact List.getElem_mem _
          generalize (sentFrom h p x4).getD j (0, start4) = e at dz no yes hsent
          obtain ⟨a3, w1, w2, rfl, sq3, dw1, dw2⟩ := of_tup2 dz
          have hu := hsl x4 hx e.1 e.2 hsent
          obtain ⟨rr, g1, kk, dk, smk, hkk⟩ := (An.on (sametr s6 s8)).get hu dw2
          refine ⟨a3, _, rfl, sq3, rfl, w1, _, rfl, w2, _, rfl, rfl, rfl, .ref dn, rfl, dn, _, rfl, (An.on (sametr s6 s8)).nd, w2, rfl, rr, g1, iv k, rfl, kk, nk k, dk, dv_nk, smk, sm_nk _, _, rfl, ?_⟩
          by_cases di : Dist h p k e.2
          · rw [decide_eq_true ((hkk k).mpr di)]
            refine iteT ⟨w1, rfl, w2, rfl, _, dvs_cons dw1 (dvs_cons dw2 dvs_nil), (by show 2 ≤ sizeLine; decide), fun u2 H10 s10 du2 => yes _ _ _ ?_ s10 du2⟩
            rw [if_pos (decide_eq_true ((An.di _ hu k).mpr di))]
            rfl
          · rw [decide_eq_false (fun z => di ((hkk k).mp z))]
            refine iteF (no ?_ _ fun _ _ z => z)
            rw [if_neg (by simpa using fun z => di ((An.di _ hu k).mp z))]
        · have ds9 : DVs K H8 (((sentFrom h p x4).filter fun e => decide ((e.2, k) ∈ Fn)).map ek) us8 := by
            unfold sentL at ds8
            rw [List.length_map, range_filter (l := sentFrom h p x4) (g := ek) (p := fun e : Nat × St4 => decide ((e.2, k) ∈ Fn)) (0, start4) rfl] at ds8
            exact ds8
          have r8 := s8 _ _ r6
          have fl := flat_len (f := fun t => (sentFrom h p t).filter fun e => decide ((e.2, k) ∈ Fn)) (m := 6) (N.take i) fun t _ => Nat.le_trans (List.length_filter_le _ _) (sfl t)
          rw [List.length_take] at fl
          have fl2 := Nat.le_trans (List.length_filter_le (fun e : Nat × St4 => decide ((e.2, k) ∈ Fn)) (sentFrom h p x4)) (sfl x4)
          refine ⟨r, D, vs, us8, rfl, rfl, r8, .inl hD8, ?_, ?_⟩
          · rw [dv6.length, ds9.length, List.length_map, List.length_map]
            omega
          have t9 : TX H8 (upd H8 r (.lst (vs ++ us8))) := TX.lst r8
          refine ⟨same_upd (sametr s6 s8) r0, (t6.trans (.same s8)).trans t9, (upd_ne lr).trans (s8 _ _ l6), (upd_ne ar).trans (s8 _ _ a6), ⟨_, upd_same, ?_⟩, _, rfl⟩
          rw [List.map_append]
          simp only [List.flatMap_cons, List.flatMap_nil, List.append_nil]
          exact ((dv6.tx (.same s8)).append ds9).tx t9
      · obtain ⟨s6, t6, l6, a6, ⟨vs, r6, dv6⟩, y7', rfl⟩ := pv
        rw [List.length_map, List.take_length] at dv6
        have fl := flat_len (f := fun t => (sentFrom h p t).filter fun e => decide ((e.2, k) ∈ Fn)) (m := 6) N fun t _ => Nat.le_trans (List.length_filter_le _ _) (sfl t)
        have hR : ∀ i u, (i, u) ∈ (N.flatMap fun t => (sentFrom h p t).filter fun e => decide ((e.2, k) ∈ Fn)) ↔ ∃ t, Near h p (k + 1) S0 t ∧ (i, u) ∈ sentFrom h p t ∧ Dist h p k u := fun i u => by
          rw [List.mem_flatMap]
          constructor
          · rintro ⟨t, ht, hm⟩
            obtain ⟨h1, h2⟩ := List.mem_filter.mp hm
            have hu := hsl t (nk' t ht) i u h1
            exact ⟨t, (hN t).mp ht, h1, (An.di u hu k).mp (of_decide_eq_true h2)⟩
          · rintro ⟨t, ht, h1, h2⟩
            have htN := (hN t).mpr ht
            have hu := hsl t (nk' t htN) i u h1
            exact ⟨t, htN, List.mem_filter.mpr ⟨h1, decide_eq_true ((An.di u hu k).mpr h2)⟩⟩
        have hRk : ∀ e ∈ (N.flatMap fun t => (sentFrom h p t).filter fun e => decide ((e.2, k) ∈ Fn)), e.2 ∈ keys := fun e he => by
          obtain ⟨t, ht, h1, _⟩ := (hR e.1 e.2).mp he
          exact hsl t (nk' t ((hN t).mpr ht)) e.1 e.2 h1
        generalize (N.flatMap fun t => (sentFrom h p t).filter fun e => decide ((e.2, k) ∈ Fn)) = R at dv6 fl hR hRk
        have Rne : R ≠ [] := by
          have hb : ∃ b, Near h p (k + 1) S0 b ∧ Base h p (k + 1) b := by
            have := Dist.back (h := h) (p := p) (m := k + 1) (fun t => Near h p (k + 1) S0 t → ∃ b, Near h p (k + 1) S0 b ∧ Base h p (k + 1) b) (fun t b _ n => ⟨t, n, b⟩) (fun t u hu _ du ih n => ih (.step n hu du)) ht0.ok
            exact this ht0
          obtain ⟨b, nb, bb⟩ := hb
          obtain ⟨i, u, h1, h2⟩ := bb.dist nb.ok
          have := (hR i u).mpr ⟨b, nb, h1, h2⟩
          intro z
          rw [z] at this
          exact nomatch this
        -- least = min([..])
        refine ⟨.ref r, rfl, r, vs, R.map ek, rfl, SqL.of r6, dv6, fun J wk D hD => lc_dat (K := K) wk (fun j => some ((fun e : Nat × St4 => nk e.1) (R.getD j (0, start4)))) hD (by rw [List.length_map]; omega) (fun H' s => ⟨s.seq (SqL.of r6), .same s⟩) (fun j z H8 H9 Nx hj s8 yy no yes => ?_) (fun H8 us8 s8 hD8 ds8 => ?_)⟩
        · obtain ⟨rfl, k2, ek2, dz⟩ := yy
          obtain ⟨hj', ek2⟩ := map_get (0, start4) ek2
          subst ek2
          obtain ⟨a3, w1, w2, rfl, sq3, dw1, dw2⟩ := of_tup2 dz
          exact ⟨a3, _, rfl, sq3, rfl, w1, _, rfl, w2, _, rfl, rfl, rfl, w1, rfl, yes _ _ _ rfl (fun _ _ z => z) dw1⟩
        have eu : us8 = (R.map (·.1)).map iv := by
          rw [List.length_map, range_map_get (l := R) (g := fun e : Nat × St4 => nk e.1) (0, start4) rfl] at ds8
          refine of_nks (K := K) (H := H8) ?_
          rw [List.map_map]
          exact ds8
        subst eu
        refine ⟨D, (R.map (·.1)).map fun n : Nat => (n : Int), rfl, SqL.of (by rw [of_ints rfl]; exact hD8), ?_, fun mi hmi hmin => ?_⟩
        · rw [List.length_map, List.length_map]
          exact List.length_pos_iff.mpr Rne
        obtain ⟨i0, hi0, rfl⟩ := List.mem_map.mp hmi
        obtain ⟨e0, he0, rfl⟩ := List.mem_map.mp hi0
        have hmin' : ∀ e ∈ R, e0.1 ≤ e.1 := fun e he => by
          have := hmin (e.1 : Int) (List.mem_map.mpr ⟨e.1, List.mem_map.mpr ⟨e, he, rfl⟩, rfl⟩)
          omega
        -- log.append(least)
        have l8 := s8 _ _ l6
        have r8 := s8 _ _ r6
        refine ⟨.ref l, rfl, .inl ⟨rfl, _, SqL.of l8⟩, iv e0.1, rfl, l, _, _, rfl, rfl, l8, (by rw [List.length_map]; omega), ?_⟩
        have t9 : TX H8 (upd H8 l (.lst (pre.map iv ++ [iv e0.1]))) := TX.lst l8
        have s68 := sametr s6 s8
        have s9 : Same H (upd H8 l (.lst (pre.map iv ++ [iv e0.1]))) := same_upd s68 hl
        have l9 : (upd H8 l (.lst (pre.map iv ++ [iv e0.1]))) l = some (.lst ((pre ++ [e0.1]).map iv)) := by rw [upd_same, List.map_append]; rfl
        have r9 : (upd H8 l (.lst (pre.map iv ++ [iv e0.1]))) r = some (.lst vs) := (upd_ne lr.symm).trans r8
        have dv9 := (dv6.tx (.same s8)).tx t9
        generalize upd H8 l (.lst (pre.map iv ++ [iv e0.1])) = H9 at t9 s9 l9 r9 dv9
        -- stands = near_ones(..)
        refine ⟨.ref dc, rfl, .ref dn, rfl, .ref r, rfl, r, vs, R.map ek, rfl, SqL.of r9, dv9, fun J wk D2 hD2 => lc_dat (K := K) wk (fun j => if (fun e : Nat × St4 => decide (e.1 = e0.1)) (R.getD j (0, start4)) = true then some ((fun e : Nat × St4 => sk e.2) (R.getD j (0, start4))) else none) hD2 (by rw [List.length_map]; omega) (fun H' s => ⟨s.seq (SqL.of r9), .same s⟩) (fun j z H10 H11 Nx hj s10 yy no yes => ?_) (fun H10 us10 s10 hD10 ds10 => ?_)⟩
        · obtain ⟨rfl, k2, ek2, dz⟩ := yy
          obtain ⟨hj', ek2⟩ := map_get (0, start4) ek2
          subst ek2
          generalize R.getD j (0, start4) = e at dz no yes
          obtain ⟨a3, w1, w2, rfl, sq3, dw1, dw2⟩ := of_tup2 dz
          refine ⟨a3, _, rfl, sq3, rfl, w1, _, rfl, w2, _, rfl, rfl, rfl, w1, rfl, iv e0.1, rfl, nk e.1, nk e0.1, dw1, dv_nk, sm_nk _, sm_nk _, _, rfl, ?_⟩
          by_cases di : e.1 = e0.1
          · rw [decide_eq_true (by rw [di])]
            refine iteT ⟨w2, rfl, yes _ _ _ ?_ (fun _ _ z => z) dw2⟩
            rw [if_pos (decide_eq_true di)]
          · rw [decide_eq_false (fun z => di (nk_inj z))]
            refine iteF (no ?_ _ fun _ _ z => z)
            rw [if_neg (by simpa using di)]
        have ds11 : DVs K H10 (((R.filter fun e => decide (e.1 = e0.1)).map (·.2)).map sk) us10 := by
          rw [List.length_map, range_filter (l := R) (g := fun e : Nat × St4 => sk e.2) (p := fun e : Nat × St4 => decide (e.1 = e0.1)) (0, start4) rfl] at ds10
          rw [List.map_map]
          exact ds10
        have s910 := sametr s9 s10
        refine ⟨iv k, rfl, h, p, dc, dn, D2, k, oc, xc, us10, keys, Fn, (R.filter fun e => decide (e.1 = e0.1)).map (·.2), rfl, fc.tx (.same s910), mc.tx (.same s910), kl, hcl, An.on s910, SqL.of hD10, ds11, fun t ht => ?_, ?_, fun N2 nd2 hN2 nk2 a2 us11 H11 s11 a20 a21 ds12 => ?_⟩
        · obtain ⟨e, he, rfl⟩ := List.mem_map.mp ht
          exact hRk e (List.mem_filter.mp he).1
        · rw [List.length_map]
          have := List.length_filter_le (fun e : Nat × St4 => decide (e.1 = e0.1)) R
          omega
        have hls : (fun x => x ∈ (R.filter fun e => decide (e.1 = e0.1)).map (·.2)) = fun u => ∃ t, Near h p (k + 1) S0 t ∧ (e0.1, u) ∈ sentFrom h p t ∧ Dist h p k u := funext fun u => propext (by
          rw [← hR, List.mem_map]
          constructor
          · rintro ⟨e, he, rfl⟩
            obtain ⟨h1, h2⟩ := List.mem_filter.mp he
            rw [← of_decide_eq_true h2]
            exact h1
          · intro hm
            exact ⟨(e0.1, u), List.mem_filter.mpr ⟨hm, decide_eq_true rfl⟩, rfl⟩)
        rw [hls] at hN2
        obtain ⟨tb, htb, hsb, hdb⟩ := (hR e0.1 e0.2).mp he0
        refine ⟨k, Nat.lt_succ_self k, k, pre ++ [e0.1], N2, _, a2, us11, _, _, _, rfl, sametr s910 s11, ?_, s910.free a20, s11 _ _ (s10 _ _ l9), a21, ds12, nd2, hN2, nk2, ⟨e0.2, .base ⟨tb, htb, hsb, hdb⟩ hdb⟩, ?_, fun lg q => ?_, rfl⟩
        · exact ne_of_none (s10 _ _ l9) a20
        · rw [List.length_append]
          simp only [List.length_cons, List.length_nil]
          omega
        · rw [List.append_assoc]
          exact hlog _ (.cons ⟨tb, e0.2, htb, hsb, hdb⟩ (fun j t u ht hs hd => hmin' (j, u) ((hR j u).mpr ⟨t, ht, hs, hd⟩)) q)
  · rw [nmK_out m]
    refine iteT (qn (.inl ⟨rfl, ?_⟩) H fun _ _ z => z)
    rintro ⟨j, rj⟩
    obtain ⟨i, _, di⟩ := rj.dist
    exact m (List.mem_map.mpr ⟨(start4, i), (An.di _ k0 i).mpr di, rfl⟩)
end
end K14

/-! W22: end_of, pair_layers, leads_to. -/
namespace K14
open PySem PySem.Spec PyProof.Rows L2
theorem flK_put2 {α : Type} [DecidableEq α] {g : α → NestedKey} (gi : ∀ a b, g a = g b → a = b) (qs : List α) (q : α) : ∃ qs', putK (flK g qs) (g q) (V.bl true) = flK g qs' ∧ (∀ x, x ∈ qs' ↔ x ∈ qs ∨ x = q) ∧ (qs.Nodup → qs'.Nodup) := by
  by_cases m : q ∈ qs
  · refine ⟨qs, ?_, fun x => ⟨.inl, fun z => z.elim id fun e => by rw [e]; exact m⟩, id⟩
    rw [putK_in _ (flK_in gi m)]
    unfold flK
    rw [List.map_map]
    refine List.map_congr_left fun x _ => ?_
    show (if g x = g q then (g x, V.bl true) else (g x, V.bl true)) = (g x, V.bl true)
    split <;> rfl
  · exact ⟨qs ++ [q], flK_put gi m, fun x => by simp, fun nd => List.nodup_append.mpr ⟨nd, by simp, fun a ha b hb e => m (by rw [List.mem_singleton.mp hb] at e; rw [← e]; exact ha)⟩⟩
/-- the layers as they stand in a list -/
def LayV (K : PySem.W.Frag) (H : Hp) (qss : List (List Pr)) (vs : List V) : Prop := Paired (fun (qs : List Pr) v => LVal K H (qs.map pk) v) qss vs
theorem LayV.tx {K : PySem.W.Frag} {H H' : Hp} {qss : List (List Pr)} {vs : List V} (h : LayV K H qss vs) (t : TX H H') : LayV K H' qss vs := Paired.mapP h fun _ _ z => z.tx t
theorem Lay.prOk {h : Hd} (o : h.Ok) {log : List Nat} (hl : ∀ k ∈ log, k < h.K) {i : Nat} {q : Pr} (l : Lay h log i q) : PrOk h q := ⟨l.reached.lt o, l.held hl⟩
theorem take_snoc {α : Type} {l : List α} {i : Nat} (d : α) (hi : i < l.length) : l.take (i + 1) = l.take i ++ [l.getD i d] := by
  rw [List.take_add_one, List.getElem?_eq_getElem hi]
  simp [List.getD, List.getElem?_eq_getElem hi]
theorem getD_mem {α : Type} {l : List α} {i : Nat} (d : α) (hi : i < l.length) : l.getD i d ∈ l := by
  simp [List.getD, List.getElem?_eq_getElem hi]
section
variable {P : Program} {w : World} {K : PySem.W.Frag} {mg : Str → Option Value} {base : Heap} {C S : Addr} {tH tP : Tok} {f : Addr} {fd : FuncData}
theorem sc_end_of : FnScope ["handler", "log", "here", "index"] ["handler", "log"] (defScope s_end_of) := ⟨rfl, rfl, rfl, by decide +kernel, rfl, by decide +kernel, by decide +kernel⟩
def sp_end_of (K : PySem.W.Frag) : Sp := fun vs H Q _ => ∃ h l v u, vs = [v, u] ∧ h.Ok ∧ DV K H (hk h) v ∧ DV K H (lk l) u ∧ (∀ k ∈ l, k < h.K) ∧ Q (iv (h.run 0 l)) H
theorem ok_end_of (T : Txt K mg C S tH tP) (F : FnP K "end_of" "end_of" s_end_of f fd) : FnOk P w K mg base CX0 1 f fd ["handler", "log"] (sp_end_of K) := by
  refine F.ok sc_end_of (fun vs H Q E h => ?_) (fun cdv A outer s H vs Q E hr h => ⟨_, PSs.nox ((pss_cons (ps_set (i := 2) sc_end_of.nd rfl (.inl rfl) pe_int)
  (pss_cons (ps_for PassesOwn.never rfl (pi_tupK P w K ⟨rfl, rfl, rfl⟩ (pv 1)) (pg_name (i := 3) sc_end_of.nd rfl (.inl rfl))
    (pss_one (ps_set (i := 2) sc_end_of.nd rfl (.inl rfl) (pe_ix (ix_datK P w K ⟨rfl, rfl, rfl⟩) (pe_ix (ix_datK P w K ⟨rfl, rfl, rfl⟩) (pe_ix (ix_datK P w K ⟨rfl, rfl, rfl⟩) (pe_ix (ix_datK P w K ⟨rfl, rfl, rfl⟩) (pv 0) pe_int (fun _ _ => rfl)) (pv 3) (fun _ _ => rfl)) pe_int (fun _ _ => rfl)) (pv 2) (fun _ _ => rfl)))))
  (pss_one (ps_ret (pv 2)))))), ?_⟩)
  · obtain ⟨h, l, v, u, rfl, _⟩ := h
    rfl
  · obtain ⟨h, l, v, u, rfl, o, d, dl, hl, q⟩ := h
    obtain ⟨a, rfl, sq⟩ := of_lk dl
    refine ⟨_, rfl, a, rfl, ⟨_, sq⟩, for_it (walk_tup (xs := l.map iv)) (fun i σ H' => H' = H ∧ ∃ y, σ = [some v, some (.ref a), some (iv (h.run 0 (l.take i))), y]) ⟨rfl, _, rfl⟩ (fun i σ H' _ p => by rw [p.1]; exact sq) (fun i x σ H1 H2 hi p y => ?_) (fun σ H1 p => ?_)⟩
    · obtain ⟨e1, y3, e2⟩ := p
      obtain ⟨e3, ex⟩ := y
      subst e1 e2 e3
      obtain ⟨hi', ex⟩ := of_iv ex
      subst ex
      refine ⟨_, rfl, step_rd o d rfl rfl (hl _ (List.getElem_mem _)) (h.run_lt o _ o.pos) ⟨rfl, some (iv l[i]), ?_⟩⟩
      rw [run_take hi']
      rfl
    · obtain ⟨e1, y3, e2⟩ := p
      subst e1 e2
      rw [List.length_map, List.take_length]
      exact ⟨_, rfl, q⟩
theorem sc_leads_to : FnScope ["courier", "pair", "goals", "index", "there"] ["courier", "pair", "goals", "index"] (defScope s_leads_to) := ⟨rfl, rfl, rfl, by decide +kernel, rfl, by decide +kernel, by decide +kernel⟩
def sp_leads_to (P : Program) (w : World) (K : PySem.W.Frag) (C : Addr) : Sp := fun vs H Q _ => ∃ h c u dg k q, ∃ G : List Pr, vs = [.ref c, u, .ref dg, iv k] ∧ h.Ok ∧ CoAt K C H c h ∧ DV K H (pk q) u ∧ PrOk h q ∧ k < h.K ∧ NDr P w K H dg (flK pk G) ∧
  ∀ b H', Same H H' → (b = true ↔ ∃ q' ∈ sendP h q k, q' ∈ G) → Q (.bl b) H'
theorem ok_leads_to (T : Txt K mg C S tH tP) (F : FnP K "leads_to" "leads_to" s_leads_to f fd) (gm_send_from : OkM P w K mg base C "send_from" 2 ["self", "pair", "index"] (sp_send_from K C)) : FnOk P w K mg base CX0 3 f fd ["courier", "pair", "goals", "index"] (sp_leads_to P w K C) := by
  refine F.ok sc_leads_to (fun vs H Q E h => ?_) (fun cdv A outer s H vs Q E hr h => ⟨_, PSs.nox ((pss_one (ps_ret (pe_callB (cr_anyK P w K ⟨rfl, rfl, rfl⟩ rfl) (by rfl) T.z_any (by decide +kernel) (pa_cons (pe_lc (own := [("there", 4)]) (by rfl) sc_leads_to.nd (pi_LDK P w K ⟨rfl, rfl, rfl⟩ (pe_methO (pv 0) T.cl gm_send_from (hr.mono (by decide)) (pa_cons (pv 1) (pa_cons (pv 3) pa_nil)))) (blkOk_by (own := [("there", 4)]) (N := ["courier", "pair", "goals", "index", "there"]) (sc := defScope s_leads_to) (by decide +kernel)) (fun _ _ _ _ _ => (pg_name (i := 4) sc_leads_to.nd rfl (Or.inl rfl))) (fun _ _ _ _ _ => pts_nil) (fun _ _ _ _ _ => (pe_cmpR (op_ninK P w K ⟨rfl, rfl, rfl⟩ hr) (pv 4) (pv 2) rfl))) pa_nil))))), ?_⟩)
  · obtain ⟨h, c, u, dg, k, q, G, rfl, _⟩ := h
    rfl
  obtain ⟨h, c, u, dg, k, q, G, rfl, o, A, du, pq, hkK, ng, qq⟩ := h
  have small : 200 < sizeLine := by decide
  obtain ⟨dx, hv, he, c1, c2, c3⟩ := A.ex
  have no1 : (cflds hv he).lookup ("send_from" : Str) = none := cf_no _ _ (by decide +kernel) (by decide +kernel) (by decide +kernel) (by decide +kernel)
  have sl := sendP_len h q k
  refine ⟨.ref c, rfl, c, dx, _, rfl, c1, no1, u, rfl, iv k, rfl, h, c, u, k, q, rfl, o, A, du, pq, hkK, fun p us H1 s1 p0 p1 ds => ⟨p, us, _, rfl, SqL.of p1, ds, fun J wk D hD => ?_⟩⟩
  refine lc_val wk (fun i => some (.bl ((fun i => decide ((sendP h q k).getD i (0, none) ∈ G)) i))) hD (by rw [List.length_map]; omega) (fun H' s => ⟨s.seq (SqL.of p1), .same s⟩) (fun i x H2 H3 Nx hi s2 y no yes => ?_) (fun H2 s2 hD2 => ?_)
  · obtain ⟨rfl, k0, ek0, dk⟩ := y
    obtain ⟨hi', ek0⟩ := map_get (0, none) ek0
    subst ek0
    generalize hq' : (sendP h q k).getD i (0, none) = q' at dk
    refine ⟨rfl, x, rfl, .ref dg, rfl, dg, _, rfl, nget_of (ng.same (sametr s1 s2)) dk (pk_depth q'), ?_⟩
    rw [show valV (flK pk G) (NestedKey.tup [nk q'.1, lk q'.2.toList]) = valV (flK pk G) (pk q') from rfl]
    by_cases m : q' ∈ G
    · rw [flK_in pk_inj m]
      exact yes _ _ (by show some (V.bl (decide ((sendP h q k).getD i (0, none) ∈ G))) = some (V.bl true); rw [hq', decide_eq_true m]) fun _ _ z => z
    · rw [flK_out pk_inj m]
      exact yes _ _ (by show some (V.bl (decide ((sendP h q k).getD i (0, none) ∈ G))) = some (V.bl false); rw [hq', decide_eq_false m]) fun _ _ z => z
  · refine ⟨D, _, rfl, SqL.of (hD2.trans (by rw [bools_map])), qq _ H2 (sametr s1 s2) ?_⟩
    rw [List.any_eq_true]
    constructor
    · rintro ⟨b, hb, e⟩
      obtain ⟨i, hi, rfl⟩ := List.mem_map.mp hb
      rw [List.length_map] at hi
      exact ⟨_, getD_mem _ (List.mem_range.mp hi), of_decide_eq_true e⟩
    · rintro ⟨q', hq, hG⟩
      obtain ⟨i, hi, rfl⟩ := List.getElem_of_mem hq
      refine ⟨true, List.mem_map.mpr ⟨i, by rw [List.length_map]; exact List.mem_range.mpr hi, ?_⟩, rfl⟩
      have e : (sendP h q k).getD i (0, none) = (sendP h q k)[i] := by simp [List.getD, List.getElem?_eq_getElem hi]
      rw [e]
      exact decide_eq_true hG
theorem sc_pair_layers : FnScope ["courier", "log", "found", "index", "later", "pair", "there"] ["courier", "log"] (defScope s_pair_layers) := ⟨rfl, rfl, rfl, by decide +kernel, rfl, by decide +kernel, by decide +kernel⟩
def sp_pair_layers (K : PySem.W.Frag) (C : Addr) : Sp := fun vs H Q _ => ∃ h c lg log, vs = [.ref c, lg] ∧ h.Ok ∧ CoAt K C H c h ∧ DV K H (lk log) lg ∧ (∀ k ∈ log, k < h.K) ∧ log.length ≤ 1000 ∧
  ∀ l vs qss H', Same H H' → H l = none → H' l = some (.lst vs) → LayV K H' qss vs → qss.length = log.length + 1 → (∀ j qs, qss[j]? = some qs → qs.Nodup ∧ ∀ q, q ∈ qs ↔ Lay h log j q) → Q (.ref l) H'
theorem ok_pair_layers (T : Txt K mg C S tH tP) (F : FnP K "pair_layers" "pair_layers" s_pair_layers f fd) (gm_closed : OkM P w K mg base C "closed" 3 ["self", "pairs"] (sp_closed K C)) (gm_send_from : OkM P w K mg base C "send_from" 2 ["self", "pair", "index"] (sp_send_from K C)) :
    FnOk P w K mg base CX0 4 f fd ["courier", "log"] (sp_pair_layers K C) := by
  refine F.ok sc_pair_layers (fun vs H Q E h => ?_) (fun cdv A outer s H vs Q E hr h => ⟨_, PSs.nox ((pss_cons (ps_set (i := 2) sc_pair_layers.nd rfl (.inl rfl) (pe_lst (pa_cons (pe_frz (pe_methO (pv 0) T.cl gm_closed (hr.mono (by decide)) (pa_cons (pe_lst (pa_cons (pe_tupDK P w K ⟨rfl, rfl, rfl⟩ (pa_cons pe_int (pa_cons (pe_tupDK P w K ⟨rfl, rfl, rfl⟩ pa_nil) pa_nil))) pa_nil)) pa_nil))) pa_nil)))
  (pss_cons (ps_for PassesOwn.never rfl (pi_tupK P w K ⟨rfl, rfl, rfl⟩ (pv 1)) (pg_name (i := 3) sc_pair_layers.nd rfl (.inl rfl))
    (pss_cons (ps_set (i := 4) sc_pair_layers.nd rfl (.inl rfl) (pe_nnewK P w K ⟨rfl, rfl, rfl⟩))
  (pss_cons (ps_for PassesOwn.never rfl (pi_LDK P w K ⟨rfl, rfl, rfl⟩ (pe_ix (ix_listK P w K ⟨rfl, rfl, rfl⟩) (pv 2) (pe_un un_neg pe_int) (fun _ _ => rfl))) (pg_name (i := 5) sc_pair_layers.nd rfl (.inl rfl))
    (pss_one (ps_for PassesOwn.never rfl (pi_LDK P w K ⟨rfl, rfl, rfl⟩ (pe_methO (pv 0) T.cl gm_send_from (hr.mono (by decide)) (pa_cons (pv 5) (pa_cons (pv 3) pa_nil)))) (pg_name (i := 6) sc_pair_layers.nd rfl (.inl rfl))
    (pss_one (ps_asg pe_bl (pg_sub (pv 4) (pv 6) (set_ndK P w K ⟨rfl, rfl, rfl⟩ hr)))))))
  (pss_one (ps_expr (pe_bmK P w K ⟨rfl, rfl, rfl⟩ PySem.F.plainAttrs_list PySem.F.slot_list_append PySem.F.type_list_append mt_append (pv 2) (pa_cons (pe_frz (pe_methO (pv 0) T.cl gm_closed (hr.mono (by decide)) (pa_cons (pe_callTy (cr_nlistK P w K ⟨rfl, rfl, rfl⟩ rfl) (by rfl) T.z_list (by decide +kernel) (pa_cons (pv 4) pa_nil)) pa_nil))) pa_nil)))))))
  (pss_one (ps_ret (pv 2)))))), ?_⟩)
  · obtain ⟨h, c, lg, log, rfl, _⟩ := h
    rfl
  obtain ⟨h, c, lg, log, rfl, o, A, dl, hl, ll, q⟩ := h
  have small : 2000 < sizeLine := by decide
  have ul := univP_len o
  obtain ⟨dx, hv, he, c1, c2, c3⟩ := A.ex
  have no1 : (cflds hv he).lookup ("closed" : Str) = none := cf_no _ _ (by decide +kernel) (by decide +kernel) (by decide +kernel) (by decide +kernel)
  refine ⟨.ref c, rfl, c, dx, _, rfl, c1, no1, [], dvs_nil, Nat.zero_le _, fun e0 H1 s1 de => ⟨[nk 0, .tup []], dvs_cons dv_nk (dvs_cons de dvs_nil), (by show 2 ≤ sizeLine; decide), fun pr H2 s2 dpr => ⟨(by show 1 ≤ sizeLine; decide), fun a ha => ?_⟩⟩⟩
  have s12 := sametr s1 (sametr s2 (same_new (o := .lst [pr]) ha))
  have dpr2 : DV K (upd H2 a (.lst [pr])) (pk (0, none)) pr := dpr.tx (.new ha)
  refine ⟨h, c, a, [pr], [(0, none)], rfl, o, A.on s12, SqL.of upd_same, dvs_cons dpr2 dvs_nil, fun q hq => ?_, by show 1 ≤ 1000; omega, fun qs0 nd0 hq0 p us H3 s3 p0 p1 ds3 => ⟨p, _, rfl, p1, trivial, fun od => ⟨(by show 1 ≤ sizeLine; decide), fun l hl1 => ?_⟩⟩⟩
  · rw [List.mem_singleton.mp hq]
    exact ⟨o.pos, fun k e => by cases e⟩
  have t4 : TX H3 (upd H3 p (.frz od (.lst us))) := TX.lst p1
  have p00 : H p = none := s12.free p0
  have s4 : Same H (upd H3 p (.frz od (.lst us))) := same_upd (sametr s12 s3) p00
  have lv4 : LVal K (upd H3 p (.frz od (.lst us))) (qs0.map pk) (.ref p) := ⟨p, od, us, rfl, upd_same, ds3.tx t4⟩
  generalize upd H3 p (.frz od (.lst us)) = H4 at t4 s4 lv4 hl1 ⊢
  have s5 : Same H4 (upd H4 l (.lst [.ref p])) := same_new hl1
  have l0 : H l = none := s4.free hl1
  obtain ⟨al, rfl, sqlg⟩ := of_lk dl
  have hl0 : (fun x => x ∈ [((0, none) : Pr)]) = fun x => x = (0, none) := funext fun x => propext (by simp)
  rw [hl0] at hq0
  have s05 := sametr s4 s5
  refine ⟨.ref al, rfl, al, rfl, ⟨_, sqT_tx (.same s05) sqlg⟩, for_it (walk_tup (xs := log.map iv)) (fun i σ H' => Same H H' ∧ (∃ (qss : List (List Pr)) (qs : List Pr) (vs : List V) (v : V), H' l = some (.lst (vs ++ [v])) ∧ LayV K H' qss vs ∧ LVal K H' (qs.map pk) v ∧ qss.length = i ∧ (∀ j qs', qss[j]? = some qs' → qs'.Nodup ∧ ∀ q, q ∈ qs' ↔ Lay h log j q) ∧ qs.Nodup ∧ (∀ q, q ∈ qs ↔ Lay h log i q)) ∧
      ∃ y3 y4 y5 y6, σ = [some (.ref c), some (.ref al), some (.ref l), y3, y4, y5, y6])
    ⟨s05, ⟨[], qs0, [], .ref p, upd_same, .nil, lv4.tx (.same s5), rfl, (fun j qs' e => by simp at e), nd0, fun q => (hq0 q).trans (lay_zero q).symm⟩, _, _, _, _, rfl⟩ (fun i σ H' _ pv => sqT_tx (.same pv.1) sqlg) (fun i x σ H6 H7 hi pv y => ?_) (fun σ H6 pv => ?_)⟩
  · obtain ⟨s6, ⟨qss, qs, vs, v, l6, lv6, lw6, ql, hqss, qnd, hqs⟩, y3, y4, y5, y6, rfl⟩ := pv
    obtain ⟨rfl, ex⟩ := y
    obtain ⟨hi', ex⟩ := of_iv ex
    subst ex
    have hik : log[i]? = some log[i] := List.getElem?_eq_getElem hi'
    have hkK : log[i] < h.K := hl _ (List.getElem_mem hi')
    have hsucc := lay_succ (h := h) hik
    generalize log[i] = k at hkK hsucc
    intro d H8 hd ho8 s8 nd8
    have l8 := s8 _ _ l6
    have d0 : H d = none := s6.free hd
    have dln : d ≠ l := fun e => by rw [e, l6] at hd; cases hd
    obtain ⟨lb, lo, lus, rfl, f1, f2⟩ := lw6.tx (.same s8)
    have sq8 : SqL K H8 lb lus := .inl (.inr ⟨lo, f1⟩)
    have qok : ∀ q ∈ qs, PrOk h q := fun q hq => ((hqs q).mp hq).prOk o hl
    refine ⟨.ref l, rfl, 1, rfl, l, _, -1, .ref lb, rfl, rfl, SqL.of l8, atI_last _ _, lb, lus, _, rfl, sq8, f2, fun J wk => for_it wk (fun j σ H' => Same H H' ∧ TX H8 H' ∧ H' l = some (.lst (vs ++ [.ref lb])) ∧ (∃ keys : List Pr, ND P w K H' d (flK pk keys) ∧ keys.Nodup ∧ ∀ x, x ∈ keys ↔ ∃ q0 ∈ qs.take j, x ∈ sendP h q0 k) ∧ ∃ y5 y6, σ = [some (.ref c), some (.ref al), some (.ref l), some (iv k), some (.ref d), y5, y6])
      ⟨sametr s6 s8, .refl _, l8, ⟨[], nd8, List.nodup_nil, fun x => by simp⟩, _, _, rfl⟩ (fun j σ H' _ pv => ⟨.inl (.inr ⟨lo, pv.2.1.frz _ _ _ f1⟩), pv.2.1⟩) (fun j x σ H9 H10 hj pv y => ?_) (fun σ H9 pv => ?_)⟩
    · obtain ⟨s9, t9, l9, ⟨keys, nd9, kn, hkeys⟩, z5, z6, rfl⟩ := pv
      obtain ⟨rfl, k0, ek0, dx'⟩ := y
      obtain ⟨hj', ek0⟩ := map_get (0, none) ek0
      subst ek0
      rw [take_snoc (0, none) hj']
      have pq := qok _ (getD_mem (0, none) hj')
      generalize qs.getD j (0, none) = q0 at dx' pq
      have A9 := A.on s9
      obtain ⟨dx9, hv9, he9, c4, c5, c6⟩ := A9.ex
      have no2 : (cflds hv9 he9).lookup ("send_from" : Str) = none := cf_no _ _ (by decide +kernel) (by decide +kernel) (by decide +kernel) (by decide +kernel)
      refine ⟨.ref c, rfl, c, dx9, _, rfl, c4, no2, x, rfl, iv k, rfl, h, c, x, k, q0, rfl, o, A9, dx', pq, hkK, fun p2 us2 H11 s11 p20 p21 ds11 => ⟨p2, us2, _, rfl, SqL.of p21, ds11, fun J2 wk2 => ?_⟩⟩
      have p200 : H p2 = none := s9.free p20
      have dp2 : d ≠ p2 := by
        obtain ⟨x1, e1, _⟩ := nd9
        exact ne_of_none e1 p20
      refine for_it wk2 (fun m σ H' => Same H H' ∧ TX H11 H' ∧ H' p2 = some (.lst us2) ∧ H' l = some (.lst (vs ++ [.ref lb])) ∧ (∃ keys' : List Pr, ND P w K H' d (flK pk keys') ∧ keys'.Nodup ∧ ∀ x, x ∈ keys' ↔ (x ∈ keys ∨ x ∈ (sendP h q0 k).take m)) ∧ ∃ z6, σ = [some (.ref c), some (.ref al), some (.ref l), some (iv k), some (.ref d), some x, z6])
        ⟨sametr s9 s11, .refl _, p21, s11 _ _ l9, ⟨keys, nd9.same s11, kn, fun x => by simp⟩, _, rfl⟩ (fun m σ H' _ pv => ⟨SqL.of pv.2.2.1, pv.2.1⟩) (fun m y σ H12 H13 hm pv yy => ?_) (fun σ H12 pv => ?_)
      · obtain ⟨s12', t12, p12, l12, ⟨keys', nd12, kn', hkeys'⟩, z6, rfl⟩ := pv
        obtain ⟨rfl, k1, ek1, dy⟩ := yy
        obtain ⟨hm', ek1⟩ := map_get (0, none) ek1
        subst ek1
        rw [take_snoc (0, none) hm']
        generalize (sendP h q0 k).getD m (0, none) = q1 at dy
        have kl : keys'.length ≤ 56 := Nat.le_trans (nodup_len kn' fun x hx => by
          rcases (hkeys' x).mp hx with z | z
          · obtain ⟨q2, h2, h3⟩ := (hkeys x).mp z
            exact mem_univP (sendP_ok o hkK (qok q2 (List.mem_of_mem_take h2)) h3)
          · exact mem_univP (sendP_ok o hkK pq (List.mem_of_mem_take z))) ul
        refine ⟨.ref d, rfl, y, rfl, d, _, _, rfl, nd12, dy, pk_depth q1, ?_, fun H14 ho14 t14 nd14 => ?_⟩
        · rw [show (flK pk keys').length = keys'.length from List.length_map _]; omega
        obtain ⟨qs', e1, e2, e3⟩ := flK_put2 pk_inj keys' q1
        rw [show NestedKey.tup [nk q1.1, lk q1.2.toList] = pk q1 from rfl, e1] at nd14
        refine ⟨fun c' o' z => ?_, t12.trans t14, (ho14 _ dp2.symm).trans p12, (ho14 _ dln.symm).trans l12, ⟨qs', nd14, e3 kn', fun x => ?_⟩, _, rfl⟩
        · have ne : c' ≠ d := fun e => by rw [e, d0] at z; cases z
          rw [ho14 c' ne]
          exact s12' _ _ z
        · rw [e2, hkeys', List.mem_append, List.mem_singleton, or_assoc]
      · obtain ⟨s12', t12, p12, l12, ⟨keys', nd12, kn', hkeys'⟩, z6, rfl⟩ := pv
        rw [List.length_map, List.take_length] at hkeys'
        refine ⟨s12', t9.trans ((TX.same s11).trans t12), l12, ⟨keys', nd12, kn', fun x => ?_⟩, _, _, rfl⟩
        rw [hkeys', hkeys]
        constructor
        · rintro (⟨q2, h2, h3⟩ | h3)
          · exact ⟨q2, List.mem_append_left _ h2, h3⟩
          · exact ⟨q0, by simp, h3⟩
        · rintro ⟨q2, h2, h3⟩
          rcases List.mem_append.mp h2 with h2 | h2
          · exact .inl ⟨q2, h2, h3⟩
          · rw [List.mem_singleton.mp h2] at h3
            exact .inr h3
    · obtain ⟨s9, t9, l9, ⟨keys, nd9, kn, hkeys⟩, z5, z6, rfl⟩ := pv
      rw [List.length_map, List.take_length] at hkeys
      have kok : ∀ x ∈ keys, PrOk h x := fun x hx => by
        obtain ⟨q2, h2, h3⟩ := (hkeys x).mp hx
        exact sendP_ok o hkK (qok q2 h2) h3
      have A9 := A.on s9
      obtain ⟨dx9, hv9, he9, c4, c5, c6⟩ := A9.ex
      have no2 : (cflds hv9 he9).lookup ("closed" : Str) = none := cf_no _ _ (by decide +kernel) (by decide +kernel) (by decide +kernel) (by decide +kernel)
      refine ⟨.ref l, rfl, .inl ⟨rfl, _, SqL.of l9⟩, .ref c, rfl, c, dx9, _, rfl, c4, no2, .ref d, rfl, ?_⟩
      dsimp only [tNil]
      refine nlist_rd nd9.r fun a2 us2 H10 s10 a20 a21 ds10 => ?_
      rw [flK_keys] at ds10
      refine ⟨h, c, a2, us2, keys, rfl, o, A9.on s10, SqL.of a21, ds10, kok, ?_, fun qs2 nd2 hq2 p2 us3 H11 s11 p20 p21 ds11 => ⟨p2, _, rfl, p21, trivial, fun od2 => ?_⟩⟩
      · exact Nat.le_trans (nodup_len kn fun x hx => mem_univP (kok x hx)) (by omega)
      have s911 := sametr s10 s11
      have l11 := s911 _ _ l9
      have p200 : H p2 = none := (sametr s9 s10).free p20
      have lp2 : l ≠ p2 := ne_of_none (s10 _ _ l9) p20
      have t12 : TX H11 (upd H11 p2 (.frz od2 (.lst us3))) := TX.lst p21
      have t612 : TX H7 (upd H11 p2 (.frz od2 (.lst us3))) := (TX.same s8).trans (t9.trans ((TX.same s911).trans t12))
      have s12' : Same H (upd H11 p2 (.frz od2 (.lst us3))) := same_upd (sametr s9 s911) p200
      have lv12 : LVal K (upd H11 p2 (.frz od2 (.lst us3))) (qs2.map pk) (.ref p2) := ⟨p2, od2, us3, rfl, upd_same, ds11.tx t12⟩
      have l12 : (upd H11 p2 (.frz od2 (.lst us3))) l = some (.lst (vs ++ [.ref lb])) := (upd_ne lp2).trans l11
      generalize upd H11 p2 (.frz od2 (.lst us3)) = H12 at t12 t612 s12' lv12 l12
      have vl : vs.length = i := by rw [← ql]; exact (Paired.length lv6).symm
      refine ⟨l, _, .ref p2, rfl, rfl, l12, ?_, ?_⟩
      · rw [List.length_append]
        simp only [List.length_cons, List.length_nil]
        rw [List.length_map] at hi
        omega
      have t13 : TX H12 (upd H12 l (.lst (vs ++ [.ref lb] ++ [.ref p2]))) := TX.lst l12
      refine ⟨same_upd s12' l0, ⟨qss ++ [qs], qs2, vs ++ [.ref lb], .ref p2, upd_same, Paired.snoc (lv6.tx (t612.trans t13)) (lw6.tx (t612.trans t13)), lv12.tx t13, by rw [List.length_append, ql]; rfl, fun j qs' e => ?_, nd2, fun q => ?_⟩, _, _, _, _, rfl⟩
      · by_cases hj : j < qss.length
        · rw [List.getElem?_append_left hj] at e
          exact hqss j qs' e
        · rw [List.getElem?_append_right (Nat.le_of_not_lt hj)] at e
          have e0 : j - qss.length = 0 := by
            have := (List.getElem?_eq_some_iff.mp e).1
            simp only [List.length_cons, List.length_nil] at this
            omega
          rw [e0] at e
          have ej : j = i := by omega
          subst ej
          have e' : qs = qs' := Option.some.inj e
          subst e'
          exact ⟨qnd, hqs⟩
      · rw [hq2, hsucc]
        have e : (fun x => x ∈ keys) = fun x => ∃ q0, Lay h log i q0 ∧ x ∈ sendP h q0 k := funext fun x => propext (by
          rw [hkeys]
          exact ⟨fun ⟨q0, h1, h2⟩ => ⟨q0, (hqs q0).mp h1, h2⟩, fun ⟨q0, h1, h2⟩ => ⟨q0, (hqs q0).mpr h1, h2⟩⟩)
        rw [e]
  · obtain ⟨s6, ⟨qss, qs, vs, v, l6, lv6, lw6, ql, hqss, qnd, hqs⟩, y3, y4, y5, y6, rfl⟩ := pv
    rw [List.length_map] at ql hqs
    refine ⟨.ref l, rfl, q l _ (qss ++ [qs]) H6 s6 l0 l6 (Paired.snoc lv6 lw6) (by rw [List.length_append, ql]; rfl) fun j qs' e => ?_⟩
    by_cases hj : j < qss.length
    · rw [List.getElem?_append_left hj] at e
      exact hqss j qs' e
    · rw [List.getElem?_append_right (Nat.le_of_not_lt hj)] at e
      have e0 : j - qss.length = 0 := by
        have := (List.getElem?_eq_some_iff.mp e).1
        simp only [List.length_cons, List.length_nil] at this
        omega
      rw [e0] at e
      have ej : j = log.length := by omega
      subst ej
      have e' : qs = qs' := Option.some.inj e
      subst e'
      exact ⟨qnd, hqs⟩
end
end K14

/-! W23: good_pairs. -/
namespace K14
open PySem PySem.Spec PyProof.Rows L2
theorem noTx_tup {ks : List NestedKey} (h : ∀ k ∈ ks, noTx k = true) : noTx (.tup ks) = true := by
  show noTxs ks = true
  exact noTxs_all h
theorem noTx_nk (n : Nat) : noTx (nk n) = true := rfl
theorem noTx_lk (l : List Nat) : noTx (lk l) = true := noTx_tup fun k hk => by
  obtain ⟨n, _, rfl⟩ := List.mem_map.mp hk
  rfl
theorem noTx_pk (q : Pr) : noTx (pk q) = true := noTx_tup fun k hk => by
  rcases List.mem_cons.mp hk with e | hk
  · rw [e]; rfl
  · rw [List.mem_singleton.mp hk]; exact noTx_lk _
theorem sm_pk (q : Pr) : Sm (pk q) := ⟨pk_depth q, data_shaped (pk_depth q) (noTx_pk q)⟩
section
variable {P : Program} {w : World} {K : PySem.W.Frag} {mg : Str → Option Value} {base : Heap} {C S : Addr} {tH tP : Tok} {f : Addr} {fd : FuncData}
theorem sc_good_pairs : FnScope ["courier", "pairs", "goals", "found", "fresh", "pair", "some", "there"] ["courier", "pairs", "goals"] (defScope s_good_pairs) := ⟨rfl, rfl, rfl, by decide +kernel, rfl, by decide +kernel, by decide +kernel⟩
def sp_good_pairs (P : Program) (w : World) (K : PySem.W.Frag) (C : Addr) : Sp := fun vs H Q _ => ∃ h c vp lg ug, ∃ ps gs : List Pr, vs = [.ref c, vp, .ref lg] ∧ h.Ok ∧ CoAt K C H c h ∧ LVal K H (ps.map pk) vp ∧ SqL K H lg ug ∧ DVs K H (gs.map pk) ug ∧ ps.Nodup ∧ (∀ q ∈ ps, PrOk h q) ∧ (∀ q ∈ ps, ∀ q' ∈ comeP h q, q' ∈ ps) ∧
  ∀ d od xs G H', Same H H' → NDf P w K H' d od xs → kvOf xs = flK pk G → (∀ q, q ∈ G ↔ q ∈ ps ∧ Up h (fun x => x ∈ gs) q) → Q (.ref d) H'
theorem ok_good_pairs (T : Txt K mg C S tH tP) (F : FnP K "good_pairs" "good_pairs" s_good_pairs f fd) (gm_come_from : OkM P w K mg base C "come_from" 2 ["self", "pair"] (sp_come_from K C)) : FnOk P w K mg base CX0 3 f fd ["courier", "pairs", "goals"] (sp_good_pairs P w K C) := by
  refine F.ok sc_good_pairs (fun vs H Q E h => ?_) (fun cdv A outer s H vs Q E hr h => ⟨_, PSs.nox ((pss_cons (ps_set (i := 3) sc_good_pairs.nd rfl (.inr rfl) (pe_nnewK P w K ⟨rfl, rfl, rfl⟩))
  (pss_cons (ps_setLc (i := 4) (own := [("pair", 5)]) (by rfl) sc_good_pairs.nd rfl rfl (sw_true rfl rfl rfl (by decide +kernel)) (pi_LDK P w K ⟨rfl, rfl, rfl⟩ (pv 1)) (blkOk_by (own := [("pair", 5)]) (N := ["courier", "pairs", "goals", "found", "fresh", "pair", "some", "there"]) (sc := defScope s_good_pairs) (by decide +kernel)) (fun _ _ _ _ _ => (pg_name (i := 5) sc_good_pairs.nd rfl (Or.inl rfl))) (fun _ _ _ _ _ => (pts_one (pt_cmpR (op_dinK P w K ⟨rfl, rfl, rfl⟩ hr) (pv 5) (pv 2) rfl))) (fun _ _ _ _ _ => (pv 5)))
  (pss_cons (ps_while PassesOwn.never (pt_cmpR (op_nenilK P w K ⟨rfl, rfl, rfl⟩ hr) (pv 4) (pe_lst pa_nil) (nomark _))
    (pss_cons (ps_for PassesOwn.never rfl (pi_LDK P w K ⟨rfl, rfl, rfl⟩ (pv 4)) (pg_name (i := 5) sc_good_pairs.nd rfl (.inl rfl))
    (pss_one (ps_asg pe_bl (pg_sub (pv 3) (pv 5) (set_ndK P w K ⟨rfl, rfl, rfl⟩ hr)))))
  (pss_cons (ps_setLc (i := 6) (own := [("pair", 5)]) (by rfl) sc_good_pairs.nd rfl rfl (sw_true rfl rfl rfl (by decide +kernel)) (pi_LDK P w K ⟨rfl, rfl, rfl⟩ (pv 1)) (blkOk_by (own := [("pair", 5)]) (N := ["courier", "pairs", "goals", "found", "fresh", "pair", "some", "there"]) (sc := defScope s_good_pairs) (by decide +kernel)) (fun _ _ _ _ _ => (pg_name (i := 5) sc_good_pairs.nd rfl (Or.inl rfl))) (fun _ _ _ _ _ => (pts_one (pt_cmpR (op_nnotinK P w K ⟨rfl, rfl, rfl⟩ hr) (pv 5) (pv 3) rfl))) (fun _ _ _ _ _ => (pv 5)))
  (pss_one (ps_setLc (i := 4) (own := [("pair", 5)]) (by rfl) sc_good_pairs.nd rfl rfl (sw_true rfl rfl rfl (by decide +kernel)) (pi_LDK P w K ⟨rfl, rfl, rfl⟩ (pv 6)) (blkOk_by (own := [("pair", 5)]) (N := ["courier", "pairs", "goals", "found", "fresh", "pair", "some", "there"]) (sc := defScope s_good_pairs) (by decide +kernel)) (fun _ _ _ _ _ => (pg_name (i := 5) sc_good_pairs.nd rfl (Or.inl rfl))) (fun _ _ _ _ _ => (pts_one (pt_val (pe_callB (cr_anyK P w K ⟨rfl, rfl, rfl⟩ rfl) (by rfl) T.z_any (by decide +kernel) (pa_cons (pe_lc (own := [("there", 7)]) (by rfl) sc_good_pairs.nd (pi_LDK P w K ⟨rfl, rfl, rfl⟩ (pe_methO (pv 0) T.cl gm_come_from (hr.mono (by decide)) (pa_cons (pv 5) pa_nil))) (blkOk_by (own := [("there", 7)]) (N := ["courier", "pairs", "goals", "found", "fresh", "pair", "some", "there"]) (sc := relS _ (defScope s_good_pairs)) (by decide +kernel)) (fun _ _ _ _ _ => (pg_name (i := 7) sc_good_pairs.nd rfl (Or.inl rfl))) (fun _ _ _ _ _ => pts_nil) (fun _ _ _ _ _ => (pe_cmpR (op_ninK P w K ⟨rfl, rfl, rfl⟩ hr) (pv 7) (pv 3) rfl))) pa_nil))))) (fun _ _ _ _ _ => (pv 5)))))))
  (pss_one (ps_frz (ps_ret (pv 3)))))))), ?_⟩)
  · obtain ⟨h, c, vp, lg, ug, ps, gs, rfl, _⟩ := h
    rfl
  obtain ⟨h, c, vp, lg, ug, ps, gs, rfl, o, A, lvp, sqg, dsg, pnd, pok, pcl, q⟩ := h
  have small : 2000 < sizeLine := by decide
  have ul := univP_len o
  have pl : ps.length ≤ 56 := Nat.le_trans (nodup_len pnd fun x hx => mem_univP (pok x hx)) ul
  intro d H1 hd ho1 s1 nd1
  obtain ⟨lp, op, up, rfl, f1, f2⟩ := lvp
  have sq1 : SqL K H1 lp up := .inl (.inr ⟨op, s1 _ _ f1⟩)
  have f21 := f2.tx (.same s1)
  have exd : ∀ {H : Hp} {kv : List (NestedKey × V)}, ND P w K H d kv → ∃ o, H d = some o := fun n => by
    obtain ⟨xs, hx, _⟩ := n
    exact ⟨_, hx⟩
  -- fresh
  refine ⟨.ref lp, rfl, lp, up, _, rfl, sq1, f21, fun J wk D hD => lc_dat (K := K) wk (fun i => if (fun q : Pr => decide (q ∈ gs)) (ps.getD i (0, none)) = true then some (pk (ps.getD i (0, none))) else none) hD (by rw [List.length_map]; omega) (fun H' s => ⟨s.seq sq1, .same s⟩) (fun i x H2 H3 Nx hi s2 y no yes => ?_) (fun H2 us2 s2 hD2 ds2 => ?_)⟩
  · obtain ⟨rfl, k0, ek0, dk⟩ := y
    obtain ⟨hi', ek0⟩ := map_get (0, none) ek0
    subst ek0
    generalize ps.getD i (0, none) = q0 at dk no yes
    have s12 := sametr s1 s2
    refine ⟨rfl, x, rfl, .ref lg, rfl, pk q0, gs.map pk, lg, ug, rfl, s12.seq sqg, dsg.tx (.same s12), dk, sm_pk q0, fun j hj => ?_, _, rfl, ?_⟩
    · obtain ⟨q1, _, rfl⟩ := List.mem_map.mp hj
      exact ⟨pk_depth q1, noTx_pk q1⟩
    by_cases m : q0 ∈ gs
    · rw [decide_eq_true (List.mem_map.mpr ⟨q0, m, rfl⟩)]
      refine iteT ⟨x, rfl, yes _ _ _ ?_ (fun _ _ z => z) dk⟩
      rw [if_pos (decide_eq_true m)]
    · have m' : pk q0 ∉ gs.map pk := fun z => by
        obtain ⟨q1, h1, h2⟩ := List.mem_map.mp z
        exact m (by rw [← pk_inj _ _ h2]; exact h1)
      rw [decide_eq_false m']
      refine iteF (no ?_ _ fun _ _ z => z)
      rw [if_neg (by simpa using m)]
  have ds3 : DVs K H2 ((ps.filter fun q => decide (q ∈ gs)).map pk) us2 := by
    rw [List.length_map, range_filter (l := ps) (g := pk) (p := fun q : Pr => decide (q ∈ gs)) (0, none) rfl] at ds2
    exact ds2
  have dD : d ≠ D := by
    obtain ⟨o1, e1⟩ := exd nd1
    exact ne_of_none e1 hD
  refine while_ne (fun m σ H' => ∃ (Fo fresh : List Pr) (D : Addr) (us : List V) (y5 y6 : Option V), m = ps.length - Fo.length ∧ Same H H' ∧ ND P w K H' d (flK pk Fo) ∧ d ≠ D ∧ H' D = some (.lst us) ∧ DVs K H' (fresh.map pk) us ∧ GI h ps gs Fo fresh ∧ σ = [some (.ref c), some (.ref lp), some (.ref lg), some (.ref d), some (.ref D), y5, y6, none])
    ⟨_, [], ps.filter fun q => decide (q ∈ gs), D, us2, none, none, rfl, sametr s1 s2, nd1.same s2, dD, hD2, ds3, GI.start (pnd.filter _) fun q => by rw [List.mem_filter, decide_eq_true_iff], rfl⟩ ?_
  rintro m σ H4 ⟨Fo, fresh, D4, us4, y5, y6, rfl, s4, nd4, dD4, e4, ds4, I, rfl⟩
  refine ⟨D4, us4, rfl, SqL.of e4, fun H5 s5 => ⟨fun e => ?_, fun e N hN => ?_⟩⟩
  · have e' : fresh = [] := by
      have z := ds4.length
      rw [e, List.length_map] at z
      exact List.length_eq_zero_iff.mp z.symm
    subst e'
    obtain ⟨xk, n5, e5, k5⟩ := nd4.same s5
    refine ⟨d, _, n5, trivial, fun od => ⟨.ref d, rfl, ?_⟩⟩
    have t6 : TX H5 (upd H5 d (.frz od (dctO P w d xk))) := TX.mut (by rw [n5]; trivial)
    exact q d od xk Fo _ (same_upd (sametr s4 s5) hd) ⟨upd_same, k5.tx t6⟩ e5.symm (I.done pcl)
  have fne : fresh ≠ [] := fun z => e (by rw [z] at ds4; exact of_nil ds4)
  have Fnd : (Fo ++ fresh).Nodup := List.nodup_append.mpr ⟨I.nd, I.fnd, fun a ha b hb e => (I.b b hb).2.2 (e ▸ ha)⟩
  have Fl : (Fo ++ fresh).length ≤ ps.length := nodup_len Fnd fun x hx => by
    rcases List.mem_append.mp hx with hx | hx
    · exact (I.a x hx).1
    · exact (I.b x hx).1
  rw [List.length_append] at Fl
  have fpos : 0 < fresh.length := List.length_pos_iff.mpr fne
  have s45 := sametr s4 s5
  -- for pair in fresh: found[pair] = True
  refine ⟨.ref D4, rfl, D4, us4, _, rfl, SqL.of (s5 _ _ e4), ds4.tx (.same s5), fun J wk => for_it wk (fun i σ H' => Same H H' ∧ TX H5 H' ∧ H' D4 = some (.lst us4) ∧ ND P w K H' d (flK pk (Fo ++ fresh.take i)) ∧ ∃ y5, σ = [some (.ref c), some (.ref lp), some (.ref lg), some (.ref d), some (.ref D4), y5, y6, none])
    ⟨s45, .refl _, s5 _ _ e4, by simpa using nd4.same s5, _, rfl⟩ (fun i σ H' _ pv => ⟨SqL.of pv.2.2.1, pv.2.1⟩) (fun i x σ H6 H7 hi pv y => ?_) (fun σ H6 pv => ?_)⟩
  · obtain ⟨s6, t6, e6, nd6, z5, rfl⟩ := pv
    obtain ⟨rfl, k0, ek0, dk⟩ := y
    obtain ⟨hi', ek0⟩ := map_get (0, none) ek0
    subst ek0
    have etk : fresh.take (i + 1) = fresh.take i ++ [fresh.getD i (0, none)] := take_snoc (0, none) hi'
    have nd' : (Fo ++ fresh.take (i + 1)).Nodup := Fnd.sublist (List.Sublist.append_left (List.take_sublist _ _) Fo)
    rw [etk, ← List.append_assoc] at nd' ⊢
    generalize fresh.getD i (0, none) = q0 at dk nd'
    have nin : q0 ∉ Fo ++ fresh.take i := fun z => (List.nodup_append.mp nd').2.2 q0 z q0 (by simp) rfl
    refine ⟨.ref d, rfl, x, rfl, d, _, _, rfl, nd6, dk, pk_depth q0, ?_, fun H8 ho8 t8 nd8 => ?_⟩
    · rw [show (flK pk (Fo ++ fresh.take i)).length = (Fo ++ fresh.take i).length from List.length_map _, List.length_append, List.length_take]
      omega
    rw [show NestedKey.tup [nk q0.1, lk q0.2.toList] = pk q0 from rfl, flK_put pk_inj nin] at nd8
    refine ⟨fun c' o' z => ?_, t6.trans t8, (ho8 _ dD4.symm).trans e6, nd8, _, rfl⟩
    have ne : c' ≠ d := fun e => by rw [e, hd] at z; cases z
    rw [ho8 c' ne]
    exact s6 _ _ z
  obtain ⟨s6, t6, e6, nd6, z5, rfl⟩ := pv
  rw [List.length_map, List.take_length] at nd6
  generalize hF' : Fo ++ fresh = F' at nd6
  have inF : ∀ {H : Hp} {q0 : Pr} {x : V}, ND P w K H d (flK pk F') → DV K H (pk q0) x → NGet P w K H d x (valV (flK pk F') (pk q0)) := fun n dx => nget_of n.r dx (pk_depth _)
  -- some
  have sq6 : SqL K H6 lp up := .inl (.inr ⟨op, s6 _ _ f1⟩)
  refine ⟨.ref lp, rfl, lp, up, _, rfl, sq6, f2.tx (.same s6), fun J wk D7 hD7 => lc_dat (K := K) wk (fun i => if (fun q : Pr => !decide (q ∈ F')) (ps.getD i (0, none)) = true then some (pk (ps.getD i (0, none))) else none) hD7 (by rw [List.length_map]; omega) (fun H' s => ⟨s.seq sq6, .same s⟩) (fun i x H7 H8 Nx hi s7 y no yes => ?_) (fun H7 us7 s7 hD7' ds7 => ?_)⟩
  · obtain ⟨rfl, k0, ek0, dk⟩ := y
    obtain ⟨hi', ek0⟩ := map_get (0, none) ek0
    subst ek0
    generalize ps.getD i (0, none) = q0 at dk no yes
    refine ⟨rfl, x, rfl, .ref d, rfl, d, _, rfl, inF (nd6.same s7) dk, _, rfl, ?_⟩
    by_cases m : q0 ∈ F'
    · rw [flK_in pk_inj m]
      refine iteF (no ?_ _ fun _ _ z => z)
      rw [if_neg (by simp [m])]
    · rw [flK_out pk_inj m]
      refine iteT ⟨x, rfl, yes _ _ _ ?_ (fun _ _ z => z) dk⟩
      rw [if_pos (by simp [m])]
  have ds8 : DVs K H7 ((ps.filter fun q => !decide (q ∈ F')).map pk) us7 := by
    rw [List.length_map, range_filter (l := ps) (g := pk) (p := fun q : Pr => !decide (q ∈ F')) (0, none) rfl] at ds7
    exact ds7
  have s07 := sametr s6 s7
  have nd7 := nd6.same s7
  have hsome : ∀ q ∈ ps.filter (fun q => !decide (q ∈ F')), q ∈ ps := fun q hq => (List.mem_filter.mp hq).1
  have snd := pnd.filter (fun q => !decide (q ∈ F'))
  have hsm : ∀ q, q ∈ ps.filter (fun q => !decide (q ∈ F')) ↔ q ∈ ps ∧ q ∉ F' := fun q => by rw [List.mem_filter]; simp
  have sml := List.length_filter_le (fun q => !decide (q ∈ F')) ps
  generalize ps.filter (fun q => !decide (q ∈ F')) = some' at ds8 hsome snd hsm sml
  -- fresh
  refine ⟨.ref D7, rfl, D7, us7, _, rfl, SqL.of hD7', ds8, fun J wk D9 hD9 => lc_dat (K := K) wk (fun i => if (fun q : Pr => decide (∃ q' ∈ comeP h q, q' ∈ F')) (some'.getD i (0, none)) = true then some (pk (some'.getD i (0, none))) else none) hD9 (by rw [List.length_map]; omega) (fun H' s => ⟨s.seq (SqL.of hD7'), .same s⟩) (fun i x H9 H10 Nx hi s9 y no yes => ?_) (fun H9 us9 s9 hD9' ds9 => ?_)⟩
  · obtain ⟨rfl, k0, ek0, dk⟩ := y
    obtain ⟨hi', ek0⟩ := map_get (0, none) ek0
    subst ek0
    have hq0 := hsome _ (getD_mem (0, none) hi')
    generalize some'.getD i (0, none) = q0 at dk no yes hq0
    have s09 := sametr s07 s9
    have A9 := A.on s09
    obtain ⟨dx9, hv9, he9, c4, c5, c6⟩ := A9.ex
    have no2 : (cflds hv9 he9).lookup ("come_from" : Str) = none := cf_no _ _ (by decide +kernel) (by decide +kernel) (by decide +kernel) (by decide +kernel)
    have cl := comeP_len h q0
    refine ⟨rfl, .ref c, rfl, c, dx9, _, rfl, c4, no2, x, rfl, h, c, x, q0, rfl, o, A9, dk, pok q0 hq0, fun p us H11 s11 p0 p1 ds11 => ⟨p, us, _, rfl, SqL.of p1, ds11, fun J2 wk2 D12 hD12 => ?_⟩⟩
    refine lc_val wk2 (fun i => some (.bl ((fun i => decide ((comeP h q0).getD i (0, none) ∈ F')) i))) hD12 (by rw [List.length_map]; omega) (fun H' s => ⟨s.seq (SqL.of p1), .same s⟩) (fun j z H13 H14 Nx2 hj s13 yy no2 yes2 => ?_) (fun H13 s13 hD13 => ?_)
    · obtain ⟨rfl, k1, ek1, dz⟩ := yy
      obtain ⟨hj', ek1⟩ := map_get (0, none) ek1
      subst ek1
      generalize hq' : (comeP h q0).getD j (0, none) = q' at dz
      refine ⟨rfl, z, rfl, .ref d, rfl, d, _, rfl, inF (nd7.same (sametr s9 (sametr s11 s13))) dz, ?_⟩
      by_cases m : q' ∈ F'
      · rw [flK_in pk_inj m]
        exact yes2 _ _ (by show some (V.bl (decide ((comeP h q0).getD j (0, none) ∈ F'))) = some (V.bl true); rw [hq', decide_eq_true m]) fun _ _ z => z
      · rw [flK_out pk_inj m]
        exact yes2 _ _ (by show some (V.bl (decide ((comeP h q0).getD j (0, none) ∈ F'))) = some (V.bl false); rw [hq', decide_eq_false m]) fun _ _ z => z
    · refine ⟨D12, _, rfl, SqL.of (hD13.trans (by rw [bools_map])), _, rfl, ?_⟩
      have hany : (((List.range ((comeP h q0).map pk).length).map fun i => decide ((comeP h q0).getD i (0, none) ∈ F')).any id) = decide (∃ q' ∈ comeP h q0, q' ∈ F') := by
        rw [Bool.eq_iff_iff, List.any_eq_true, decide_eq_true_iff]
        constructor
        · rintro ⟨b, hb, e⟩
          obtain ⟨i, hi, rfl⟩ := List.mem_map.mp hb
          rw [List.length_map] at hi
          exact ⟨_, getD_mem _ (List.mem_range.mp hi), of_decide_eq_true e⟩
        · rintro ⟨q', hq, hG⟩
          obtain ⟨i, hi, rfl⟩ := List.getElem_of_mem hq
          refine ⟨true, List.mem_map.mpr ⟨i, by rw [List.length_map]; exact List.mem_range.mpr hi, ?_⟩, rfl⟩
          have e : (comeP h q0).getD i (0, none) = (comeP h q0)[i] := by simp [List.getD, List.getElem?_eq_getElem hi]
          rw [e]
          exact decide_eq_true hG
      rw [hany]
      have sB := sametr s11 s13
      by_cases m : ∃ q' ∈ comeP h q0, q' ∈ F'
      · rw [decide_eq_true m]
        refine iteT ⟨x, rfl, yes _ _ _ ?_ sB (dk.tx (.same sB))⟩
        rw [if_pos (decide_eq_true m)]
      · rw [decide_eq_false m]
        refine iteF (no ?_ _ sB)
        rw [if_neg (by simpa using m)]
  have ds10 : DVs K H9 ((some'.filter fun q => decide (∃ q' ∈ comeP h q, q' ∈ F')).map pk) us9 := by
    rw [List.length_map, range_filter (l := some') (g := pk) (p := fun q : Pr => decide (∃ q' ∈ comeP h q, q' ∈ F')) (0, none) rfl] at ds9
    exact ds9
  have I2 := I.next (fresh' := some'.filter fun q => decide (∃ q' ∈ comeP h q, q' ∈ F')) (snd.filter _) fun q => by
    rw [List.mem_filter, hsm, hF', decide_eq_true_iff, and_assoc]
  rw [hF'] at I2
  have lF : F'.length = Fo.length + fresh.length := by rw [← hF', List.length_append]
  refine hN _ _ _ ?_ ⟨F', _, D9, us9, _, _, rfl, sametr s07 s9, nd7.same s9, ?_, hD9', ds10, I2, rfl⟩
  · omega
  · obtain ⟨o1, e1⟩ := exd nd7
    exact ne_of_none e1 hD9
end
end K14

/-! W24: good_layers. -/
namespace K14
open PySem PySem.Spec PyProof.Rows L2
/-- locked dicts as sets, in a list -/
def GoodV (P : Program) (w : World) (K : PySem.W.Frag) (H : Hp) (Gs : List (List Pr)) (vs : List V) : Prop := Paired (fun (G : List Pr) v => ∃ d o xs, v = .ref d ∧ NDf P w K H d o xs ∧ kvOf xs = flK pk G) Gs vs
theorem GoodV.tx {P : Program} {w : World} {K : PySem.W.Frag} {H H' : Hp} {Gs : List (List Pr)} {vs : List V} (h : GoodV P w K H Gs vs) (t : TX H H') : GoodV P w K H' Gs vs := Paired.mapP h fun _ _ ⟨d, o, xs, e, n, k⟩ => ⟨d, o, xs, e, n.tx t, k⟩
theorem paired_getR {α β : Type} {R : α → β → Prop} : ∀ {xs : List α} {ys : List β} {i : Nat} {x : α}, Paired R xs ys → xs[i]? = some x → ∃ y, ys[i]? = some y ∧ R x y
  | _, _, 0, _, .cons r _, e => ⟨_, rfl, by cases e; exact r⟩
  | _, _, i + 1, _, .cons _ t, e => by
    obtain ⟨y, h1, h2⟩ := paired_getR (i := i) t (by simpa using e)
    exact ⟨y, by simpa using h1, h2⟩
theorem LayV.at {K : PySem.W.Frag} {H : Hp} {qss : List (List Pr)} {vs : List V} (h : LayV K H qss vs) {i : Nat} (hi : i < qss.length) : ∃ v, vs[i]? = some v ∧ LVal K H ((qss.getD i []).map pk) v := by
  have e : qss[i]? = some (qss.getD i []) := by simp [List.getD, List.getElem?_eq_getElem hi]
  exact paired_getR (R := fun (qs : List Pr) v => LVal K H (qs.map pk) v) h e
theorem atI_end {α : Type} {xs : List α} {n : Nat} {v : α} (hl : xs.length = n + 1) (e : xs[n]? = some v) : atI xs (-1) = some v := by
  obtain ⟨ys, y, rfl⟩ := last_of (xs := xs) (by intro z; rw [z] at hl; cases hl)
  have : ys.length = n := by
    rw [List.length_append] at hl
    simpa using hl
  subst this
  rw [List.getElem?_append_right (Nat.le_refl _)] at e
  simp at e
  rw [atI_last, e]
section
variable {P : Program} {w : World} {K : PySem.W.Frag} {mg : Str → Option Value} {base : Heap} {C S : Addr} {tH tP : Tok} {f : Addr} {fd : FuncData}
theorem sc_good_layers : FnScope ["courier", "log", "states", "layers", "found", "many", "some", "pair"] ["courier", "log", "states"] (defScope s_good_layers) := ⟨rfl, rfl, rfl, by decide +kernel, rfl, by decide +kernel, by decide +kernel⟩
def sp_good_layers (P : Program) (w : World) (K : PySem.W.Frag) (C : Addr) : Sp := fun vs H Q _ => ∃ h c lg st log, ∃ ss : List Nat, vs = [.ref c, lg, .ref st] ∧ h.Ok ∧ CoAt K C H c h ∧ DV K H (lk log) lg ∧ (∀ k ∈ log, k < h.K) ∧ log.length ≤ 1000 ∧ SqL K H st (ss.map iv) ∧
  ∀ f gv Gs H', Same H H' → H f = none → H' f = some (.lst gv) → GoodV P w K H' Gs gv → Gs.length = log.length + 1 → (∀ j G, Gs[j]? = some G → ∀ q, q ∈ G ↔ Lay h log j q ∧ Gd h log (fun o => o ∈ ss) j q) → Q (.ref f) H'
theorem ok_good_layers (T : Txt K mg C S tH tP) (F : FnP K "good_layers" "good_layers" s_good_layers f fd) (g_pair_layers : Ok P w K mg base "pair_layers" 4 ["courier", "log"] (sp_pair_layers K C)) (g_good_pairs : Ok P w K mg base "good_pairs" 3 ["courier", "pairs", "goals"] (sp_good_pairs P w K C))
    (g_leads_to : Ok P w K mg base "leads_to" 3 ["courier", "pair", "goals", "index"] (sp_leads_to P w K C)) : FnOk P w K mg base CX0 5 f fd ["courier", "log", "states"] (sp_good_layers P w K C) := by
  refine F.ok sc_good_layers (fun vs H Q E h => ?_) (fun cdv A outer s H vs Q E hr h => ⟨_, PSs.nox ((pss_cons (ps_set (i := 3) sc_good_layers.nd rfl (.inl rfl) (pe_callO g_pair_layers (hr.mono (by decide)) rfl (pa_cons (pv 0) (pa_cons (pv 1) pa_nil))))
  (pss_cons (ps_set (i := 4) sc_good_layers.nd rfl (.inr rfl) (pe_lst (pa_cons (pe_callO g_good_pairs (hr.mono (by decide)) rfl (pa_cons (pv 0) (pa_cons (pe_ix (ix_listK P w K ⟨rfl, rfl, rfl⟩) (pv 3) (pe_un un_neg pe_int) (fun _ _ => rfl)) (pa_cons (pe_lc (own := [("pair", 7)]) (by rfl) sc_good_layers.nd (pi_LDK P w K ⟨rfl, rfl, rfl⟩ (pe_ix (ix_listK P w K ⟨rfl, rfl, rfl⟩) (pv 3) (pe_un un_neg pe_int) (fun _ _ => rfl))) (blkOk_by (own := [("pair", 7)]) (N := ["courier", "log", "states", "layers", "found", "many", "some", "pair"]) (sc := defScope s_good_layers) (by decide +kernel)) (fun _ _ _ _ _ => (pg_name (i := 7) sc_good_layers.nd rfl (Or.inl rfl))) (fun _ _ _ _ _ => (pts_one (PW.pt (pw_and (pt_cmpR (op_deqK P w K ⟨rfl, rfl, rfl⟩ hr) (pe_ix (ix_datK P w K ⟨rfl, rfl, rfl⟩) (pv 7) pe_int (fun _ _ => rfl)) (pe_tupDK P w K ⟨rfl, rfl, rfl⟩ pa_nil) (nomark _)) (pw_and1 (pt_cmpR (op_dinK P w K ⟨rfl, rfl, rfl⟩ hr) (pe_ix (ix_datK P w K ⟨rfl, rfl, rfl⟩) (pv 7) pe_int (fun _ _ => rfl)) (pv 2) rfl)))))) (fun _ _ _ _ _ => (pv 7))) pa_nil)))) pa_nil)))
  (pss_cons (ps_for PassesOwn.never rfl (pi_range3 rfl T.z_range (pa_cons (pe_op op_sub (pe_callB (cr_lenDK P w K ⟨rfl, rfl, rfl⟩) (by rfl) T.z_len (by decide +kernel) (pa_cons (pv 1) pa_nil)) pe_int) (pa_cons (pe_un un_neg pe_int) (pa_cons (pe_un un_neg pe_int) pa_nil)))) (pg_name (i := 5) sc_good_layers.nd rfl (.inr rfl))
    (pss_cons (ps_setLc (i := 6) (own := [("pair", 7)]) (by rfl) sc_good_layers.nd rfl rfl (sw_true rfl rfl rfl (by decide +kernel)) (pi_LDK P w K ⟨rfl, rfl, rfl⟩ (pe_ix (ix_lstK P w K ⟨rfl, rfl, rfl⟩) (pv 3) (pv 5) (fun _ _ => rfl))) (blkOk_by (own := [("pair", 7)]) (N := ["courier", "log", "states", "layers", "found", "many", "some", "pair"]) (sc := defScope s_good_layers) (by decide +kernel)) (fun _ _ _ _ _ => (pg_name (i := 7) sc_good_layers.nd rfl (Or.inl rfl))) (fun _ _ _ _ _ => (pts_one (pt_val (pe_callO g_leads_to (hr.mono (by decide)) rfl (pa_cons (pv 0) (pa_cons (pv 7) (pa_cons (pe_ix (ix_lstK P w K ⟨rfl, rfl, rfl⟩) (pv 4) pe_int (fun _ _ => rfl)) (pa_cons (pe_ix (ix_datK P w K ⟨rfl, rfl, rfl⟩) (pv 1) (pv 5) (fun _ _ => rfl)) pa_nil)))))))) (fun _ _ _ _ _ => (pv 7)))
  (pss_one (ps_expr (pe_bmK P w K ⟨rfl, rfl, rfl⟩ PySem.F.plainAttrs_list PySem.F.slot_list_insert PySem.F.type_list_insert mt_insert (pv 4) (pa_cons pe_int (pa_cons (pe_callO g_good_pairs (hr.mono (by decide)) rfl (pa_cons (pv 0) (pa_cons (pe_ix (ix_lstK P w K ⟨rfl, rfl, rfl⟩) (pv 3) (pv 5) (fun _ _ => rfl)) (pa_cons (pv 6) pa_nil)))) pa_nil)))))))
  (pss_one (ps_ret (pv 4))))))), ?_⟩)
  · obtain ⟨h, c, lg, st, log, ss, rfl, _⟩ := h
    rfl
  obtain ⟨h, c, lg, st, log, ss, rfl, o, A, dl, hl, ll, sqs, q⟩ := h
  have small : 2000 < sizeLine := by decide
  have dss : DVs K H (ss.map nk) (ss.map iv) := dvs_nks
  refine ⟨.ref c, rfl, lg, rfl, h, c, lg, log, rfl, o, A, dl, hl, ll, fun l vs qss H1 s1 l0 l1 lv1 ql hq => ?_⟩
  have vl : vs.length = log.length + 1 := by rw [← ql]; exact (Paired.length lv1).symm
  have layOf : ∀ i, i ≤ log.length → (qss.getD i []).Nodup ∧ ∀ q, q ∈ qss.getD i [] ↔ Lay h log i q := fun i hi => hq i _ (by simp [List.getD, List.getElem?_eq_getElem (show i < qss.length by omega)])
  have pokOf : ∀ i, i ≤ log.length → ∀ q ∈ qss.getD i [], PrOk h q := fun i hi q hq' => (((layOf i hi).2 q).mp hq').prOk o hl
  have pclOf : ∀ i, i ≤ log.length → ∀ q ∈ qss.getD i [], ∀ q' ∈ comeP h q, q' ∈ qss.getD i [] := fun i hi q hq' q' hc => ((layOf i hi).2 q').mpr (.come (((layOf i hi).2 q).mp hq') hc)
  have plen : ∀ i, i ≤ log.length → (qss.getD i []).length ≤ 56 := fun i hi => Nat.le_trans (nodup_len (layOf i hi).1 fun x hx => mem_univP (pokOf i hi x hx)) (univP_len o)
  obtain ⟨vL, evL, lvL⟩ := lv1.at (i := log.length) (by omega)
  obtain ⟨lb, lo, lus, rfl, f1, f2⟩ := lvL
  have sq1 : SqL K H1 lb lus := .inl (.inr ⟨lo, f1⟩)
  have eL : atI vs (-1) = some (.ref lb) := atI_end vl evL
  have lz := layOf log.length (Nat.le_refl _)
  have pz := plen log.length (Nat.le_refl _)
  have pkz := pokOf log.length (Nat.le_refl _)
  have pcz := pclOf log.length (Nat.le_refl _)
  generalize qss.getD log.length [] = ps at f2 lz pz pkz pcz
  -- found = [good_pairs(..)]
  refine ⟨.ref c, rfl, .ref l, rfl, 1, rfl, l, vs, -1, .ref lb, rfl, rfl, SqL.of l1, eL, .ref l, rfl, 1, rfl, l, vs, -1, .ref lb, rfl, rfl, SqL.of l1, eL, lb, lus, _, rfl, sq1, f2, fun J wk D hD => lc_dat (K := K) wk (fun i => if (fun q : Pr => decide (q.2 = none ∧ q.1 ∈ ss)) (ps.getD i (0, none)) = true then some (pk (ps.getD i (0, none))) else none) hD (by rw [List.length_map]; omega) (fun H' s => ⟨s.seq sq1, .same s⟩) (fun i x H2 H3 Nx hi s2 y no yes => ?_) (fun H2 us2 s2 hD2 ds2 => ?_)⟩
  · obtain ⟨rfl, k0, ek0, dk⟩ := y
    obtain ⟨hi', ek0⟩ := map_get (0, none) ek0
    subst ek0
    generalize ps.getD i (0, none) = q0 at dk no yes
    have s12 := sametr s1 s2
    refine ⟨rfl, x, rfl, _, 1, _, dk, rfl, rfl, fun z dz => ⟨[], dvs_nil, Nat.zero_le _, fun e0 H4 s4 de => ⟨lk q0.2.toList, .tup [], dz.tx (.same s4), de, sm_lk _, sm_lk [], _, rfl, ?_⟩⟩⟩
    by_cases m : q0.2 = none
    · rw [decide_eq_true (show lk q0.2.toList = NestedKey.tup [] by rw [m]; rfl)]
      have dk4 := dk.tx (.same s4)
      refine iteT ⟨x, rfl, _, 0, _, dk4, rfl, rfl, fun z2 dz2 => ⟨.ref st, rfl, nk q0.1, ss.map nk, st, ss.map iv, rfl, (sametr s12 s4).seq sqs, dvs_nks, dz2, sm_nk _, fun j hj => ?_, _, rfl, ?_⟩⟩
      · obtain ⟨n, _, rfl⟩ := List.mem_map.mp hj
        exact ⟨by rw [nk_depth]; omega, rfl⟩
      by_cases m2 : q0.1 ∈ ss
      · rw [decide_eq_true (List.mem_map.mpr ⟨_, m2, rfl⟩)]
        refine iteT ⟨x, rfl, yes _ _ _ ?_ s4 dk4⟩
        rw [if_pos (decide_eq_true ⟨m, m2⟩)]
      · have m' : nk q0.1 ∉ ss.map nk := fun z => by
          obtain ⟨n, h1, h2⟩ := List.mem_map.mp z
          exact m2 (by rw [← nk_inj h2]; exact h1)
        rw [decide_eq_false m']
        refine iteF (no ?_ _ s4)
        rw [if_neg (by simp [m2])]
    · rw [decide_eq_false (show ¬ lk q0.2.toList = NestedKey.tup [] from fun z => m (lkO_inj (b := none) z))]
      refine iteF (iteF (no ?_ _ s4))
      rw [if_neg (by simp [m])]
  have ds3 : DVs K H2 ((ps.filter fun q => decide (q.2 = none ∧ q.1 ∈ ss)).map pk) us2 := by
    rw [List.length_map, range_filter (l := ps) (g := pk) (p := fun q : Pr => decide (q.2 = none ∧ q.1 ∈ ss)) (0, none) rfl] at ds2
    exact ds2
  have s02 := sametr s1 s2
  refine ⟨h, c, .ref lb, D, us2, ps, _, rfl, o, A.on s02, ⟨lb, lo, lus, rfl, s2 _ _ f1, f2.tx (.same s2)⟩, SqL.of hD2, ds3, lz.1, pkz, pcz, fun d od xs G H3 s3 nf3 ek3 hG => ⟨(by show 1 ≤ sizeLine; decide), fun fo hfo => ?_⟩⟩
  have s03 := sametr s02 s3
  have fo0 : H fo = none := s03.free hfo
  have s4 : Same H3 (upd H3 fo (.lst [.ref d])) := same_new hfo
  have s14 := sametr s2 (sametr s3 s4)
  have s04 := sametr s03 s4
  have lfo : l ≠ fo := ne_of_none (s3 _ _ (s2 _ _ l1)) hfo
  have hGlast : ∀ q, q ∈ G ↔ Lay h log log.length q ∧ Gd h log (fun o => o ∈ ss) log.length q := fun q => by
    rw [hG, lz.2, gd_last]
    refine and_congr_right fun hy => ?_
    constructor
    · exact Up.mono pcz (fun q hq e => by simpa using (List.mem_filter.mp e).2) ((lz.2 q).mpr hy)
    · exact Up.mono pcz (fun q hq e => List.mem_filter.mpr ⟨hq, by simpa using e⟩) ((lz.2 q).mpr hy)
  -- the layers, from behind
  refine ⟨lg, rfl, lg, _, rfl, dl.tx (.same s04), _, _, rfl, rfl, 1, rfl, 1, rfl, _, _, _, _, rfl, RgC.neg (i := ((log.map nk).length : Int) - 1) (j := -1) ?_ ?_ (by decide) (by decide), for_it walk_rangeC (fun i σ H' => Same H H' ∧ TX H1 H' ∧ H' l = some (.lst vs) ∧ (∃ (Gs : List (List Pr)) (gv : List V), H' fo = some (.lst gv) ∧ GoodV P w K H' Gs gv ∧ Gs.length = i + 1 ∧ ∀ j G, Gs[j]? = some G → ∀ q, q ∈ G ↔ Lay h log (log.length - i + j) q ∧ Gd h log (fun o => o ∈ ss) (log.length - i + j) q) ∧
      ∃ y5 y6, σ = [some (.ref c), some lg, some (.ref st), some (.ref l), some (.ref fo), y5, y6, none]) ⟨s04, .same s14, s14 _ _ l1, ⟨[G], [.ref d], upd_same, .cons ⟨d, od, xs, rfl, nf3.tx (.same s4), ek3⟩ .nil, rfl, fun j G' e q => ?_⟩, none, none, rfl⟩ (fun _ _ _ _ _ => trivial) (fun i x σ H6 H7 hi pv y => ?_) (fun σ H6 pv => ?_)⟩
  · have := Int.natCast_nonneg (log.map nk).length
    omega
  · rw [List.length_map]
    omega
  · cases j with
    | zero =>
      have e' : G = G' := Option.some.inj e
      subst e'
      exact hGlast q
    | succ j => simp at e
  · obtain ⟨s6, t6, l6, ⟨Gs, gv, g6, gd6, gl, hGs⟩, y5, y6, rfl⟩ := pv
    obtain ⟨rfl, ex⟩ := y
    rw [List.length_map] at hi ex
    have hi' : i < log.length := by omega
    have ex' : x = iv (log.length - 1 - i) := by
      rw [ex]
      show V.int (((log.length : Int) - 1) + (i : Int) * -1) = V.int ((log.length - 1 - i : Nat) : Int)
      congr 1
      omega
    subst ex'
    have hm1 : log.length - 1 - i < log.length := by omega
    have hsu : log.length - i = log.length - 1 - i + 1 := by omega
    rw [hsu] at hGs
    rw [show log.length - (i + 1) = log.length - 1 - i by omega]
    generalize log.length - 1 - i = m at hm1 hGs
    have hmk : log[m]? = some log[m] := List.getElem?_eq_getElem hm1
    have hkK : log[m] < h.K := hl _ (List.getElem_mem hm1)
    have hgd := gd_at (h := h) (T := fun o => o ∈ ss) hmk
    have hlog : (log.map nk)[m]? = some (nk log[m]) := by rw [List.getElem?_map, hmk]; rfl
    have hsend : ∀ q q', Lay h log m q → q' ∈ sendP h q log[m] → Lay h log (m + 1) q' := fun q q' a b => .send a hmk b
    generalize log[m] = k at hkK hgd hlog hsend
    obtain ⟨vm, evm, lvm⟩ := (lv1.tx t6).at (i := m) (by omega)
    obtain ⟨mb, mo, mus, rfl, m1, m2⟩ := lvm
    have sqm : SqL K H7 mb mus := .inl (.inr ⟨mo, m1⟩)
    have lm := layOf m (by omega)
    have pm := plen m (by omega)
    have pkm := pokOf m (by omega)
    have pcm := pclOf m (by omega)
    generalize qss.getD m [] = psm at m2 lm pm pkm pcm
    -- the first of found
    obtain ⟨G0, Gr, rfl⟩ : ∃ G0 Gr, Gs = G0 :: Gr := by
      cases Gs with
      | nil => simp at gl
      | cons a b => exact ⟨a, b, rfl⟩
    have hG0 := hGs 0 G0 rfl
    rw [Nat.add_zero] at hG0
    cases gd6 with
    | @cons _ v0 _ gv' r0 rt =>
    obtain ⟨d0, o0, x0, rfl, n0, k0⟩ := r0
    refine ⟨.ref l, rfl, iv m, rfl, l, vs, m, .ref mb, rfl, SqL.of l6, rfl, evm, mb, mus, _, rfl, sqm, m2, fun J wk D2 hD2 => lc_dat (K := K) wk (fun i => if (fun q : Pr => decide (∃ q' ∈ sendP h q k, q' ∈ G0)) (psm.getD i (0, none)) = true then some (pk (psm.getD i (0, none))) else none) hD2 (by rw [List.length_map]; omega) (fun H' s => ⟨s.seq sqm, .same s⟩) (fun j z H8 H9 Nx hj s8 yy no yes => ?_) (fun H8 us8 s8 hD8 ds8 => ?_)⟩
    · obtain ⟨rfl, kk, ekk, dk⟩ := yy
      obtain ⟨hj', ekk⟩ := map_get (0, none) ekk
      subst ekk
      have hq0 := getD_mem (0, none) hj'
      generalize psm.getD j (0, none) = q0 at dk no yes hq0
      have s68 := sametr s6 s8
      refine ⟨rfl, .ref c, rfl, z, rfl, .ref fo, rfl, fo, _, 0, .ref d0, rfl, SqL.of (s8 _ _ g6), rfl, rfl, lg, rfl, iv m, rfl, _, m, _, dl.tx (.same s68), rfl, hlog, fun kv dkv => ?_⟩
      have ekv := of_num dkv
      subst ekv
      have nr := (n0.tx (.same s8)).r
      rw [k0] at nr
      refine ⟨h, c, z, d0, k, q0, G0, rfl, o, A.on s68, dk, pkm q0 hq0, hkK, nr, fun b H10 s10 hb => ⟨b, rfl, ?_⟩⟩
      cases b with
      | true =>
        refine iteT ⟨z, rfl, yes _ _ _ ?_ s10 (dk.tx (.same s10))⟩
        rw [if_pos (decide_eq_true (hb.mp rfl))]
      | false =>
        refine iteF (no ?_ _ s10)
        rw [if_neg (by simpa using fun q' h1 h2 => Bool.false_ne_true (hb.mpr ⟨q', h1, h2⟩))]
    have ds9 : DVs K H8 ((psm.filter fun q => decide (∃ q' ∈ sendP h q k, q' ∈ G0)).map pk) us8 := by
      rw [List.length_map, range_filter (l := psm) (g := pk) (p := fun q : Pr => decide (∃ q' ∈ sendP h q k, q' ∈ G0)) (0, none) rfl] at ds8
      exact ds8
    have s68 := sametr s6 s8
    have l8 := s8 _ _ l6
    have g8 := s8 _ _ g6
    refine ⟨.ref fo, rfl, .inl ⟨rfl, _, SqL.of g8⟩, .ref c, rfl, .ref l, rfl, iv m, rfl, l, vs, m, .ref mb, rfl, SqL.of l8, rfl, evm, .ref D2, rfl, ?_⟩
    refine ⟨h, c, .ref mb, D2, us8, psm, _, rfl, o, A.on s68, ⟨mb, mo, mus, rfl, s8 _ _ m1, m2.tx (.same s8)⟩, SqL.of hD8, ds9, lm.1, pkm, pcm, fun d9 od9 xs9 G9 H9 s9 nf9 ek9 hG9 => ?_⟩
    have s89 := sametr s8 s9
    have g9 := s89 _ _ g6
    have gvl : gv'.length = i := by
      have := (Paired.length rt).symm
      simp only [List.length_cons] at gl
      omega
    refine ⟨fo, _, 0, .ref d9, rfl, rfl, g9, ?_, by decide, by decide, ?_⟩
    · simp only [List.length_cons]
      omega
    have t10 : TX H9 (upd H9 fo (.lst ([.ref d9] ++ (.ref d0 :: gv')))) := TX.lst g9
    refine ⟨same_upd (sametr s6 s89) fo0, (t6.trans (.same s89)).trans t10, (upd_ne lfo).trans (s89 _ _ l6), ⟨G9 :: G0 :: Gr, .ref d9 :: .ref d0 :: gv', upd_same, ?_, by simp only [List.length_cons] at gl ⊢; omega, fun j G' e q => ?_⟩, _, _, rfl⟩
    · exact .cons ⟨d9, od9, xs9, rfl, nf9.tx t10, ek9⟩ (GoodV.tx (.cons ⟨d0, o0, x0, rfl, n0, k0⟩ rt) ((TX.same s89).trans t10))
    · cases j with
      | zero =>
        have e' : G9 = G' := Option.some.inj e
        subst e'
        rw [Nat.add_zero, hG9, lm.2, hgd]
        refine and_congr_right fun hy => ?_
        constructor
        · refine Up.mono pcm (fun q hq e => ?_) ((lm.2 q).mpr hy)
          obtain ⟨q', h1, h2⟩ := of_decide_eq_true (List.mem_filter.mp e).2
          exact ⟨q', h1, ((hG0 q').mp h2).2⟩
        · refine Up.mono pcm (fun q hq e => List.mem_filter.mpr ⟨hq, decide_eq_true ?_⟩) ((lm.2 q).mpr hy)
          obtain ⟨q', h1, h2⟩ := e
          exact ⟨q', h1, (hG0 q').mpr ⟨hsend q q' ((lm.2 q).mp hq) h1, h2⟩⟩
      | succ j =>
        have := hGs j G' (by simpa using e) q
        rw [show m + 1 + j = m + (j + 1) by omega] at this
        exact this
  · obtain ⟨s6, t6, l6, ⟨Gs, gv, g6, gd6, gl, hGs⟩, y5, y6, rfl⟩ := pv
    rw [List.length_map] at gl hGs
    have en : (((log.length : Int) - 1) - -1).toNat = log.length := by omega
    rw [en] at gl hGs
    refine ⟨.ref fo, rfl, q fo gv Gs H6 s6 fo0 g6 gd6 gl fun j G' e q => ?_⟩
    have := hGs j G' e q
    rw [Nat.sub_self, Nat.zero_add] at this
    exact this
end
end K14

/-! W25: held_kinds, behind_event, is_good. -/
namespace K14
open PySem PySem.Spec PyProof.Rows L2
theorem ix_tupK {X : Cx} (P : Program) (w : World) (K : PySem.W.Frag) (at_ : At X P w K) : IxR X (rIxT K) := by
  obtain ⟨rfl, rfl, rfl⟩ := at_
  exact ix_tup
/-- (sent, state, places), places locked -/
def HereAt (K : PySem.W.Frag) (H : Hp) (v : V) (x : Hr) : Prop := ∃ a p ob, v = .ref a ∧ SqT K H a [iv x.n, iv x.o, .ref p] ∧ H p = some (.frz ob (.lst (x.ps.map iv)))
theorem HereAt.tx {K : PySem.W.Frag} {H H' : Hp} {v : V} {x : Hr} (h : HereAt K H v x) (t : TX H H') : HereAt K H' v x := by
  obtain ⟨a, p, ob, e, sq, f⟩ := h
  exact ⟨a, p, ob, e, sqT_tx t sq, t.frz _ _ _ f⟩
theorem flK_any {α : Type} [DecidableEq α] {g : α → NestedKey} (qs : List α) (k : NestedKey) : (valV (flK g qs) k).isSome = true ↔ ∃ q ∈ qs, g q = k := by
  induction qs with
  | nil => simp [flK, valV]
  | cons x qs ih =>
    unfold flK at ih ⊢
    rw [List.map_cons]
    by_cases e : g x = k
    · rw [valV_pos (p := (g x, V.bl true)) e]
      exact ⟨fun _ => ⟨x, List.mem_cons_self, e⟩, fun _ => rfl⟩
    · rw [valV_neg (p := (g x, V.bl true)) e, ih]
      constructor
      · rintro ⟨q, h1, h2⟩
        exact ⟨q, List.mem_cons_of_mem _ h1, h2⟩
      · rintro ⟨q, h1, h2⟩
        rcases List.mem_cons.mp h1 with z | z
        · exact absurd (z ▸ h2) e
        · exact ⟨q, z, h2⟩
section
variable {P : Program} {w : World} {K : PySem.W.Frag} {mg : Str → Option Value} {base : Heap} {C S : Addr} {tH tP : Tok} {f : Addr} {fd : FuncData}
theorem sc_held_kinds : FnScope ["courier", "log", "places", "found", "place"] ["courier", "log", "places"] (defScope s_held_kinds) := ⟨rfl, rfl, rfl, by decide +kernel, rfl, by decide +kernel, by decide +kernel⟩
def sp_held_kinds (K : PySem.W.Frag) (C : Addr) : Sp := fun vs H Q _ => ∃ h c lg p log, ∃ ps : List Nat, vs = [.ref c, lg, .ref p] ∧ CoAt K C H c h ∧ DV K H (lk log) lg ∧ SqL K H p (ps.map iv) ∧ (∀ a ∈ ps, a < log.length) ∧ ps.length ≤ 900 ∧
  ∀ l u H', Same H H' → l.Perm (ps.map fun a => log.getD a 0) → DV K H' (lk l) u → Q u H'
theorem ok_held_kinds (T : Txt K mg C S tH tP) (F : FnP K "held_kinds" "held_kinds" s_held_kinds f fd) (gm_with_one : OkM P w K mg base C "with_one" 1 ["self", "held", "index"] (sp_with_one K C)) : FnOk P w K mg base CX0 2 f fd ["courier", "log", "places"] (sp_held_kinds K C) := by
  refine F.ok sc_held_kinds (fun vs H Q E h => ?_) (fun cdv A outer s H vs Q E hr h => ⟨_, PSs.nox ((pss_cons (ps_set (i := 3) sc_held_kinds.nd rfl (.inl rfl) (pe_tupDK P w K ⟨rfl, rfl, rfl⟩ pa_nil))
  (pss_cons (ps_for PassesOwn.never rfl (pi_LDK P w K ⟨rfl, rfl, rfl⟩ (pv 2)) (pg_name (i := 4) sc_held_kinds.nd rfl (.inl rfl))
    (pss_one (ps_set (i := 3) sc_held_kinds.nd rfl (.inl rfl) (pe_methO (pv 0) T.cl gm_with_one (hr.mono (by decide)) (pa_cons (pv 3) (pa_cons (pe_ix (ix_datK P w K ⟨rfl, rfl, rfl⟩) (pv 1) (pv 4) (fun _ _ => rfl)) pa_nil))))))
  (pss_one (ps_ret (pv 3)))))), ?_⟩)
  · obtain ⟨h, c, lg, p, log, ps, rfl, _⟩ := h
    rfl
  obtain ⟨h, c, lg, p, log, ps, rfl, A, dl, sq, hps, pl, q⟩ := h
  refine ⟨[], dvs_nil, Nat.zero_le _, fun e0 H1 s1 de => ⟨.ref p, rfl, p, _, ps.map nk, rfl, s1.seq sq, dvs_nks, fun J wk => for_it wk (fun i σ H' => Same H H' ∧ TX H1 H' ∧ (∃ l u, l.Perm ((ps.take i).map fun a => log.getD a 0) ∧ DV K H' (lk l) u ∧ ∃ y4, σ = [some (.ref c), some lg, some (.ref p), some u, y4]))
    ⟨s1, .refl _, [], e0, .refl _, de, none, rfl⟩ (fun i σ H' _ pv => ⟨pv.1.seq sq, pv.2.1⟩) (fun i x σ H2 H3 hi pv y => ?_) (fun σ H2 pv => ?_)⟩⟩
  · obtain ⟨s2, t2, l, u, pm, du, y4, rfl⟩ := pv
    obtain ⟨rfl, k0, ek0, dk⟩ := y
    obtain ⟨hi', ek0⟩ := map_get 0 ek0
    subst ek0
    have ha := hps _ (getD_mem 0 hi')
    have etk : ps.take (i + 1) = ps.take i ++ [ps.getD i 0] := take_snoc 0 hi'
    rw [etk, List.map_append, List.map_cons, List.map_nil]
    have ex := of_num dk
    subst ex
    generalize ps.getD i 0 = a at ha
    have A2 := A.on s2
    obtain ⟨dx2, hv2, he2, c1, c2, c3⟩ := A2.ex
    have no1 : (cflds hv2 he2).lookup ("with_one" : Str) = none := cf_no _ _ (by decide +kernel) (by decide +kernel) (by decide +kernel) (by decide +kernel)
    have ll : l.length ≤ 1000 := by
      have := pm.length_eq
      rw [List.length_map, List.length_take] at this
      omega
    refine ⟨.ref c, rfl, c, dx2, _, rfl, c1, no1, u, rfl, lg, rfl, iv a, rfl, _, a, _, dl.tx (.same s2), rfl, lk_get ha, fun z dz => ?_⟩
    have ez := of_num dz
    subst ez
    exact ⟨h, c, u, log.getD a 0, l, rfl, A2, du, ll, fun l' z H4 s4 pm2 dz2 => ⟨sametr s2 s4, t2.trans (.same s4), l', z, pm2.trans (pm.append_right _), dz2, some (iv a), rfl⟩⟩
  · obtain ⟨s2, t2, l, u, pm, du, y4, rfl⟩ := pv
    rw [List.length_map, List.take_length] at pm
    exact ⟨u, rfl, q l u H2 s2 pm du⟩
theorem sc_behind_event : FnScope ["courier", "log", "here", "sent", "places", "place", "other"] ["courier", "log", "here", "sent", "places", "place"] (defScope s_behind_event) := ⟨rfl, rfl, rfl, by decide +kernel, rfl, by decide +kernel, by decide +kernel⟩
def sp_behind_event (K : PySem.W.Frag) (C : Addr) : Sp := fun vs H Q _ => ∃ h c lg hv m p a log ob, ∃ x : Hr, ∃ ps : List Nat, vs = [.ref c, lg, hv, iv m, .ref p, iv a] ∧ h.Ok ∧ CoAt K C H c h ∧ DV K H (lk log) lg ∧ (∀ k ∈ log, k < h.K) ∧ HereAt K H hv x ∧ x.o < h.n ∧ H p = some (.frz ob (.lst (ps.map iv))) ∧ (∀ b ∈ ps, b < log.length) ∧ ps.length ≤ 900 ∧ a < log.length ∧
  ∀ v H', Same H H' → HereAt K H' v ⟨m, h.step (log.getD a 0) x.o, ps⟩ → Q v H'
theorem ok_behind_event (T : Txt K mg C S tH tP) (F : FnP K "behind_event" "behind_event" s_behind_event f fd) (gm_is_free : OkM P w K mg base C "is_free" 1 ["self", "held", "index"] (sp_is_free K C)) (gm_led : OkM P w K mg base C "led" 1 ["self", "state", "index"] (sp_led K C)) :
    FnOk P w K mg base CX0 2 f fd ["courier", "log", "here", "sent", "places", "place"] (sp_behind_event K C) := by
  refine F.ok sc_behind_event (fun vs H Q E h => ?_) (fun cdv A outer s H vs Q E hr h => ⟨_, PSs.nox ((pss_cons (ps_if (pt_not (pt_val (pe_methO (pv 0) T.cl gm_is_free (hr.mono (by decide)) (pa_cons (pe_lc (own := [("other", 6)]) (by rfl) sc_behind_event.nd (pi_LDK P w K ⟨rfl, rfl, rfl⟩ (pv 4)) (blkOk_by (own := [("other", 6)]) (N := ["courier", "log", "here", "sent", "places", "place", "other"]) (sc := defScope s_behind_event) (by decide +kernel)) (fun _ _ _ _ _ => (pg_name (i := 6) sc_behind_event.nd rfl (Or.inl rfl))) (fun _ _ _ _ _ => (pts_one (pt_cmpR op_lt (pv 6) (pv 5) (nomark _)))) (fun _ _ _ _ _ => (pe_ix (ix_datK P w K ⟨rfl, rfl, rfl⟩) (pv 1) (pv 6) (fun _ _ => rfl)))) (pa_cons (pe_ix (ix_datK P w K ⟨rfl, rfl, rfl⟩) (pv 1) (pv 5) (fun _ _ => rfl)) pa_nil))))) (pss_one (ps_ret pe_non)) pss_nil)
  (pss_one (ps_ret (pe_tup (pa_cons (pv 3) (pa_cons (pe_methO (pv 0) T.cl gm_led (hr.mono (by decide)) (pa_cons (pe_ix (ix_tupK P w K ⟨rfl, rfl, rfl⟩) (pv 2) pe_int (fun _ _ => rfl)) (pa_cons (pe_ix (ix_datK P w K ⟨rfl, rfl, rfl⟩) (pv 1) (pv 5) (fun _ _ => rfl)) pa_nil))) (pa_cons (pv 4) pa_nil)))))))), ?_⟩)
  · obtain ⟨h, c, lg, hv, m, p, a, log, ob, x, ps, rfl, _⟩ := h
    rfl
  obtain ⟨h, c, lg, hv, m, p, a, log, ob, x, ps, rfl, o, A, dl, hl, ha, xo, fp, hps, pl, al, q⟩ := h
  have small : 2000 < sizeLine := by decide
  obtain ⟨dx, hvv, he, c1, c2, c3⟩ := A.ex
  have no1 : (cflds hvv he).lookup ("is_free" : Str) = none := cf_no _ _ (by decide +kernel) (by decide +kernel) (by decide +kernel) (by decide +kernel)
  have sq : SqL K H p (ps.map iv) := .inl (.inr ⟨ob, fp⟩)
  refine ⟨.ref c, rfl, c, dx, _, rfl, c1, no1, .ref p, rfl, p, _, ps.map nk, rfl, sq, dvs_nks, fun J wk D hD => lc_dat (K := K) wk (fun i => if (fun b : Nat => decide (b < a)) (ps.getD i 0) = true then some ((fun b : Nat => nk (log.getD b 0)) (ps.getD i 0)) else none) hD (by rw [List.length_map]; omega) (fun H' s => ⟨s.seq sq, .same s⟩) (fun i y σ2 H3 Nx hi s2 yy no yes => ?_) (fun H2 us2 s2 hD2 ds2 => ?_)⟩
  · obtain ⟨rfl, k0, ek0, dk⟩ := yy
    obtain ⟨hi', ek0⟩ := map_get 0 ek0
    subst ek0
    have hb := hps _ (getD_mem 0 hi')
    have ex := of_num dk
    subst ex
    generalize ps.getD i 0 = b at hb no yes
    refine ⟨rfl, iv b, rfl, iv a, rfl, _, _, rfl, rfl, _, rfl, ?_⟩
    by_cases m2 : b < a
    · rw [decide_eq_true (show (b : Int) < (a : Int) by omega)]
      refine iteT ⟨lg, rfl, iv b, rfl, _, b, _, dl.tx (.same s2), rfl, lk_get hb, fun z dz => yes _ _ _ ?_ (fun _ _ z => z) dz⟩
      rw [if_pos (decide_eq_true m2)]
    · rw [decide_eq_false (show ¬ (b : Int) < (a : Int) by omega)]
      refine iteF (no ?_ _ fun _ _ z => z)
      rw [if_neg (by simpa using m2)]
  have A2 := A.on s2
  have dl2 := dl.tx (.same s2)
  obtain ⟨dx2, hv2, he2, c4, c5, c6⟩ := A2.ex
  have no2 : (cflds hv2 he2).lookup ("led" : Str) = none := cf_no _ _ (by decide +kernel) (by decide +kernel) (by decide +kernel) (by decide +kernel)
  obtain ⟨ah, ph, obh, rfl, sqh, fh⟩ := ha.tx (.same s2)
  refine ⟨lg, rfl, iv a, rfl, _, a, _, dl2, rfl, lk_get al, fun z dz => ⟨h, c, _, z, rfl, A2, true, rfl, ?_⟩⟩
  refine ⟨iv m, rfl, .ref c, rfl, c, dx2, _, rfl, c4, no2, .ref ah, rfl, ah, _, 1, _, rfl, rfl, sqh, atI_nat (j := 1) rfl, lg, rfl, iv a, rfl, _, a, _, dl2, rfl, lk_get al, fun z2 dz2 => ?_⟩
  have ez := of_num dz2
  subst ez
  have hk' : log.getD a 0 < h.K := hl _ (getD_mem 0 al)
  refine ⟨h, c, x.o, log.getD a 0, rfl, o, A2, xo, hk', .ref p, rfl, (by show 3 ≤ sizeLine; decide), fun T1 hT => q _ _ (sametr s2 (same_new hT)) ⟨T1, p, ob, rfl, SqT.of upd_same, ?_⟩⟩
  exact upd_at (s2 _ _ fp) hT
theorem sc_is_good : FnScope ["courier", "log", "good", "here"] ["courier", "log", "good", "here"] (defScope s_is_good) := ⟨rfl, rfl, rfl, by decide +kernel, rfl, by decide +kernel, by decide +kernel⟩
def sp_is_good (P : Program) (w : World) (K : PySem.W.Frag) (C : Addr) : Sp := fun vs H Q _ => ∃ h c lg g hv log gv Gs, ∃ x : Hr, ∃ T : Nat → Prop, vs = [.ref c, lg, .ref g, hv] ∧ CoAt K C H c h ∧ DV K H (lk log) lg ∧ SqL K H g gv ∧ GoodV P w K H Gs gv ∧ Gs.length = log.length + 1 ∧
  (∀ j G, Gs[j]? = some G → ∀ q, q ∈ G ↔ Lay h log j q ∧ Gd h log T j q) ∧ HereAt K H hv x ∧ x.n ≤ log.length ∧ (∀ a ∈ x.ps, a < log.length) ∧ x.ps.length ≤ 900 ∧ ∀ b H', Same H H' → (b = true ↔ isG h log T x) → Q (.bl b) H'
theorem ok_is_good (T : Txt K mg C S tH tP) (F : FnP K "is_good" "is_good" s_is_good f fd) (g_held_kinds : Ok P w K mg base "held_kinds" 2 ["courier", "log", "places"] (sp_held_kinds K C)) : FnOk P w K mg base CX0 3 f fd ["courier", "log", "good", "here"] (sp_is_good P w K C) := by
  refine F.ok sc_is_good (fun vs H Q E h => ?_) (fun cdv A outer s H vs Q E hr h => ⟨_, PSs.nox ((pss_one (ps_ret (pe_and (pe_cmpR op_notN (pv 3) pe_non (nomark _)) (pe_one (pe_cmpR (op_ninK P w K ⟨rfl, rfl, rfl⟩ hr) (pe_tupDK P w K ⟨rfl, rfl, rfl⟩ (pa_cons (pe_ix (ix_tupK P w K ⟨rfl, rfl, rfl⟩) (pv 3) pe_int (fun _ _ => rfl)) (pa_cons (pe_callO g_held_kinds (hr.mono (by decide)) rfl (pa_cons (pv 0) (pa_cons (pv 1) (pa_cons (pe_ix (ix_tupK P w K ⟨rfl, rfl, rfl⟩) (pv 3) pe_int (fun _ _ => rfl)) pa_nil)))) pa_nil))) (pe_ix (ix_lstK P w K ⟨rfl, rfl, rfl⟩) (pv 2) (pe_ix (ix_tupK P w K ⟨rfl, rfl, rfl⟩) (pv 3) pe_int (fun _ _ => rfl)) (fun _ _ => rfl)) rfl)))))), ?_⟩)
  · obtain ⟨h, c, lg, g, hv, log, gv, Gs, x, T, rfl, _⟩ := h
    rfl
  obtain ⟨h, c, lg, g, hv, log, gv, Gs, x, T, rfl, A, dl, sg, gd, gl, hG, ha, xn, xps, pl, q⟩ := h
  obtain ⟨ah, ph, obh, rfl, sqh, fh⟩ := ha
  have hx : x.n < Gs.length := by omega
  have eG : Gs[x.n]? = some (Gs.getD x.n []) := by simp [List.getD, List.getElem?_eq_getElem hx]
  have hGx := hG x.n _ eG
  refine ⟨.ref ah, rfl, rfl, true, rfl, ?_⟩
  refine ⟨.ref ah, rfl, ah, _, 1, _, rfl, rfl, sqh, atI_nat (j := 1) rfl, .ref c, rfl, lg, rfl, .ref ah, rfl, ah, _, 2, _, rfl, rfl, sqh, atI_nat (j := 2) rfl, h, c, lg, ph, log, x.ps, rfl, A, dl, .inl (.inr ⟨obh, fh⟩), xps, pl, fun l u H1 s1 pm du => ?_⟩
  refine ⟨[nk x.o, lk l], dvs_cons dv_nk (dvs_cons du dvs_nil), (by show 2 ≤ sizeLine; decide), fun z H2 s2 dz => ?_⟩
  have s12 := sametr s1 s2
  obtain ⟨vG, evG, d0, o0, x0, rfl, n0, k0⟩ := paired_getR (R := fun (G : List Pr) v => ∃ d o xs, v = V.ref d ∧ NDf P w K H d o xs ∧ kvOf xs = flK pk G) gd eG
  have nr := (n0.tx (.same s12)).r
  rw [k0] at nr
  have dep : (NestedKey.tup [nk x.o, lk l]).depth ≤ 8 := by
    refine Nat.le_trans (depthL _ 1 fun k hk => ?_) (by omega)
    rcases List.mem_cons.mp hk with e | hk
    · rw [e, nk_depth]; omega
    · rw [List.mem_singleton.mp hk, lk_depth]; omega
  refine ⟨.ref g, rfl, .ref ah, rfl, ah, _, 0, _, rfl, rfl, sqT_tx (.same s12) sqh, atI_nat (j := 0) rfl, g, gv, x.n, .ref d0, rfl, s12.seq sg, rfl, evG, d0, _, rfl, nget_of nr dz dep, q _ H2 s12 ?_⟩
  show (valV (flK pk (Gs.getD x.n [])) (.tup [nk x.o, lk l])).isSome = true ↔ _
  rw [flK_any]
  -- what the held kinds are
  have key : ∀ hd : Option Nat, (∃ q ∈ Gs.getD x.n [], pk q = NestedKey.tup [nk x.o, lk hd.toList]) ↔ Lay h log x.n (x.o, hd) ∧ Gd h log T x.n (x.o, hd) := fun hd => by
    rw [← hGx]
    constructor
    · rintro ⟨q1, h1, h2⟩
      have := pk_inj q1 (x.o, hd) h2
      rw [← this]
      exact h1
    · intro h1
      exact ⟨_, h1, rfl⟩
  obtain ⟨xn', xo, ps⟩ := x
  dsimp only at pm key xps ⊢
  match ps, pm, xps with
  | [], pm, _ =>
    have e : l = [] := List.perm_nil.mp pm
    subst e
    exact key none
  | [a], pm, xps =>
    have e : l = [log.getD a 0] := List.perm_singleton.mp pm
    subst e
    have hal : a < log.length := xps a (by simp)
    have ea : log[a]? = some (log.getD a 0) := by simp [List.getD, List.getElem?_eq_getElem hal]
    refine (key (some (log.getD a 0))).trans ?_
    show _ ↔ ∃ k, log[a]? = some k ∧ _
    constructor
    · rintro ⟨h1, h2⟩
      exact ⟨_, ea, h1, h2⟩
    · rintro ⟨k, h0, h1, h2⟩
      rw [ea] at h0
      cases h0
      exact ⟨h1, h2⟩
  | a :: b :: r, pm, _ =>
    have hl := pm.length_eq
    simp only [List.map_cons, List.length_cons] at hl
    constructor
    · rintro ⟨q1, _, h2⟩
      unfold pk at h2
      injection h2 with h2
      injection h2 with _ h2
      injection h2 with h2 _
      have e := lk_inj h2
      rw [← e] at hl
      have l1 : q1.2.toList.length ≤ 1 := by cases q1.2 <;> simp
      omega
    · intro z
      exact z.elim
end
end K14

/-! W26: held_step, sent_step, smallest_order. -/
namespace K14
open PySem PySem.Spec PyProof.Rows L2
theorem pick_at {β : Type} {g : Hr → Bool} {to : Nat → Hr} {nm : Nat → β} : ∀ {l : List Nat} {i : Nat} {a : Nat}, l[i]? = some a → (∀ b ∈ l.take i, g (to b) = false) → g (to a) = true → pick g to nm l = some (nm a, to a)
  | b :: l, 0, a, e, _, h => by
    have e' : b = a := Option.some.inj e
    subst e'
    unfold pick
    rw [if_pos h]
  | b :: l, i + 1, a, e, hf, h => by
    unfold pick
    rw [if_neg (by rw [hf b (by simp)]; decide)]
    exact pick_at (by simpa using e) (fun c hc => hf c (by simp [hc])) h
theorem pick_none {β : Type} {g : Hr → Bool} {to : Nat → Hr} {nm : Nat → β} : ∀ {l : List Nat}, (∀ b ∈ l, g (to b) = false) → pick g to nm l = none
  | [], _ => rfl
  | b :: l, h => by
    unfold pick
    rw [if_neg (by rw [h b (by simp)]; decide)]
    exact pick_none fun c hc => h c (by simp [hc])
open Classical in
theorem gB_of {h : Hd} {log : List Nat} {T : Nat → Prop} {x : Hr} {b : Bool} (hb : b = true ↔ isG h log T x) : gB h log T x = b := by
  unfold gB
  rw [Bool.eq_iff_iff, decide_eq_true_iff]
  exact hb.symm
/-- what a step is handed -/
structure StepAt (P : Program) (w : World) (K : PySem.W.Frag) (C : Addr) (H : Hp) (h : Hd) (c : Addr) (lg : V) (g : Addr) (hv : V) (log : List Nat) (gv : List V) (Gs : List (List Pr)) (x : Hr) (T : Nat → Prop) : Prop where
  o : h.Ok
  A : CoAt K C H c h
  dl : DV K H (lk log) lg
  hl : ∀ k ∈ log, k < h.K
  ll : log.length ≤ 300
  sg : SqL K H g gv
  gd : GoodV P w K H Gs gv
  gl : Gs.length = log.length + 1
  hG : ∀ j G, Gs[j]? = some G → ∀ q, q ∈ G ↔ Lay h log j q ∧ Gd h log T j q
  ha : HereAt K H hv x
  xg : isG h log T x
theorem StepAt.facts {P : Program} {w : World} {K : PySem.W.Frag} {C : Addr} {H : Hp} {h : Hd} {c : Addr} {lg : V} {g : Addr} {hv : V} {log : List Nat} {gv : List V} {Gs : List (List Pr)} {x : Hr} {T : Nat → Prop} (S : StepAt P w K C H h c lg g hv log gv Gs x T) :
    x.n ≤ log.length ∧ x.o < h.n ∧ x.ps.length ≤ 1 ∧ ∀ a ∈ x.ps, a < log.length := by
  obtain ⟨l1, hd, lay, _, hc⟩ := S.xg.lay
  refine ⟨lay.le, lay.reached.lt S.o, l1, fun a ha => ?_⟩
  rcases hc with ⟨e, _⟩ | ⟨b, k, e, hb, _⟩
  · rw [e] at ha; exact nomatch ha
  · rw [e] at ha
    rw [List.mem_singleton.mp ha]
    exact (List.getElem?_eq_some_iff.mp hb).1
section
variable {P : Program} {w : World} {K : PySem.W.Frag} {mg : Str → Option Value} {base : Heap} {C S : Addr} {tH tP : Tok} {f : Addr} {fd : FuncData}
theorem sc_held_step : FnScope ["courier", "log", "good", "here", "place", "left", "there", "other"] ["courier", "log", "good", "here"] (defScope s_held_step) := ⟨rfl, rfl, rfl, by decide +kernel, rfl, by decide +kernel, by decide +kernel⟩
def sp_held_step (P : Program) (w : World) (K : PySem.W.Frag) (C : Addr) : Sp := fun vs H Q _ => ∃ h c lg g hv log gv Gs x T, vs = [.ref c, lg, .ref g, hv] ∧ StepAt P w K C H h c lg g hv log gv Gs x T ∧
  (heldStep h log (gB h log T) x = none → ∀ H', Same H H' → Q .non H') ∧ ∀ a y v wv H', Same H H' → heldStep h log (gB h log T) x = some (a, y) → SqT K H' v [iv a, wv] → HereAt K H' wv y → Q (.ref v) H'
theorem ok_held_step (T : Txt K mg C S tH tP) (F : FnP K "held_step" "held_step" s_held_step f fd) (g_behind_event : Ok P w K mg base "behind_event" 2 ["courier", "log", "here", "sent", "places", "place"] (sp_behind_event K C)) (g_is_good : Ok P w K mg base "is_good" 3 ["courier", "log", "good", "here"] (sp_is_good P w K C)) :
    FnOk P w K mg base CX0 4 f fd ["courier", "log", "good", "here"] (sp_held_step P w K C) := by
  refine F.ok sc_held_step (fun vs H Q E h => ?_) (fun cdv A outer s H vs Q E hr h => ⟨_, PSs.nox ((pss_cons (ps_for PassesOwn.never rfl (pi_LDK P w K ⟨rfl, rfl, rfl⟩ (pe_ix (ix_tupK P w K ⟨rfl, rfl, rfl⟩) (pv 3) pe_int (fun _ _ => rfl))) (pg_name (i := 4) sc_held_step.nd rfl (.inr rfl))
    (pss_cons (ps_setLc (i := 5) (own := [("other", 7)]) (by rfl) sc_held_step.nd rfl rfl (sw_true rfl rfl rfl (by decide +kernel)) (pi_LDK P w K ⟨rfl, rfl, rfl⟩ (pe_ix (ix_tupK P w K ⟨rfl, rfl, rfl⟩) (pv 3) pe_int (fun _ _ => rfl))) (blkOk_by (own := [("other", 7)]) (N := ["courier", "log", "good", "here", "place", "left", "there", "other"]) (sc := defScope s_held_step) (by decide +kernel)) (fun _ _ _ _ _ => (pg_name (i := 7) sc_held_step.nd rfl (Or.inl rfl))) (fun _ _ _ _ _ => (pts_one (pt_cmpR (op_dneK P w K ⟨rfl, rfl, rfl⟩ hr) (pv 7) (pv 4) (nomark _)))) (fun _ _ _ _ _ => (pv 7)))
  (pss_cons (ps_frz (ps_set (i := 6) sc_held_step.nd rfl (.inl rfl) (pe_callO g_behind_event (hr.mono (by decide)) rfl (pa_cons (pv 0) (pa_cons (pv 1) (pa_cons (pv 3) (pa_cons (pe_ix (ix_tupK P w K ⟨rfl, rfl, rfl⟩) (pv 3) pe_int (fun _ _ => rfl)) (pa_cons (pv 5) (pa_cons (pv 4) pa_nil)))))))))
  (pss_one (ps_if (pt_val (pe_callO g_is_good (hr.mono (by decide)) rfl (pa_cons (pv 0) (pa_cons (pv 1) (pa_cons (pv 2) (pa_cons (pv 6) pa_nil)))))) (pss_one (ps_ret (pe_tup (pa_cons (pv 4) (pa_cons (pv 6) pa_nil))))) pss_nil)))))
  (pss_one (ps_ret pe_non)))), ?_⟩)
  · obtain ⟨h, c, lg, g, hv, log, gv, Gs, x, T, rfl, _⟩ := h
    rfl
  obtain ⟨h, c, lg, g, hv, log, gv, Gs, x, Tg, rfl, St, qn, qs⟩ := h
  have small : 2000 < sizeLine := by decide
  obtain ⟨xn, xo, xl, xps⟩ := St.facts
  obtain ⟨ah, ph, obh, rfl, sqh, fh⟩ := id St.ha
  have sqp : SqL K H ph (x.ps.map iv) := .inl (.inr ⟨obh, fh⟩)
  have ll := St.ll
  refine ⟨.ref ah, rfl, ah, _, 2, _, rfl, rfl, sqh, atI_nat (j := 2) rfl, ph, _, x.ps.map nk, rfl, sqp, dvs_nks, fun J wk => for_it wk (fun i σ H' => Same H H' ∧ (∀ a ∈ x.ps.take i, gB h log Tg (heldTo h log x a) = false) ∧ ∃ y4 y5 y6, σ = [some (.ref c), some lg, some (.ref g), some (.ref ah), y4, y5, y6, none])
    ⟨fun _ _ z => z, (fun a ha => by cases ha), _, _, _, rfl⟩ (fun i σ H' _ pv => ⟨pv.1.seq sqp, .same pv.1⟩) (fun i z σ H2 H3 hi pv y => ?_) (fun σ H2 pv => ?_)⟩
  · obtain ⟨s2, hno, y4, y5, y6, rfl⟩ := pv
    obtain ⟨rfl, k0, ek0, dk⟩ := y
    obtain ⟨hi', ek0⟩ := map_get 0 ek0
    subst ek0
    have etk : x.ps.take (i + 1) = x.ps.take i ++ [x.ps.getD i 0] := take_snoc 0 hi'
    have eat : x.ps[i]? = some (x.ps.getD i 0) := by simp [List.getD, List.getElem?_eq_getElem hi']
    have ha := xps _ (getD_mem 0 hi')
    have ez := of_num dk
    subst ez
    rw [etk]
    generalize x.ps.getD i 0 = a at ha eat
    have sqp2 := s2.seq sqp
    refine ⟨.ref ah, rfl, ah, _, 2, _, rfl, rfl, sqT_tx (.same s2) sqh, atI_nat (j := 2) rfl, ph, _, x.ps.map nk, rfl, sqp2, dvs_nks, fun J2 wk2 D hD => lc_dat (K := K) wk2 (fun j => if (fun b : Nat => decide (b ≠ a)) (x.ps.getD j 0) = true then some (nk (x.ps.getD j 0)) else none) hD (by rw [List.length_map]; omega) (fun H' s => ⟨s.seq sqp2, .same s⟩) (fun j u H4 H5 Nx hj s4 yy no yes => ?_) (fun H4 us4 s4 hD4 ds4 => ?_)⟩
    · obtain ⟨rfl, k1, ek1, du⟩ := yy
      obtain ⟨hj', ek1⟩ := map_get 0 ek1
      subst ek1
      generalize x.ps.getD j 0 = b at du no yes
      refine ⟨rfl, u, rfl, iv a, rfl, nk b, nk a, du, dv_nk, sm_nk _, sm_nk _, _, rfl, ?_⟩
      by_cases m : b = a
      · rw [decide_eq_true (by rw [m])]
        refine iteF (no ?_ _ fun _ _ z => z)
        rw [if_neg (by simp [m])]
      · rw [decide_eq_false (fun z => m (nk_inj z))]
        refine iteT ⟨u, rfl, yes _ _ _ ?_ (fun _ _ z => z) du⟩
        rw [if_pos (by simp [m])]
    have eu : us4 = (x.ps.filter fun b => decide (b ≠ a)).map iv := by
      rw [List.length_map, range_filter (l := x.ps) (g := nk) (p := fun b : Nat => decide (b ≠ a)) 0 rfl] at ds4
      exact of_nks ds4
    subst eu
    have s24 := sametr s2 s4
    have D0 : H D = none := s2.free hD
    refine ⟨D, _, hD4, trivial, fun oD => ?_⟩
    have s5 : Same H (upd H4 D (.frz oD (.lst ((x.ps.filter fun b => decide (b ≠ a)).map iv)))) := same_upd s24 D0
    have f5 : (upd H4 D (.frz oD (.lst ((x.ps.filter fun b => decide (b ≠ a)).map iv)))) D = some (.frz oD (.lst ((x.ps.filter fun b => decide (b ≠ a)).map iv))) := upd_same
    generalize upd H4 D (.frz oD (.lst ((x.ps.filter fun b => decide (b ≠ a)).map iv))) = H5 at s5 f5
    have fl := List.length_filter_le (fun b => decide (b ≠ a)) x.ps
    refine ⟨.ref c, rfl, lg, rfl, .ref ah, rfl, .ref ah, rfl, ah, _, 0, _, rfl, rfl, sqT_tx (.same s5) sqh, atI_nat (j := 0) rfl, .ref D, rfl, iv a, rfl, h, c, lg, .ref ah, x.n, D, a, log, oD, x, _, rfl, St.o, St.A.on s5, St.dl.tx (.same s5), St.hl, ⟨ah, ph, obh, rfl, sqT_tx (.same s5) sqh, s5 _ _ fh⟩, xo, f5, fun b hb => xps b (List.mem_filter.mp hb).1, by omega, ha, fun v H6 s6 hv6 => ?_⟩
    have s56 := sametr s5 s6
    refine ⟨.ref c, rfl, lg, rfl, .ref g, rfl, v, rfl, h, c, lg, g, v, log, gv, Gs, _, Tg, rfl, St.A.on s56, St.dl.tx (.same s56), s56.seq St.sg, St.gd.tx (.same s56), St.gl, St.hG, hv6, xn, fun b hb => xps b (List.mem_filter.mp hb).1, by show (x.ps.filter _).length ≤ 900; omega, fun b H7 s7 hb => ⟨b, rfl, ?_⟩⟩
    have eb : gB h log Tg (heldTo h log x a) = b := gB_of hb
    have s57 := sametr s56 s7
    cases b with
    | true =>
      refine iteT ⟨iv a, rfl, v, rfl, (by show 2 ≤ sizeLine; decide), fun T1 hT => qs a _ T1 v _ (sametr s57 (same_new hT)) (pick_at eat hno eb) (SqT.of upd_same) ((hv6.tx (.same s7)).tx (.new hT))⟩
    | false =>
      refine iteF ⟨s57, fun b hb => ?_, _, _, _, rfl⟩
      rcases List.mem_append.mp hb with hb | hb
      · exact hno b hb
      · rw [List.mem_singleton.mp hb]; exact eb
  · obtain ⟨s2, hno, y4, y5, y6, rfl⟩ := pv
    rw [List.length_map, List.take_length] at hno
    exact qn (pick_none hno) H2 s2
theorem sc_sent_step : FnScope ["courier", "log", "good", "here", "places", "place", "there"] ["courier", "log", "good", "here"] (defScope s_sent_step) := ⟨rfl, rfl, rfl, by decide +kernel, rfl, by decide +kernel, by decide +kernel⟩
def sp_sent_step (P : Program) (w : World) (K : PySem.W.Frag) (C : Addr) : Sp := fun vs H Q _ => ∃ h c lg g hv log gv Gs x T, vs = [.ref c, lg, .ref g, hv] ∧ StepAt P w K C H h c lg g hv log gv Gs x T ∧
  (sentStep h log (gB h log T) x = none → ∀ H', Same H H' → Q .non H') ∧ ∀ a y v wv H', Same H H' → sentStep h log (gB h log T) x = some (a, y) → SqT K H' v [iv a, wv] → HereAt K H' wv y → Q (.ref v) H'
theorem ok_sent_step (T : Txt K mg C S tH tP) (F : FnP K "sent_step" "sent_step" s_sent_step f fd) (g_behind_event : Ok P w K mg base "behind_event" 2 ["courier", "log", "here", "sent", "places", "place"] (sp_behind_event K C)) (g_is_good : Ok P w K mg base "is_good" 3 ["courier", "log", "good", "here"] (sp_is_good P w K C)) :
    FnOk P w K mg base CX0 4 f fd ["courier", "log", "good", "here"] (sp_sent_step P w K C) := by
  refine F.ok sc_sent_step (fun vs H Q E h => ?_) (fun cdv A outer s H vs Q E hr h => ⟨_, PSs.nox ((pss_cons (ps_set (i := 4) sc_sent_step.nd rfl (.inl rfl) (pe_callTy (cr_listOfK P w K ⟨rfl, rfl, rfl⟩) (by rfl) T.z_list (by decide +kernel) (pa_cons (pe_ix (ix_tupK P w K ⟨rfl, rfl, rfl⟩) (pv 3) pe_int (fun _ _ => rfl)) pa_nil)))
  (pss_cons (ps_for PassesOwn.never rfl (pi_range2 rfl T.z_range (pa_cons (pe_ix (ix_tupK P w K ⟨rfl, rfl, rfl⟩) (pv 3) pe_int (fun _ _ => rfl)) (pa_cons (pe_callB (cr_lenDK P w K ⟨rfl, rfl, rfl⟩) (by rfl) T.z_len (by decide +kernel) (pa_cons (pv 1) pa_nil)) pa_nil))) (pg_name (i := 5) sc_sent_step.nd rfl (.inl rfl))
    (pss_cons (ps_set (i := 6) sc_sent_step.nd rfl (.inl rfl) (pe_callO g_behind_event (hr.mono (by decide)) rfl (pa_cons (pv 0) (pa_cons (pv 1) (pa_cons (pv 3) (pa_cons (pe_op op_add (pv 5) pe_int) (pa_cons (pe_frz (pe_callTy (cr_listOfK P w K ⟨rfl, rfl, rfl⟩) (by rfl) T.z_list (by decide +kernel) (pa_cons (pv 4) pa_nil))) (pa_cons (pv 5) pa_nil))))))))
  (pss_cons (ps_if (pt_val (pe_callO g_is_good (hr.mono (by decide)) rfl (pa_cons (pv 0) (pa_cons (pv 1) (pa_cons (pv 2) (pa_cons (pv 6) pa_nil)))))) (pss_one (ps_ret (pe_tup (pa_cons (pv 5) (pa_cons (pv 6) pa_nil))))) pss_nil)
  (pss_one (ps_expr (pe_bmK P w K ⟨rfl, rfl, rfl⟩ PySem.F.plainAttrs_list PySem.F.slot_list_append PySem.F.type_list_append mt_append (pv 4) (pa_cons (pv 5) pa_nil)))))))
  (pss_one (ps_ret pe_non))))), ?_⟩)
  · obtain ⟨h, c, lg, g, hv, log, gv, Gs, x, T, rfl, _⟩ := h
    rfl
  obtain ⟨h, c, lg, g, hv, log, gv, Gs, x, Tg, rfl, St, qn, qs⟩ := h
  have small : 2000 < sizeLine := by decide
  obtain ⟨xn, xo, xl, xps⟩ := St.facts
  obtain ⟨ah, ph, obh, rfl, sqh, fh⟩ := id St.ha
  have sqp : SqL K H ph (x.ps.map iv) := .inl (.inr ⟨obh, fh⟩)
  have ll := St.ll
  refine ⟨.ref ah, rfl, ah, _, 2, _, rfl, rfl, sqh, atI_nat (j := 2) rfl, ph, _, rfl, .inl sqp, fun l hl => ?_⟩
  have s1 : Same H (upd H l (.lst (x.ps.map iv))) := same_new hl
  have nlen : (((log.map nk).length : Int) - (x.n : Int)).toNat = log.length - x.n := by
    rw [List.length_map]
    omega
  refine ⟨.ref ah, rfl, ah, _, 0, _, rfl, rfl, sqT_tx (.same s1) sqh, atI_nat (j := 0) rfl, lg, rfl, lg, _, rfl, St.dl.tx (.same s1), (x.n : Int), ((log.map nk).length : Int), rfl, ⟨by omega, by omega, ?_, ?_⟩, for_it walk_range (fun i σ H' => Same H H' ∧ H' l = some (.lst ((x.ps ++ (List.range i).map (x.n + ·)).map iv)) ∧ (∀ j ∈ List.range i, gB h log Tg (sentTo h log x j) = false) ∧ ∃ y5 y6, σ = [some (.ref c), some lg, some (.ref g), some (.ref ah), some (.ref l), y5, y6])
    ⟨s1, (by show upd H l _ l = _; rw [upd_same]; simp), (fun j hj => by cases hj), _, _, rfl⟩ (fun _ _ _ _ _ => trivial) (fun i z σ H2 H3 hi pv y => ?_) (fun σ H2 pv => ?_)⟩
  · have := Int.natCast_nonneg (log.map nk).length
    omega
  · rw [List.length_map]; omega
  · obtain ⟨s2, l2, hno, y5, y6, rfl⟩ := pv
    obtain ⟨rfl, ex⟩ := y
    rw [nlen] at hi
    have ez : z = iv (x.n + i) := by
      rw [ex]
      show V.int ((x.n : Int) + (i : Int)) = V.int ((x.n + i : Nat) : Int)
      rw [Int.natCast_add]
    subst ez
    have ha : x.n + i < log.length := by omega
    have pl : (x.ps ++ (List.range i).map (x.n + ·)).length = x.ps.length + i := by simp
    have pin : ∀ b ∈ x.ps ++ (List.range i).map (x.n + ·), b < log.length := fun b hb => by
      rcases List.mem_append.mp hb with hb | hb
      · exact xps b hb
      · obtain ⟨j, hj, rfl⟩ := List.mem_map.mp hb
        have := List.mem_range.mp hj
        omega
    refine ⟨.ref c, rfl, lg, rfl, .ref ah, rfl, iv (x.n + i), rfl, _, _, rfl, rfl, .ref l, rfl, l, _, rfl, .inl (SqL.of l2), fun p hp => ⟨p, _, rfl, upd_same, trivial, fun ob => ⟨iv (x.n + i), rfl, ?_⟩⟩⟩
    have p0 : H p = none := s2.free hp
    have lp : l ≠ p := ne_of_none l2 hp
    rw [upd_upd]
    have s5 : Same H (upd H3 p (.frz ob (.lst ((x.ps ++ (List.range i).map (x.n + ·)).map iv)))) := same_upd s2 p0
    have f5 : (upd H3 p (.frz ob (.lst ((x.ps ++ (List.range i).map (x.n + ·)).map iv)))) p = some (.frz ob (.lst ((x.ps ++ (List.range i).map (x.n + ·)).map iv))) := upd_same
    have l5 : (upd H3 p (.frz ob (.lst ((x.ps ++ (List.range i).map (x.n + ·)).map iv)))) l = some (.lst ((x.ps ++ (List.range i).map (x.n + ·)).map iv)) := (upd_ne lp).trans l2
    generalize upd H3 p (.frz ob (.lst ((x.ps ++ (List.range i).map (x.n + ·)).map iv))) = H5 at s5 f5 l5
    refine ⟨h, c, lg, .ref ah, x.n + i + 1, p, x.n + i, log, ob, x, _, rfl, St.o, St.A.on s5, St.dl.tx (.same s5), St.hl, ⟨ah, ph, obh, rfl, sqT_tx (.same s5) sqh, s5 _ _ fh⟩, xo, f5, pin, by omega, ha, fun v H6 s6 hv6 => ?_⟩
    have s56 := sametr s5 s6
    refine ⟨.ref c, rfl, lg, rfl, .ref g, rfl, v, rfl, h, c, lg, g, v, log, gv, Gs, _, Tg, rfl, St.A.on s56, St.dl.tx (.same s56), s56.seq St.sg, St.gd.tx (.same s56), St.gl, St.hG, hv6, (by show x.n + i + 1 ≤ log.length; omega), pin, by show (x.ps ++ _).length ≤ 900; omega, fun b H7 s7 hb => ⟨b, rfl, ?_⟩⟩
    have eb : gB h log Tg (sentTo h log x i) = b := gB_of hb
    have s57 := sametr s56 s7
    cases b with
    | true =>
      refine iteT ⟨iv (x.n + i), rfl, v, rfl, (by show 2 ≤ sizeLine; decide), fun T1 hT => qs (x.n + i) _ T1 v _ (sametr s57 (same_new hT)) (pick_at (l := List.range (log.length - x.n)) (i := i) (a := i) (by rw [List.getElem?_range (by omega)]) (fun b hb => hno b ?_) eb) (SqT.of upd_same) ((hv6.tx (.same s7)).tx (.new hT))⟩
      rw [List.take_range, Nat.min_eq_left (by omega)] at hb
      exact hb
    | false =>
      have l7 := s7 _ _ (s6 _ _ l5)
      refine iteF ⟨.ref l, rfl, .inl ⟨rfl, _, SqL.of l7⟩, iv (x.n + i), rfl, l, _, _, rfl, rfl, l7, (by rw [List.length_map, pl]; omega), ?_⟩
      refine ⟨same_upd s57 hl, ?_, fun j hj => ?_, _, _, rfl⟩
      · rw [upd_same, List.range_succ]
        simp only [List.map_append, List.append_assoc, List.map_cons, List.map_nil]
      · rw [List.range_succ] at hj
        rcases List.mem_append.mp hj with hj | hj
        · exact hno j hj
        · rw [List.mem_singleton.mp hj]; exact eb
  · obtain ⟨s2, l2, hno, y5, y6, rfl⟩ := pv
    rw [nlen] at hno
    exact qn (pick_none hno) H2 s2
end
end K14

/-! W27: smallest_order. -/
namespace K14
open PySem PySem.Spec PyProof.Rows L2
section
variable {P : Program} {w : World} {K : PySem.W.Frag} {mg : Str → Option Value} {base : Heap} {C S : Addr} {tH tP : Tok} {f : Addr} {fd : FuncData}
theorem sc_smallest_order : FnScope ["courier", "log", "states", "found", "good", "here", "place"] ["courier", "log", "states"] (defScope s_smallest_order) := ⟨rfl, rfl, rfl, by decide +kernel, rfl, by decide +kernel, by decide +kernel⟩
def sp_smallest_order (P : Program) (w : World) (K : PySem.W.Frag) (C : Addr) : Sp := fun vs H Q _ => ∃ h c lg st log, ∃ ss : List Nat, vs = [.ref c, lg, .ref st] ∧ h.Ok ∧ CoAt K C H c h ∧ DV K H (lk log) lg ∧ (∀ k ∈ log, k < h.K) ∧ log.length ≤ 300 ∧ SqL K H st (ss.map iv) ∧
  (orderOf h log (fun o => o ∈ ss) = none → ∀ H', Same H H' → Q .non H') ∧ ∀ od v H', Same H H' → orderOf h log (fun o => o ∈ ss) = some od → od.length = log.length → DV K H' (lk od) v → Q v H'
open Classical in
theorem step_len {h : Hd} {log : List Nat} {T : Nat → Prop} {x y : Hr} {a n : Nat} (g : isG h log T x) (e : oneStep h log (gB h log T) x = some (a, y)) (hn : n + x.ps.length = x.n) : isG h log T y ∧ (n + 1) + y.ps.length = y.n := by
  obtain ⟨gy, c⟩ := oneStep_some e
  refine ⟨of_decide_eq_true gy, ?_⟩
  obtain ⟨l1, _⟩ := g.lay
  rcases c with ⟨ha, rfl⟩ | ⟨j, hj, rfl, rfl⟩
  · show (n + 1) + (x.ps.filter fun b => decide (b ≠ a)).length = x.n
    obtain ⟨xn, xo, ps⟩ := x
    dsimp only at ha hn l1 ⊢
    match ps, ha, l1, hn with
    | [b], ha, _, hn =>
      rw [List.mem_singleton.mp ha]
      simp at hn ⊢
      omega
  · show (n + 1) + (x.ps ++ (List.range j).map (x.n + ·)).length = x.n + j + 1
    simp
    omega
theorem orderOf_len {h : Hd} {log : List Nat} {T : Nat → Prop} : ∀ (m : Nat) (x : Hr) (acc : List Nat), isG h log T x → acc.length + x.ps.length = x.n → acc.length + m ≤ log.length → (oRun h log (gB h log T) m x acc).length = acc.length + m
  | 0, _, _, _, _, _ => rfl
  | m + 1, x, acc, g, hn, hm => by
    have go := g.go (by
      by_cases c : x.n < log.length
      · exact .inl c
      · refine .inr fun z => ?_
        rw [z] at hn
        simp at hn
        omega)
    obtain ⟨⟨a, y⟩, e⟩ := Option.isSome_iff_exists.mp go
    obtain ⟨gy, hy⟩ := step_len g e hn
    have r := orderOf_len m y (acc ++ [a]) gy (by simpa using hy) (by simp; omega)
    have e2 : oRun h log (gB h log T) (m + 1) x acc = oRun h log (gB h log T) m y (acc ++ [a]) := by
      show (match oneStep h log (gB h log T) x with | none => acc | some (a, y) => oRun h log (gB h log T) m y (acc ++ [a])) = _
      rw [e]
    rw [e2, r]
    simp
    omega
theorem StepAt.on {P : Program} {w : World} {K : PySem.W.Frag} {C : Addr} {H H' : Hp} {h : Hd} {c : Addr} {lg : V} {g : Addr} {hv : V} {log : List Nat} {gv : List V} {Gs : List (List Pr)} {x : Hr} {T : Nat → Prop} (S : StepAt P w K C H h c lg g hv log gv Gs x T) (s : Same H H') : StepAt P w K C H' h c lg g hv log gv Gs x T :=
  ⟨S.o, S.A.on s, S.dl.tx (.same s), S.hl, S.ll, s.seq S.sg, S.gd.tx (.same s), S.gl, S.hG, S.ha.tx (.same s), S.xg⟩
theorem ok_smallest_order (T : Txt K mg C S tH tP) (F : FnP K "smallest_order" "smallest_order" s_smallest_order f fd) (g_good_layers : Ok P w K mg base "good_layers" 5 ["courier", "log", "states"] (sp_good_layers P w K C)) (g_is_good : Ok P w K mg base "is_good" 3 ["courier", "log", "good", "here"] (sp_is_good P w K C))
    (g_held_step : Ok P w K mg base "held_step" 4 ["courier", "log", "good", "here"] (sp_held_step P w K C)) (g_sent_step : Ok P w K mg base "sent_step" 4 ["courier", "log", "good", "here"] (sp_sent_step P w K C)) :
    FnOk P w K mg base CX0 6 f fd ["courier", "log", "states"] (sp_smallest_order P w K C) := by
  refine F.ok sc_smallest_order (fun vs H Q E h => ?_) (fun cdv A outer s H vs Q E hr h => ⟨_, PSs.nox ((pss_cons (ps_set (i := 3) sc_smallest_order.nd rfl (.inl rfl) (pe_lst pa_nil))
  (pss_cons (ps_par (i := 4) (j := 5) (by rfl) sc_smallest_order.nd rfl rfl (by decide) rfl rfl (pa_cons (pe_callO g_good_layers (hr.mono (by decide)) rfl (pa_cons (pv 0) (pa_cons (pv 1) (pa_cons (pv 2) pa_nil)))) (pa_cons (pe_tup (pa_cons pe_int (pa_cons pe_int (pa_cons (pe_frz (pe_lst pa_nil)) pa_nil)))) pa_nil)) (by rfl))
  (pss_cons (ps_if (pt_not (pt_val (pe_callO g_is_good (hr.mono (by decide)) rfl (pa_cons (pv 0) (pa_cons (pv 1) (pa_cons (pv 4) (pa_cons (pv 5) pa_nil))))))) (pss_one (ps_ret pe_non)) pss_nil)
  (pss_cons (ps_while PassesOwn.never (pt_cmpR op_lt (pe_callB (cr_lenSK P w K ⟨rfl, rfl, rfl⟩) (by rfl) T.z_len (by decide +kernel) (pa_cons (pv 3) pa_nil)) (pe_callB (cr_lenDK P w K ⟨rfl, rfl, rfl⟩) (by rfl) T.z_len (by decide +kernel) (pa_cons (pv 1) pa_nil)) (nomark _))
    (pss_cons (ps_asg (pe_orTK P w K ⟨rfl, rfl, rfl⟩ (pe_callO g_held_step (hr.mono (by decide)) rfl (pa_cons (pv 0) (pa_cons (pv 1) (pa_cons (pv 4) (pa_cons (pv 5) pa_nil))))) (pe_one (pe_callO g_sent_step (hr.mono (by decide)) rfl (pa_cons (pv 0) (pa_cons (pv 1) (pa_cons (pv 4) (pa_cons (pv 5) pa_nil))))))) (pg_tupK (n := 2) P w K ⟨rfl, rfl, rfl⟩ (by rfl) (pgs_cons (pg_name (i := 6) sc_smallest_order.nd rfl (.inl rfl)) (pgs_cons (pg_name (i := 5) sc_smallest_order.nd rfl (.inl rfl)) pgs_nil))))
  (pss_one (ps_expr (pe_bmK P w K ⟨rfl, rfl, rfl⟩ PySem.F.plainAttrs_list PySem.F.slot_list_append PySem.F.type_list_append mt_append (pv 3) (pa_cons (pv 6) pa_nil))))))
  (pss_one (ps_ret (pe_callTy (cr_tupOfK P w K ⟨rfl, rfl, rfl⟩) (by rfl) T.z_tuple (by decide +kernel) (pa_cons (pv 3) pa_nil))))))))), ?_⟩)
  · obtain ⟨h, c, lg, st, log, ss, rfl, _⟩ := h
    rfl
  obtain ⟨h, c, lg, st, log, ss, rfl, o, A, dl, hl, ll, sq, qn, qs⟩ := h
  have small : 2000 < sizeLine := by decide
  refine ⟨Nat.zero_le _, fun fo hfo => ?_⟩
  have s0 : Same H (upd H fo (.lst [])) := same_new hfo
  have f0 : (upd H fo (.lst [])) fo = some (.lst []) := upd_same
  generalize upd H fo (.lst []) = H0 at s0 f0
  refine ⟨.ref c, rfl, lg, rfl, .ref st, rfl, h, c, lg, st, log, ss, rfl, o, A.on s0, dl.tx (.same s0), hl, by omega, s0.seq sq, fun g gv Gs H1 s1 hg0 hg gd gl hG => ?_⟩
  have gfo : fo ≠ g := ne_of_none f0 hg0
  have s01 := sametr s0 s1
  have f1 := s1 _ _ f0
  refine ⟨Nat.zero_le _, fun p hp => ⟨p, _, rfl, upd_same, trivial, fun ob => ?_⟩⟩
  rw [upd_upd]
  have s02 : Same H (upd H1 p (.frz ob (.lst []))) := same_upd s01 (s01.free hp)
  have s12 : Same H1 (upd H1 p (.frz ob (.lst []))) := same_new hp
  have fp : (upd H1 p (.frz ob (.lst []))) p = some (.frz ob (.lst [])) := upd_same
  generalize upd H1 p (.frz ob (.lst [])) = H2 at s02 s12 fp
  refine ⟨by show 3 ≤ sizeLine; decide, fun t ht => ?_⟩
  have s23 : Same H2 (upd H2 t (.tup [.int 0, .int 0, .ref p])) := same_new ht
  have ft : SqT K (upd H2 t (.tup [.int 0, .int 0, .ref p])) t [.int 0, .int 0, .ref p] := SqT.of upd_same
  generalize upd H2 t (.tup [.int 0, .int 0, .ref p]) = H3 at s23 ft
  have s03 := sametr s02 s23
  have s13 := sametr s12 s23
  have ha : HereAt K H3 (.ref t) ⟨0, 0, []⟩ := ⟨t, p, ob, rfl, ft, s23 _ _ fp⟩
  have f3 := s13 _ _ f1
  have g3 := s13 _ _ hg
  have gd3 := gd.tx (.same s13)
  refine ⟨.ref g, .ref t, rfl, .ref c, rfl, lg, rfl, .ref g, rfl, .ref t, rfl, h, c, lg, g, .ref t, log, gv, Gs, ⟨0, 0, []⟩, fun o => o ∈ ss, rfl, A.on s03, dl.tx (.same s03), SqL.of g3, gd3, gl, hG, ha, Nat.zero_le _, (fun a z => nomatch z), Nat.zero_le _, fun b H4 s4 hb => ⟨b, rfl, ?_⟩⟩
  have eb := gB_of hb
  have s04 := sametr s03 s4
  cases b with
  | false => 
    refine iteT (qn ?_ _ s04)
    unfold orderOf
    rw [if_neg (by rw [eb]; decide)]
  | true =>
    have eo : orderOf h log (fun o => o ∈ ss) = some (oRun h log (gB h log fun o => o ∈ ss) log.length ⟨0, 0, []⟩ []) := by
      unfold orderOf
      rw [if_pos eb]
    have f4 := s4 _ _ f3
    have g4 := s4 _ _ g3
    have o4 : H fo = none := hfo
    refine iteF ⟨fun m σ H' => ∃ x acc hv y6, m = log.length - acc.length ∧ Same H H' ∧ TX H3 H' ∧ H' fo = some (.lst (acc.map iv)) ∧ H' g = some (.lst gv) ∧ isG h log (fun o => o ∈ ss) x ∧ acc.length + x.ps.length = x.n ∧ acc.length ≤ log.length ∧
        oRun h log (gB h log fun o => o ∈ ss) (log.length - acc.length) x acc = oRun h log (gB h log fun o => o ∈ ss) log.length ⟨0, 0, []⟩ [] ∧ HereAt K H' hv x ∧ σ = [some (.ref c), some lg, some (.ref st), some (.ref fo), some (.ref g), some hv, y6],
      ⟨_, ⟨0, 0, []⟩, [], .ref t, _, rfl, s04, .same s4, f4, g4, hb.mp rfl, rfl, Nat.zero_le _, rfl, ha.tx (.same s4), rfl⟩, fun m σ H' pv => ?_⟩
    obtain ⟨x, acc, hv, y6, em, sH, t3, ff, gg, xg, xl, al, er, hx, rfl⟩ := pv
    refine ⟨.ref fo, rfl, fo, acc.map iv, rfl, .inl (SqL.of ff), lg, rfl, lg, _, rfl, dl.tx (.same sH), _, ((log.map nk).length : Int), rfl, rfl, _, rfl, ?_⟩
    rw [List.length_map, List.length_map]
    by_cases lt : acc.length < log.length
    · rw [decide_eq_true (by omega)]
      have gd4 := gd3.tx t3
      have go := xg.go (by
        by_cases c : x.n < log.length
        · exact .inl c
        · refine .inr fun z => ?_
          rw [z] at xl
          simp at xl
          omega)
      obtain ⟨⟨a, y⟩, es⟩ := Option.isSome_iff_exists.mp go
      obtain ⟨yg, yl⟩ := step_len xg es xl
      have en : oRun h log (gB h log fun o => o ∈ ss) (log.length - acc.length) x acc = oRun h log (gB h log fun o => o ∈ ss) (log.length - (acc.length + 1)) y (acc ++ [a]) := by
        rw [show log.length - acc.length = (log.length - (acc.length + 1)) + 1 by omega]
        show (match oneStep h log (gB h log fun o => o ∈ ss) x with | none => acc | some (a, y) => oRun h log (gB h log fun o => o ∈ ss) (log.length - (acc.length + 1)) y (acc ++ [a])) = _
        rw [es]
      have St : StepAt P w K C H' h c lg g hv log gv Gs x (fun o => o ∈ ss) := ⟨o, A.on sH, dl.tx (.same sH), hl, ll, SqL.of gg, gd4, gl, hG, hx, xg⟩
      refine ⟨_, fun σ' H' z => z, .ref c, rfl, lg, rfl, .ref g, rfl, hv, rfl, h, c, lg, g, hv, log, gv, Gs, x, fun o => o ∈ ss, rfl, St, fun eh H5 s5 => ⟨false, rfl, ?_⟩, fun a' y' v wv H5 s5 eh sv hy => ⟨true, .inr (.inl ⟨_, sv, rfl⟩), ?_⟩⟩
      · refine ⟨.ref c, rfl, lg, rfl, .ref g, rfl, hv, rfl, h, c, lg, g, hv, log, gv, Gs, x, fun o => o ∈ ss, rfl, St.on s5, fun eh2 => ?_, fun a' y' v wv H5 s56 eh2 sv hy => ?_⟩
        · unfold oneStep at es; rw [eh, eh2] at es; exact nomatch es
        have ea : (a, y) = (a', y') := by
          unfold oneStep at es
          rw [eh, eh2] at es
          exact (Option.some.inj es).symm
        cases ea
        replace s5 := sametr s5 s56
        have sH5 := sametr sH s5
        have ff5 := s5 _ _ ff
        refine ⟨v, _, rfl, sv, rfl, iv a, [wv], rfl, wv, [], rfl, rfl, .ref fo, rfl, .inl ⟨rfl, _, SqL.of ff5⟩, iv a, rfl, fo, _, _, rfl, rfl, ff5, (by rw [List.length_map]; omega), ?_⟩
        refine ⟨log.length - (acc ++ [a]).length, ?_, y, acc ++ [a], wv, _, rfl, same_upd sH5 o4, (t3.trans (.same s5)).trans (.lst ff5), ?_, (upd_ne gfo.symm).trans (s5 _ _ gg), yg, ?_, ?_, ?_, hy.tx (.lst ff5), rfl⟩
        · rw [em]; simp; omega
        · rw [upd_same, List.map_append]; rfl
        · simp; omega
        · simp; omega
        · rw [← er, en]; simp
      · have ea : (a, y) = (a', y') := by
          unfold oneStep at es
          rw [eh] at es
          exact (Option.some.inj es).symm
        cases ea
        have sH5 := sametr sH s5
        have ff5 := s5 _ _ ff
        refine ⟨v, _, rfl, sv, rfl, iv a, [wv], rfl, wv, [], rfl, rfl, .ref fo, rfl, .inl ⟨rfl, _, SqL.of ff5⟩, iv a, rfl, fo, _, _, rfl, rfl, ff5, (by rw [List.length_map]; omega), ?_⟩
        refine ⟨log.length - (acc ++ [a]).length, ?_, y, acc ++ [a], wv, _, rfl, same_upd sH5 o4, (t3.trans (.same s5)).trans (.lst ff5), ?_, (upd_ne gfo.symm).trans (s5 _ _ gg), yg, ?_, ?_, ?_, hy.tx (.lst ff5), rfl⟩
        · rw [em]; simp; omega
        · rw [upd_same, List.map_append]; rfl
        · simp; omega
        · simp; omega
        · rw [← er, en]; simp
    · rw [decide_eq_false (by omega)]
      have e0 : log.length - acc.length = 0 := by omega
      rw [e0] at er
      have er2 : acc = oRun h log (gB h log fun o => o ∈ ss) log.length ⟨0, 0, []⟩ [] := er
      refine ⟨.ref fo, rfl, fo, acc.map iv, acc.map nk, rfl, SqL.of ff, dvs_nks, fun v H5 s5 dv => qs acc v H5 (sametr sH s5) ?_ (by omega) dv⟩
      rw [eo, ← er2]
end
end K14

/-! W28: unlike_states, told_by. -/
namespace K14
open PySem PySem.Spec PyProof.Rows L2
section
variable {P : Program} {w : World} {K : PySem.W.Frag} {mg : Str → Option Value} {base : Heap} {C S : Addr} {tH tP : Tok} {f : Addr} {fd : FuncData}
theorem sc_unlike_states : FnScope ["handler", "state", "classes", "other", "mark"] ["handler", "state"] (defScope s_unlike_states) := ⟨rfl, rfl, rfl, by decide +kernel, rfl, by decide +kernel, by decide +kernel⟩
def sp_unlike_states (K : PySem.W.Frag) : Sp := fun vs H Q _ => ∃ h v s, vs = [v, iv s] ∧ h.Ok ∧ DV K H (hk h) v ∧ s < h.n ∧ ∀ f H' (ss : List Nat), Same H H' → H' f = some (.lst (ss.map iv)) → (∀ o, o ∈ ss ↔ o < h.n ∧ ¬ Alike h o s) → Q (.ref f) H'
theorem ok_unlike_states (T : Txt K mg C S tH tP) (F : FnP K "unlike_states" "unlike_states" s_unlike_states f fd) (g_alike_classes : Ok P w K mg base "alike_classes" 2 ["handler"] (sp_alike_classes K)) : FnOk P w K mg base CX0 3 f fd ["handler", "state"] (sp_unlike_states K) := by
  refine F.ok sc_unlike_states (fun vs H Q E h => ?_) (fun cdv A outer s H vs Q E hr h => ⟨_, PSs.nox ((pss_cons (ps_set (i := 2) sc_unlike_states.nd rfl (.inr rfl) (pe_callO g_alike_classes (hr.mono (by decide)) rfl (pa_cons (pv 0) pa_nil)))
  (pss_one (ps_ret (pe_lc (own := [("other", 3), ("mark", 4)]) (by rfl) sc_unlike_states.nd (pi_ED P w K ⟨rfl, rfl, rfl⟩ (by rfl) T.z_enumerate (pa_cons (pv 2) pa_nil)) (blkOk_by (own := [("other", 3), ("mark", 4)]) (N := ["handler", "state", "classes", "other", "mark"]) (sc := defScope s_unlike_states) (by decide +kernel)) (fun _ _ _ _ _ => (pg_tupK (n := 2) P w K ⟨rfl, rfl, rfl⟩ (by rfl) (pgs_cons (pg_name (i := 3) sc_unlike_states.nd rfl (Or.inl rfl)) (pgs_cons (pg_name (i := 4) sc_unlike_states.nd rfl (Or.inl rfl)) pgs_nil)))) (fun _ _ _ _ _ => (pts_one (pt_cmpR (op_dneK P w K ⟨rfl, rfl, rfl⟩ hr) (pv 4) (pe_ix (ix_datK P w K ⟨rfl, rfl, rfl⟩) (pv 2) (pv 1) (fun _ _ => rfl)) (nomark _)))) (fun _ _ _ _ _ => (pv 3))))))), ?_⟩)
  · obtain ⟨h, v, s, rfl, _⟩ := h
    rfl
  obtain ⟨h, v, s, rfl, o, d, hs, q⟩ := h
  have n8 := o.n8
  have small : 200 < sizeLine := by decide
  refine ⟨v, rfl, h, v, rfl, o, d, fun c u H1 s1 ck du => ?_⟩
  obtain ⟨cl, ca⟩ := ck
  refine ⟨u, rfl, u, c.map nk, rfl, du, fun J wk D hD => lc_dat (K := K) wk (fun j => if (fun b : Nat => decide (c.getD b 0 ≠ c.getD s 0)) ((List.range h.n).getD j 0) = true then some (nk ((List.range h.n).getD j 0)) else none) hD (by rw [List.length_map]; omega) (fun H' s => .same s) (fun j x H2 H3 Nx hj s2 y no yes => ?_) (fun H2 us s2 hD2 ds => ?_)⟩
  · obtain ⟨s3, k, ek, dx⟩ := y
    rw [List.length_map, cl] at hj
    have ek' : k = nk (c.getD j 0) := by
      rw [lk_get (by omega)] at ek
      exact (Option.some.inj ek).symm
    subst ek'
    obtain ⟨a, y1, y2, rfl, sq, d1, d2⟩ := of_tup2 dx
    have e1 := of_num d1
    have e2 := of_num d2
    subst e1 e2
    have ej : (List.range h.n).getD j 0 = j := by simp [List.getD, List.getElem?_range hj]
    rw [ej] at no yes
    have s13 := sametr s2 s3
    refine ⟨a, [iv j, iv (c.getD j 0)], rfl, sq, rfl, iv j, [iv (c.getD j 0)], rfl, iv (c.getD j 0), [], rfl, rfl, rfl, iv (c.getD j 0), rfl, u, rfl, iv s, rfl, c.map nk, s, _, du.tx (.same s13), rfl, lk_get (by omega), fun z dz => ⟨_, _, d2, dz, sm_nk _, sm_nk _, _, rfl, ?_⟩⟩
    by_cases m : c.getD j 0 = c.getD s 0
    · rw [decide_eq_true (by rw [m])]
      refine iteF (no ?_ _ s3)
      exact if_neg fun z => absurd m (of_decide_eq_true z)
    · rw [decide_eq_false (fun z => m (nk_inj z))]
      refine iteT ⟨iv j, rfl, yes _ _ _ ?_ s3 d1⟩
      exact if_pos (decide_eq_true m)
  · have eu : us = ((List.range h.n).filter fun b => decide (c.getD b 0 ≠ c.getD s 0)).map iv := by
      rw [List.length_map, cl, range_filter (l := List.range h.n) (g := nk) (p := fun b : Nat => decide (c.getD b 0 ≠ c.getD s 0)) 0 (by rw [List.length_range])] at ds
      exact of_nks ds
    subst eu
    refine q _ _ _ (sametr s1 s2) hD2 fun a => ?_
    rw [List.mem_filter, List.mem_range, decide_eq_true_iff]
    constructor
    · rintro ⟨ha, z⟩
      exact ⟨ha, fun al => z ((ca a s ha hs).mpr al)⟩
    · rintro ⟨ha, z⟩
      exact ⟨ha, fun e => z ((ca a s ha hs).mp e)⟩
/-! ### told_by -/
theorem ML.keysOf {K : PySem.W.Frag} {H : Hp} {α : Type} {g : α → NestedKey} {val : α → List NestedKey} {keys : List α} : ∀ {xs : List Ent}, ML K H g val keys (kvOf xs) → xs.map (·.1) = keys.map g := by
  intro xs h
  have e : (kvOf xs).map (·.1) = keys.map g := by
    unfold ML at h
    generalize kvOf xs = kvs at h
    induction h with
    | nil => rfl
    | cons a _ ih => rw [List.map_cons, List.map_cons, ih, a.1]
  rw [← e]
  unfold kvOf
  rw [List.map_map]
  rfl
theorem alike_sk (t u : St4) : PySem.W.alike (NestedKey.data (sk t)) (NestedKey.data (sk u)) = true := by
  obtain ⟨a, b, c, d⟩ := t
  obtain ⟨a', b', c', d'⟩ := u
  cases d <;> cases d' <;> rfl
section
variable {X : Cx}
theorem cr_tupRawK (P : Program) (w : World) (K : PySem.W.Frag) (at_ : At X P w K) : CallR X (.type "tuple") (fun vs H Q => ∃ p us, vs = [.ref p] ∧ SqL K H p us ∧ ∀ l, H l = none → Q (.ref l) (upd H l (.tup us))) := by
  obtain ⟨rfl, rfl, rfl⟩ := at_
  exact wkC call_tuple_of fun vs H Q hq => by
    obtain ⟨p, us, ev, hs, q⟩ := hq
    exact ⟨p, us, ev, .inl ⟨hs, q⟩⟩
end
theorem sc_told_by : FnScope ["courier", "plan", "classes", "come", "sent", "need", "stand"] ["courier", "plan"] (defScope s_told_by) := ⟨rfl, rfl, rfl, by decide +kernel, rfl, by decide +kernel, by decide +kernel⟩
/-- the answer of told_by -/
def sp_told_by (P : Program) (w : World) (K : PySem.W.Frag) (C : Addr) : Sp := fun vs H Q _ => ∃ h p c pv, vs = [.ref c, pv] ∧ h.Ok ∧ p.Ok h.K ∧ h.n ≤ 4 ∧ h.K ≤ 3 ∧ CoAt K C H c h ∧ DV K H (plk p) pv ∧
  (FirstWrong h p none → ∀ T x H', Same H H' → SqT K H' T [x, .non] → Q (.ref T) H') ∧ ∀ T x l u H', Same H H' → l.length ≤ 200 → FirstWrong h p (some l) → SqT K H' T [x, u] → DV K H' (lk l) u → Q (.ref T) H'
theorem ok_told_by (T : Txt K mg C S tH tP) (F : FnP K "told_by" "told_by" s_told_by f fd) (g_alike_classes : Ok P w K mg base "alike_classes" 2 ["handler"] (sp_alike_classes K)) (g_all_moves : Ok P w K mg base "all_moves" 4 ["courier", "plan"] (sp_all_moves P w K C))
    (g_is_wrong : Ok P w K mg base "is_wrong" 1 ["plan", "classes", "stand"] (sp_is_wrong K)) (g_needs_of : Ok P w K mg base "needs_of" 2 ["come", "sent", "wrong"] (sp_needs_of P w K)) (g_first_wrong_log : Ok P w K mg base "first_wrong_log" 2 ["come", "sent", "need"] (sp_first_wrong_log P w K)) :
    FnOk P w K mg base CX0 5 f fd ["courier", "plan"] (sp_told_by P w K C) := by
  refine F.ok sc_told_by (fun vs H Q E h => ?_) (fun cdv A outer s H vs Q E hr h => ⟨_, PSs.nox ((pss_cons (ps_set (i := 2) sc_told_by.nd rfl (.inr rfl) (pe_callO g_alike_classes (hr.mono (by decide)) rfl (pa_cons (pe_fldK P w K ⟨rfl, rfl, rfl⟩ (pv 0) rfl) pa_nil)))
  (pss_cons (ps_asg (pe_callO g_all_moves (hr.mono (by decide)) rfl (pa_cons (pv 0) (pa_cons (pv 1) pa_nil))) (pg_tupK (n := 2) P w K ⟨rfl, rfl, rfl⟩ (by rfl) (pgs_cons (pg_name (i := 3) sc_told_by.nd rfl (.inl rfl)) (pgs_cons (pg_name (i := 4) sc_told_by.nd rfl (.inl rfl)) pgs_nil))))
  (pss_cons (ps_set (i := 5) sc_told_by.nd rfl (.inl rfl) (pe_callO g_needs_of (hr.mono (by decide)) rfl (pa_cons (pv 3) (pa_cons (pv 4) (pa_cons (pe_lc (own := [("stand", 6)]) (by rfl) sc_told_by.nd (pi_NK P w K ⟨rfl, rfl, rfl⟩ (pv 3)) (blkOk_by (own := [("stand", 6)]) (N := ["courier", "plan", "classes", "come", "sent", "need", "stand"]) (sc := defScope s_told_by) (by decide +kernel)) (fun _ _ _ _ _ => (pg_name (i := 6) sc_told_by.nd rfl (Or.inl rfl))) (fun _ _ _ _ _ => (pts_one (pt_val (pe_callO g_is_wrong (hr.mono (by decide)) rfl (pa_cons (pv 1) (pa_cons (pv 2) (pa_cons (pv 6) pa_nil))))))) (fun _ _ _ _ _ => (pv 6))) pa_nil)))))
  (pss_one (ps_ret (pe_tup (pa_cons (pe_callTy (cr_tupRawK P w K ⟨rfl, rfl, rfl⟩) (by rfl) T.z_tuple (by decide +kernel) (pa_cons (pe_callB (cr_nsortK P w K ⟨rfl, rfl, rfl⟩ rfl hr) (by rfl) T.z_sorted (by decide +kernel) (pa_cons (pv 3) pa_nil)) pa_nil)) (pa_cons (pe_callO g_first_wrong_log (hr.mono (by decide)) rfl (pa_cons (pv 3) (pa_cons (pv 4) (pa_cons (pv 5) pa_nil)))) pa_nil))))))))), ?_⟩)
  · obtain ⟨h, p, c, pv, rfl, _⟩ := h
    rfl
  obtain ⟨h, p, c, pv, rfl, o, po, n4, k3, A, dp, qn, qs⟩ := h
  have small : 2000 < sizeLine := by decide
  have n8 := o.n8
  obtain ⟨dx, hv, he, c1, c2, c3⟩ := A.ex
  refine ⟨.ref c, rfl, c, C, dx, _, hv, rfl, c1, T.cl, T.n_handler, cf_handler hv he, h, hv, rfl, o, c2, fun cl cu H1 s1 ck dc => ?_⟩
  refine ⟨.ref c, rfl, pv, rfl, h, p, c, pv, rfl, o, po, n4, k3, A.on s1, dp.tx (.same s1), fun T0 dc0 ds0 keys H2 s2 sqT0 knd kc M => ?_⟩
  have s02 := sametr s1 s2
  have kl : keys.length ≤ 192 := Nat.le_trans (nodup_len knd fun q hq => mem_univ4 o (Come.good po ((kc q).mp hq))) (univ4_len n4 k3 po.r3)
  obtain ⟨oc, xs, nc, mc⟩ := M.cc
  have ek := mc.keysOf
  have xl : xs.length = keys.length := by rw [← List.length_map (f := fun x : Ent => x.1), ek, List.length_map]
  refine ⟨T0, _, rfl, sqT0, rfl, .ref dc0, [.ref ds0], rfl, .ref ds0, [], rfl, rfl, .ref dc0, rfl, .ref ds0, rfl, .ref dc0, rfl, dc0, oc, xs, rfl, nc.1, fun D hD => lc_dat (K := K) walk_N (fun j => if (fun t : St4 => @decide (Wrong h p t) (Classical.propDecidable _)) (keys.getD j start4) = true then some (sk (keys.getD j start4)) else none) hD (by omega) (fun H' s => s _ _ nc.1) (fun j x H3 H4 Nx hj s3 y no yes => ?_) (fun H3 us s3 hD3 ds => ?_)⟩
  · obtain ⟨rfl, y, ey, rfl⟩ := y
    rw [xl] at hj
    have hk : xs.map (·.1) = keys.map sk := ek
    have ey1 : y.1 = sk (keys.getD j start4) := by
      have e1 : (xs.map (·.1))[j]? = some y.1 := by rw [List.getElem?_map, ey]; rfl
      rw [hk, List.getElem?_map, List.getElem?_eq_getElem hj] at e1
      have e2 : keys.getD j start4 = keys[j] := by simp [List.getD, List.getElem?_eq_getElem hj]
      rw [e2]
      exact (Option.some.inj e1).symm
    have tm : keys.getD j start4 ∈ keys := getD_mem start4 hj
    have dy : DV K H2 (sk (keys.getD j start4)) (.ref y.2.1) := by
      rw [← ey1]
      exact (nc.2 y (List.mem_of_getElem? ey)).1
    generalize keys.getD j start4 = t at tm dy no yes
    have gt := Come.good po ((kc t).mp tm)
    have dy3 := dy.tx (.same s3)
    have s03 := sametr s02 s3
    refine ⟨rfl, pv, rfl, cu, rfl, .ref y.2.1, rfl, h, p, cl, pv, cu, .ref y.2.1, t, rfl, ck, dp.tx (.same s03), dc.tx (.same (sametr s2 s3)), dy3, gt.s.lt o, gt.o.lt o, fun b H5 s5 hb => ⟨b, rfl, ?_⟩⟩
    cases b with
    | true =>
      refine iteT ⟨.ref y.2.1, rfl, yes _ _ _ ?_ s5 (dy3.tx (.same s5))⟩
      exact if_pos (@decide_eq_true _ (Classical.propDecidable _) (hb.mp rfl))
    | false =>
      refine iteF (no ?_ _ s5)
      exact if_neg fun z => nomatch hb.mpr (@of_decide_eq_true _ (Classical.propDecidable _) z)
  · rw [xl, range_filter (l := keys) (g := sk) (p := fun t : St4 => @decide (Wrong h p t) (Classical.propDecidable _)) start4 rfl] at ds
    have fl := List.length_filter_le (fun t : St4 => @decide (Wrong h p t) (Classical.propDecidable _)) keys
    have s03 := sametr s02 s3
    have M3 := M.tx (.same s3)
    refine ⟨h, p, dc0, ds0, D, us, keys, _, rfl, o, k3, M3, knd, by omega, kc, SqL.of hD3, ds, by omega, fun t => ?_, fun dn Fs H4 s4 dn0 nd4 fnd fdi fle => ?_⟩
    · rw [List.mem_filter]
      exact ⟨fun z => ⟨z.1, @of_decide_eq_true _ (Classical.propDecidable _) z.2⟩, fun z => ⟨z.1, @decide_eq_true _ (Classical.propDecidable _) z.2⟩⟩
    have s04 := sametr s03 s4
    have nc4 := nc.tx (.same (sametr s3 s4))
    refine ⟨.ref dc0, rfl, dc0, xs, rfl, .inr ⟨oc, nc4.1⟩, nc4.2, fun x hx y hy => ?_, fun x hx => ?_, fun p1 ys hp1 => ?_⟩
    · obtain ⟨t, _, e1⟩ := List.mem_map.mp (by rw [← ek]; exact List.mem_map_of_mem (f := fun x : Ent => x.1) hx)
      obtain ⟨u, _, e2⟩ := List.mem_map.mp (by rw [← ek]; exact List.mem_map_of_mem (f := fun x : Ent => x.1) hy)
      rw [← e1, ← e2]
      exact alike_sk t u
    · obtain ⟨t, _, e1⟩ := List.mem_map.mp (by rw [← ek]; exact List.mem_map_of_mem (f := fun x : Ent => x.1) hx)
      exact ⟨_, _, e1.symm⟩
    refine ⟨p1, ys, rfl, SqL.of upd_same, fun l hl => ?_⟩
    have s45 : Same H4 (upd (upd H4 p1 (.lst ys)) l (.tup ys)) := sametr (same_new hp1) (same_new hl)
    generalize upd (upd H4 p1 (.lst ys)) l (.tup ys) = H5 at s45
    have s05 := sametr s04 s45
    refine ⟨.ref dc0, rfl, .ref ds0, rfl, .ref dn, rfl, h, p, dc0, ds0, dn, keys, Fs, rfl, k3, M.tx (.same (sametr (sametr s3 s4) s45)), by omega, kc, ⟨nd4.r.same s45, fnd, fdi, fun e he => (fle e he).2⟩, fun fw H6 s6 => ?_, fun lg u H6 s6 ll fw du => ?_⟩
    · refine ⟨by show 2 ≤ sizeLine; decide, fun T1 hT1 => qn fw T1 (.ref l) _ (sametr (sametr s05 s6) (same_new hT1)) (SqT.of upd_same)⟩
    · refine ⟨by show 2 ≤ sizeLine; decide, fun T1 hT1 => qs T1 (.ref l) lg u _ (sametr (sametr s05 s6) (same_new hT1)) ll fw (SqT.of upd_same) (du.tx (.new hT1))⟩
end
end K14

/-! W29: require_hold, Courier's __init__, find_wrong. -/
namespace K14
open PySem PySem.Spec PyProof.Rows L2
structure OkK (P : Program) (w : World) (K : PySem.W.Frag) (mg : Str → Option Value) (base : Heap) (C : Addr) (x : Str) (k : Nat) (ps : List Str) (sp : Sp) : Prop where
  ex : ∃ f fd, Mk K C f ∧ FnOk P w K mg base CX0 k f fd ps sp ∧ mg x = some (.ref C) ∧ Binds K fd ps []
structure OkD (P : Program) (w : World) (K : PySem.W.Frag) (mg : Str → Option Value) (base : Heap) (x : Str) (k : Nat) (ps : List Str) (dvs : List V) (sp : Sp) : Prop where
  ex : ∃ f fd ds, FnOk P w K mg base CX0 k f fd ps sp ∧ mg x = some (.ref f) ∧ PySem.W.keepIn K (.ref f) = true ∧ Vals dvs ds ∧ Binds K fd ps ds
def tMk (C : Addr) (sp : Sp) (t : TA) : TE := fun σ H Q => t σ H fun vs H1 => ∀ x dx, H1 x = none → H1 dx = none → dx ≠ x → sp (.ref x :: vs) (upd (upd H1 dx (.own x)) x (.ins C dx [])) (fun v H2 => v = .non ∧ Q (.ref x) H2) E0
section
variable {X : Cx} {k : Nat} {C : Addr} {ps : List Str} {dvs : List V} {sp : Sp} {x m : Str} {p pos : Pos} {e : Expr} {es : List Expr} {t : TA}
theorem pe_makeO (G : OkK X.prog X.w X.K X.mg X.base C x k ps sp) (hr : Room (k + 1) X.A) (hg : Gl X x) (ha : PA X (e :: es) t) (hdb : (x == ("__debug__" : Str)) = false := by decide)
    (he : starEach (e :: es) X.env = (false, eval e X.env) :: starEach es X.env := by rfl) (hpl : (backTo pos (starEach es X.env)).any (·.1) = false := by rfl) : PE X (.Call (.Name x p) (e :: es) [] pos) (tMk C sp t) := by
  obtain ⟨f, fd, M, F, hm, b⟩ := G.ex
  have h := pe_make (pos := pos) (p := p) M F hr hg hm b .nil pass0 ha hdb he hpl
  have e1 : tMake C sp [] E0 t = tMk C sp t := by
    unfold tMake tMk
    simp only [List.append_nil]
  rw [e1] at h
  exact h
theorem pe_callOD (G : OkD X.prog X.w X.K X.mg X.base x k ps dvs sp) (hr : Room k X.A) (hg : Gl X x) (ha : PA X (e :: es) t) (hdb : (x == ("__debug__" : Str)) = false := by decide)
    (he : starEach (e :: es) X.env = (false, eval e X.env) :: starEach es X.env := by rfl) (hpl : (backTo pos (starEach es X.env)).any (·.1) = false := by rfl) : PE X (.Call (.Name x p) (e :: es) [] pos) (tCall sp dvs E0 t) := by
  obtain ⟨f, fd, ds, F, hm, kp, hv, b⟩ := G.ex
  exact pe_call F hr hg hm kp b hv pass0 ha hdb he hpl
end
/-- an order or none -/
def olk : Option (List Nat) → NestedKey
  | none => .none
  | some l => lk l
section
variable {P : Program} {w : World} {K : PySem.W.Frag} {mg : Str → Option Value} {base : Heap} {C S : Addr} {tH tP : Tok} {f : Addr} {fd : FuncData}
theorem sc_require_hold : FnScope ["hold"] ["hold"] (defScope s_require_hold) := ⟨rfl, rfl, rfl, by decide +kernel, rfl, by decide +kernel, by decide +kernel⟩
def sp_require_hold : Sp := fun vs H Q _ => vs = [.int 1] ∧ Q .non H
theorem ok_require_hold (T : Txt K mg C S tH tP) (F : FnP K "require_hold" "require_hold" s_require_hold f fd) (g_is_integer : Ok P w K mg base "is_integer" 1 ["value", "low", "high"] sp_is_integer) : FnOk P w K mg base CX0 2 f fd ["hold"] sp_require_hold := by
  refine F.ok sc_require_hold (fun vs H Q E h => ?_) (fun cdv A outer s H vs Q E hr h => ⟨_, PSs.nox ((pss_one (ps_if (pt_not (pt_val (pe_callO g_is_integer (hr.mono (by decide)) rfl (pa_cons (pv 0) (pa_cons pe_int (pa_cons (pe_glob (v := .int 3) rfl T.g_MAX_HOLD ⟨_, rfl⟩) pa_nil)))))) (pss_one ps_never) pss_nil))), ?_⟩)
  · obtain ⟨rfl, _⟩ := h
    rfl
  obtain ⟨rfl, q⟩ := h
  exact ⟨.int 1, rfl, 1, 0, 3, rfl, by decide, by decide, true, rfl, iteF q⟩
theorem sc_m_init : FnScope ["self", "handler", "hold", "orderly", "kept"] ["self", "handler", "hold", "orderly", "kept"] (defScope m_init) := ⟨rfl, rfl, rfl, by decide +kernel, rfl, by decide +kernel, by decide +kernel⟩
def sp_init (K : PySem.W.Frag) (C : Addr) : Sp := fun vs H Q _ => ∃ x dx v e, vs = [.ref x, v, .int 1, .bl false, e] ∧ H x = some (.ins C dx []) ∧ Q .non (upd H x (.ins C dx (cflds v e)))
theorem ok_init (T : Txt K mg C S tH tP) (F : FnP K "__init__" "Courier.__init__" m_init f fd) : FnOk P w K mg base CX0 1 f fd ["self", "handler", "hold", "orderly", "kept"] (sp_init K C) := by
  refine F.ok sc_m_init (fun vs H Q E h => ?_) (fun cdv A outer s H vs Q E hr h => ⟨_, PSs.nox ((pss_cons (ps_fld (pv 0) (pv 1) rfl)
  (pss_cons (ps_fld (pv 0) (pv 2) rfl)
  (pss_cons (ps_fld (pv 0) (pv 3) rfl)
  (pss_one (ps_fld (pv 0) (pv 4) rfl)))))), ?_⟩)
  · obtain ⟨x, dx, v, e, rfl, _⟩ := h
    rfl
  obtain ⟨x, dx, v, e, rfl, hx, q⟩ := h
  have l1 := length_putF "handler" v []
  have l2 := length_putF "hold" (.int 1) (putF "handler" v [])
  have l3 := length_putF "orderly" (.bl false) (putF "hold" (.int 1) (putF "handler" v []))
  rw [List.length_nil] at l1
  refine ⟨v, rfl, .ref x, rfl, x, C, dx, [], rfl, hx, T.cl, T.n_handler, by decide, ?_⟩
  refine ⟨.int 1, rfl, .ref x, rfl, x, C, dx, _, rfl, upd_same, T.cl, T.n_hold, by omega, ?_⟩
  rw [upd_upd]
  refine ⟨.bl false, rfl, .ref x, rfl, x, C, dx, _, rfl, upd_same, T.cl, T.n_orderly, by omega, ?_⟩
  rw [upd_upd]
  refine ⟨e, rfl, .ref x, rfl, x, C, dx, _, rfl, upd_same, T.cl, T.n_kept, by omega, ?_⟩
  rw [upd_upd]
  exact q
theorem sc_find_wrong : FnScope ["handler", "plan", "hold", "orderly", "kept", "courier", "stands", "log"] ["handler", "plan", "hold", "orderly", "kept"] (defScope s_find_wrong) := ⟨rfl, rfl, rfl, by decide +kernel, rfl, by decide +kernel, by decide +kernel⟩
/-- the answer of find_wrong -/
def WrongAt (K : PySem.W.Frag) (h : Hd) (p : Pl) (H' : Hp) (T : Addr) : Prop :=
  (FirstWrong h p none ∧ ∃ x, SqT K H' T [.str "safe", x]) ∨ ∃ l, FirstWrong h p (some l) ∧ l.length ≤ 200 ∧ (∀ od, orderOf h l (fun o => o < h.n ∧ ¬ Alike h o (h.run 0 l)) = some od → od.length = l.length) ∧ DV K H' (.tup [.text "log", lk l, olk (orderOf h l fun o => o < h.n ∧ ¬ Alike h o (h.run 0 l))]) (.ref T)
def sp_find_wrong (K : PySem.W.Frag) : Sp := fun vs H Q _ => ∃ h p v pv e, vs = [v, pv, .int 1, .bl false, e] ∧ h.Ok ∧ p.Ok h.K ∧ h.n ≤ 4 ∧ h.K ≤ 3 ∧ DV K H (hk h) v ∧ DV K H (plk p) pv ∧ DV K H (lk []) e ∧
  ∀ T H', Same H H' → WrongAt K h p H' T → Q (.ref T) H'
theorem ok_find_wrong (T : Txt K mg C S tH tP) (F : FunD K "find_wrong" "find_wrong" (defArgs s_find_wrong) (defBody s_find_wrong) (defScope s_find_wrong) [] kws f fd) (g_require_hold : Ok P w K mg base "require_hold" 2 ["hold"] sp_require_hold)
    (g_make : OkK P w K mg base C "Courier" 1 ["self", "handler", "hold", "orderly", "kept"] (sp_init K C)) (g_told_by : Ok P w K mg base "told_by" 5 ["courier", "plan"] (sp_told_by P w K C)) (g_smallest_order : Ok P w K mg base "smallest_order" 6 ["courier", "log", "states"] (sp_smallest_order P w K C))
    (g_unlike_states : Ok P w K mg base "unlike_states" 3 ["handler", "state"] (sp_unlike_states K)) (g_end_of : Ok P w K mg base "end_of" 1 ["handler", "log"] (sp_end_of K)) :
    FnOk P w K mg base CX0 7 f fd ["handler", "plan", "hold", "orderly", "kept"] (sp_find_wrong K) := by
  refine F.ok sc_find_wrong (fun vs H Q E h => ?_) (fun cdv A outer s H vs Q E hr h => ⟨_, PSs.nox ((pss_cons (ps_expr (pe_callO g_require_hold (hr.mono (by decide)) rfl (pa_cons (pv 2) pa_nil)))
  (pss_cons (ps_set (i := 5) sc_find_wrong.nd rfl (.inl rfl) (pe_makeO g_make (hr.mono (by decide)) rfl (pa_cons (pv 0) (pa_cons (pv 2) (pa_cons (pv 3) (pa_cons (pv 4) pa_nil))))))
  (pss_cons (ps_asg (pe_callO g_told_by (hr.mono (by decide)) rfl (pa_cons (pv 5) (pa_cons (pv 1) pa_nil))) (pg_tupK (n := 2) P w K ⟨rfl, rfl, rfl⟩ (by rfl) (pgs_cons (pg_name (i := 6) sc_find_wrong.nd rfl (.inl rfl)) (pgs_cons (pg_name (i := 7) sc_find_wrong.nd rfl (.inl rfl)) pgs_nil))))
  (pss_cons (ps_if (pt_cmpR op_isN (pv 7) pe_non (nomark _)) (pss_one (ps_ret (pe_tup (pa_cons pe_str (pa_cons (pv 6) pa_nil))))) pss_nil)
  (pss_one (ps_ret (pe_tup (pa_cons pe_str (pa_cons (pv 7) (pa_cons (pe_callO g_smallest_order (hr.mono (by decide)) rfl (pa_cons (pv 5) (pa_cons (pv 7) (pa_cons (pe_callO g_unlike_states (hr.mono (by decide)) rfl (pa_cons (pv 0) (pa_cons (pe_callO g_end_of (hr.mono (by decide)) rfl (pa_cons (pv 0) (pa_cons (pv 7) pa_nil))) pa_nil))) pa_nil)))) pa_nil))))))))))), ?_⟩)
  · obtain ⟨h, p, v, pv, e, rfl, _⟩ := h
    rfl
  obtain ⟨h, p, v, pv, e, rfl, o, po, n4, k3, d, dp, de, q⟩ := h
  have small : 2000 < sizeLine := by decide
  refine ⟨.int 1, rfl, rfl, v, rfl, .int 1, rfl, .bl false, rfl, e, rfl, fun c dx hc hdx hne => ⟨c, dx, v, e, rfl, upd_same, rfl, ?_⟩⟩
  rw [upd_upd]
  have s1 : Same H (upd (upd H dx (.own c)) c (.ins C dx (cflds v e))) := same_upd (same_new hdx) hc
  have a1 : (upd (upd H dx (.own c)) c (.ins C dx (cflds v e))) c = some (.ins C dx (cflds v e)) := upd_same
  generalize upd (upd H dx (.own c)) c (.ins C dx (cflds v e)) = H1 at s1 a1
  have A1 : CoAt K C H1 c h := ⟨dx, v, e, a1, d.tx (.same s1), de.tx (.same s1)⟩
  refine ⟨.ref c, rfl, pv, rfl, h, p, c, pv, rfl, o, po, n4, k3, A1, dp.tx (.same s1), fun fw T0 x H2 s2 sq0 => ?_, fun T0 x l u H2 s2 ll fw sq0 du => ?_⟩
  · have s02 := sametr s1 s2
    refine ⟨T0, _, rfl, sq0, rfl, x, [.non], rfl, .non, [], rfl, rfl, .non, rfl, rfl, true, rfl, ?_⟩
    refine iteT ⟨x, rfl, (by show 2 ≤ sizeLine; decide), fun T1 hT1 => q T1 _ (sametr s02 (same_new hT1)) (.inl ⟨fw, x, SqT.of upd_same⟩)⟩
  · have s02 := sametr s1 s2
    have hl : ∀ k ∈ l, k < h.K := by
      rcases fw with ⟨z, _⟩ | ⟨m, l', _, il, z⟩
      · exact nomatch z
      · cases z
        exact il.lt
    refine ⟨T0, _, rfl, sq0, rfl, x, [u], rfl, u, [], rfl, rfl, u, rfl, rfl, false, ?_, ?_⟩
    · obtain ⟨a, rfl, _⟩ := of_lk du
      rfl
    refine iteF ⟨u, rfl, .ref c, rfl, u, rfl, v, rfl, v, rfl, u, rfl, h, l, v, u, rfl, o, d.tx (.same s02), du, hl, h, v, h.run 0 l, rfl, o, d.tx (.same s02), h.run_lt o l o.pos, fun f2 H3 ss s3 f3 ess => ?_⟩
    have s03 := sametr s02 s3
    have eT : (fun o => o ∈ ss) = fun o => o < h.n ∧ ¬ Alike h o (h.run 0 l) := funext fun o => propext (ess o)
    refine ⟨h, c, u, f2, l, ss, rfl, o, A1.on (sametr s2 s3), du.tx (.same s3), hl, by omega, SqL.of f3, fun en H4 s4 => ?_, fun od y H4 s4 es lo dy => ?_⟩
    · have s04 := sametr s03 s4
      refine ⟨by show 3 ≤ sizeLine; decide, fun T1 hT1 => q T1 _ (sametr s04 (same_new hT1)) (.inr ⟨l, fw, ll, fun od z => ?_, ?_⟩)⟩
      · rw [← eT, en] at z; exact nomatch z
      · rw [← eT, en]
        exact dv_tup (SqT.of upd_same) (dvs_cons rfl (dvs_cons (du.tx (.same (sametr (sametr s3 s4) (same_new hT1)))) (dvs_cons rfl dvs_nil)))
    · have s04 := sametr s03 s4
      refine ⟨by show 3 ≤ sizeLine; decide, fun T1 hT1 => q T1 _ (sametr s04 (same_new hT1)) (.inr ⟨l, fw, ll, fun od' z => ?_, ?_⟩)⟩
      · rw [← eT, es] at z; cases z; exact lo
      · rw [← eT, es]
        exact dv_tup (SqT.of upd_same) (dvs_cons rfl (dvs_cons (du.tx (.same (sametr (sametr s3 s4) (same_new hT1)))) (dvs_cons (dy.tx (.new hT1)) dvs_nil)))
end
end K14

/-! W30: the law's box: _law_opened, _law_draw. -/
namespace K14
open PySem PySem.Spec PyProof.Rows L2
/-- all but the box and its list stays -/
def Sb (b g : Addr) (H H' : Hp) : Prop := ∀ a o, H a = some o → a ≠ b → a ≠ g → H' a = some o
/-- the box -/
structure Bx (K : PySem.W.Frag) (H : Hp) (b g : Addr) (t : Nat) : Prop where
  ex : ∃ (sm : Addr) (ob : Obj) (gs ss : List Int) (tn : Nat), H b = some (.dK [(.inr "great", .ref g), (.inr "small", .ref sm), (.inr "turn", .int tn)]) ∧ H g = some (.lst (gs.map .int)) ∧ H sm = some (.frz ob (.lst (ss.map .int))) ∧
    ss ≠ [] ∧ ss.length ≤ 100 ∧ gs.length ≤ 100 ∧ (∀ x ∈ ss, 0 ≤ x ∧ x < 10 ^ 18) ∧ tn ≤ t
section
variable {K : PySem.W.Frag} {H H' : Hp} {b g : Addr} {t u : Nat}
theorem Bx.gb (B : Bx K H b g t) : g ≠ b := by
  obtain ⟨sm, ob, gs, ss, tn, h1, h2, _⟩ := B.ex
  intro e
  rw [e, h1] at h2
  cases h2
theorem Bx.le (B : Bx K H b g t) (h : t ≤ u) : Bx K H b g u := by
  obtain ⟨sm, ob, gs, ss, tn, h1, h2, h3, h4, h5, h6, h7, h8⟩ := B.ex
  exact ⟨sm, ob, gs, ss, tn, h1, h2, h3, h4, h5, h6, h7, by omega⟩
theorem Bx.same (B : Bx K H b g t) (s : Same H H') : Bx K H' b g t := by
  obtain ⟨sm, ob, gs, ss, tn, h1, h2, h3, h⟩ := B.ex
  exact ⟨sm, ob, gs, ss, tn, s _ _ h1, s _ _ h2, s _ _ h3, h⟩
theorem Bx.upd {D : Addr} {o : HO} (B : Bx K H b g t) (hb : D ≠ b) (hg : D ≠ g) (hf : ∀ o u, H D ≠ some (.frz o u)) : Bx K (upd H D o) b g t := by
  obtain ⟨sm, ob, gs, ss, tn, h1, h2, h3, h⟩ := B.ex
  exact ⟨sm, ob, gs, ss, tn, (upd_ne hb.symm).trans h1, (upd_ne hg.symm).trans h2, (upd_ne fun e => hf _ _ (e ▸ h3)).trans h3, h⟩
theorem Sb.of (s : Same H H') : Sb b g H H' := fun a o h _ _ => s _ _ h
theorem Sb.trans {H2 : Hp} (s : Sb b g H H') (q : Sb b g H' H2) : Sb b g H H2 := fun a o h x y => q _ _ (s _ _ h x y) x y
theorem Sb.tx (s : Sb b g H H') (B : Bx K H b g t) : TX H H' := by
  obtain ⟨sm, ob, gs, ss, tn, h1, h2, _⟩ := B.ex
  refine ⟨fun a xs e => s _ _ e (fun z => ?_) (fun z => ?_), fun a o u e => s _ _ e (fun z => ?_) (fun z => ?_)⟩
  · rw [z, h1] at e; cases e
  · rw [z, h2] at e; cases e
  · rw [z, h1] at e; cases e
  · rw [z, h2] at e; cases e
theorem Sb.upd_new {H1 : Hp} {D : Addr} {o : HO} (s : Sb b g H H1) (h : H D = none) : Sb b g H (upd H1 D o) := fun a q e x y => (upd_ne (ne_of_none e h)).trans (s _ _ e x y)
theorem Bx.ne (B : Bx K H b g t) {D : Addr} (h : H D = none) : D ≠ b ∧ D ≠ g := by
  obtain ⟨sm, ob, gs, ss, tn, h1, h2, _⟩ := B.ex
  exact ⟨(fun e => by rw [e, h1] at h; exact nomatch h), (fun e => by rw [e, h2] at h; exact nomatch h)⟩
theorem Bx.neT (B : Bx K H b g t) {D : Addr} {o : HO} (h : H D = some o) (hm : ∀ vs, o ≠ .lst vs) (hd : ∀ kvs, o ≠ .dK kvs) : D ≠ b ∧ D ≠ g := by
  obtain ⟨sm, ob, gs, ss, tn, h1, h2, _⟩ := B.ex
  exact ⟨fun e => by rw [e, h1] at h; exact hd _ (Option.some.inj h).symm, fun e => by rw [e, h2] at h; exact hm _ (Option.some.inj h).symm⟩
end
theorem dvs_nums {K : PySem.W.Frag} {H : Hp} : ∀ {l : List Int}, DVs K H (l.map NestedKey.num) (l.map V.int)
  | [] => dvs_nil
  | i :: l => dvs_cons (by unfold DV; rfl) (dvs_nums (l := l))
theorem of_nums {K : PySem.W.Frag} {H : Hp} : ∀ {l : List Int} {vs : List V}, DVs K H (l.map NestedKey.num) vs → vs = l.map V.int
  | [], _, h => of_nil h
  | n :: l, vs, h => by
    obtain ⟨v, r, e, d, ds⟩ := of_cons (show DVs K H (NestedKey.num n :: l.map NestedKey.num) vs from h)
    rw [e, of_num d, of_nums ds]
    rfl
theorem mem_cutI {ns : List Int} {lo hi : Option Int} : ∃ ms : List Int, cutV (ns.map V.int) lo hi = ms.map V.int ∧ ms.length ≤ ns.length := by
  unfold cutV
  refine ⟨_, by rw [← List.map_drop, ← List.map_take], ?_⟩
  rw [List.length_take, List.length_drop]
  omega
section
variable {P : Program} {w : World} {K : PySem.W.Frag} {mg : Str → Option Value} {base : Heap} {C S : Addr} {tH tP : Tok} {f : Addr} {fd : FuncData}
theorem sc_L_opened : FnScope ["_law_script", "_law_cells", "_law_small", "_law_great", "_law_cell"] ["_law_script"] (defScope s_L_opened) := ⟨rfl, rfl, rfl, by decide +kernel, rfl, by decide +kernel, by decide +kernel⟩
def sp_opened (K : PySem.W.Frag) : Sp := fun vs H Q _ => ∃ a, ∃ ns : List Int, vs = [.ref a] ∧ SqL K H a (ns.map V.int) ∧ ns.length ≤ 80 ∧ ∀ b g H', Bx K H' b g 0 → Q (.ref b) H'
theorem ok_opened (T : Txt K mg C S tH tP) (F : FnP K "_law_opened" "_law_opened" s_L_opened f fd) : FnOk P w K mg base CX0 1 f fd ["_law_script"] (sp_opened K) := by
  refine F.ok sc_L_opened (fun vs H Q E h => ?_) (fun cdv A outer s H vs Q E hr h => ?_)
  · obtain ⟨a, ns, rfl, _⟩ := h
    rfl
  have hu := hu_of hr
  refine ⟨_, PSs.nox ((pss_cons (ps_setLc (i := 1) (own := [("_law_cell", 4)]) (by rfl) sc_L_opened.nd rfl rfl (sw_true rfl rfl rfl (by decide +kernel)) (pi_LDK P w K ⟨rfl, rfl, rfl⟩ (pe_slice (sl_listK P w K ⟨rfl, rfl, rfl⟩) (pv 0) po_none (po_some pe_int))) (blkOk_by (own := [("_law_cell", 4)]) (N := ["_law_script", "_law_cells", "_law_small", "_law_great", "_law_cell"]) (sc := defScope s_L_opened) (by decide +kernel)) (fun _ _ _ _ _ => (pg_name (i := 4) sc_L_opened.nd rfl (Or.inl rfl))) (fun _ _ _ _ _ => pts_nil) (fun _ _ _ _ _ => (pe_callB call_abs (by rfl) T.z_abs (by decide +kernel) (pa_cons (pv 4) pa_nil))))
  (pss_cons (ps_setLc (i := 2) (own := [("_law_cell", 4)]) (by rfl) sc_L_opened.nd rfl rfl (sw_true rfl rfl rfl (by decide +kernel)) (pi_LDK P w K ⟨rfl, rfl, rfl⟩ (pv 1)) (blkOk_by (own := [("_law_cell", 4)]) (N := ["_law_script", "_law_cells", "_law_small", "_law_great", "_law_cell"]) (sc := defScope s_L_opened) (by decide +kernel)) (fun _ _ _ _ _ => (pg_name (i := 4) sc_L_opened.nd rfl (Or.inl rfl))) (fun _ _ _ _ _ => (pts_one (pt_cmpR op_lt (pv 4) (pe_op op_pow pe_int pe_int) (nomark _)))) (fun _ _ _ _ _ => (pv 4)))
  (pss_cons (ps_setLc (i := 3) (own := [("_law_cell", 4)]) (by rfl) sc_L_opened.nd rfl rfl (sw_true rfl rfl rfl (by decide +kernel)) (pi_LDK P w K ⟨rfl, rfl, rfl⟩ (pv 1)) (blkOk_by (own := [("_law_cell", 4)]) (N := ["_law_script", "_law_cells", "_law_small", "_law_great", "_law_cell"]) (sc := defScope s_L_opened) (by decide +kernel)) (fun _ _ _ _ _ => (pg_name (i := 4) sc_L_opened.nd rfl (Or.inl rfl))) (fun _ _ _ _ _ => (pts_one (pt_cmpR op_ge (pv 4) (pe_op op_pow pe_int pe_int) (nomark _)))) (fun _ _ _ _ _ => (pv 4)))
  (pss_one (ps_ret (pe_disp (pps_cons pe_str (pv 3) (pps_cons pe_str (pe_frz (pe_op op_catS (pv 2) (pe_op op_rep (pe_lst (pa_cons pe_int pa_nil)) (pe_callTy call_int1 (by rfl) T.z_int (by decide +kernel) (pa_cons (pe_cmpR (op_eqnilK P w K ⟨rfl, rfl, rfl⟩ hr) (pv 2) (pe_lst pa_nil) (nomark _)) pa_nil))))) (pps_cons pe_str pe_int pps_nil))) (by rfl) (by rfl) (fun z => by cases z) (by decide)))))))), ?_⟩
  obtain ⟨a, ns, rfl, sq, nl, q⟩ := h
  have small : 2000 < sizeLine := by decide
  obtain ⟨ms, em, ml⟩ := mem_cutI (ns := ns) (lo := none) (hi := some 61)
  refine ⟨.ref a, rfl, 61, rfl, a, _, rfl, sq, fun p hp => ?_⟩
  rw [em]
  refine ⟨p, _, ms.map NestedKey.num, rfl, SqL.of upd_same, dvs_nums, fun J wk D hD => ?_⟩
  have ab : ∃ ab : Int → Int, ∀ i, ab i = if i < 0 then -i else i := ⟨_, fun _ => rfl⟩
  obtain ⟨ab, eab⟩ := ab
  refine lc_dat (K := K) wk (fun j => some (.num (ab (ms.getD j 0)))) hD (by rw [List.length_map]; omega) (fun H' s => ⟨s.seq (SqL.of upd_same), .same s⟩) (fun j x H2 H3 Nx hj s2 y no yes => ?_) (fun H2 us s2 hD2 ds => ?_)
  · obtain ⟨rfl, k, ek, dk⟩ := y
    obtain ⟨hj', ek⟩ := map_get 0 ek
    subst ek
    have ex := of_num dk
    subst ex
    refine ⟨rfl, _, rfl, _, rfl, yes _ _ _ rfl (fun _ _ z => z) ?_⟩
    rw [eab]
    unfold DV
    rfl
  rw [List.length_map, range_map_get (l := ms) (g := fun i => NestedKey.num (ab i)) 0 rfl] at ds
  rw [show ms.map (fun i => NestedKey.num (ab i)) = (ms.map ab).map NestedKey.num by rw [List.map_map]; rfl] at ds
  have eu := of_nums ds
  subst eu
  have ap : ∀ x ∈ ms.map ab, 0 ≤ x := fun x hx => by
    obtain ⟨i, _, rfl⟩ := List.mem_map.mp hx
    rw [eab]
    split <;> omega
  have cl : (ms.map ab).length ≤ 80 := by rw [List.length_map]; omega
  generalize ms.map ab = cs at ds hD2 ap cl
  have e18 : (10 : Int) ^ (18 : Int).toNat = 10 ^ 18 := by decide
  refine ⟨.ref D, rfl, D, _, cs.map NestedKey.num, rfl, SqL.of hD2, dvs_nums, fun J3 wk3 D3 hD3 => ?_⟩
  refine lc_dat (K := K) wk3 (fun j => if (fun x : Int => decide (x < 10 ^ 18)) (cs.getD j 0) = true then some (.num (cs.getD j 0)) else none) hD3 (by rw [List.length_map]; omega) (fun H' s => ⟨s.seq (SqL.of hD2), .same s⟩) (fun j x H4 H5 Nx hj s4 y no yes => ?_) (fun H4 us4 s4 hD4 ds4 => ?_)
  · obtain ⟨rfl, k, ek, dk⟩ := y
    obtain ⟨hj', ek⟩ := map_get 0 ek
    subst ek
    have ex := of_num dk
    subst ex
    generalize cs.getD j 0 = z at dk no yes
    refine ⟨rfl, _, rfl, 10, 18, rfl, rfl, ⟨by decide, by decide, by decide⟩, z, _, rfl, rfl, _, rfl, ?_⟩
    rw [e18]
    by_cases m : z < 10 ^ 18
    · rw [decide_eq_true m]
      exact iteT ⟨_, rfl, yes _ _ _ (if_pos (decide_eq_true m)) (fun _ _ z => z) dk⟩
    · rw [decide_eq_false m]
      exact iteF (no (if_neg fun z => m (of_decide_eq_true z)) _ fun _ _ z => z)
  rw [List.length_map, range_filter (l := cs) (g := NestedKey.num) (p := fun x : Int => decide (x < 10 ^ 18)) 0 rfl] at ds4
  have eu4 := of_nums ds4
  subst eu4
  have ss1 : ∀ x ∈ cs.filter fun x : Int => decide (x < 10 ^ 18), 0 ≤ x ∧ x < 10 ^ 18 := fun x hx => ⟨ap x (List.mem_filter.mp hx).1, of_decide_eq_true (List.mem_filter.mp hx).2⟩
  have sl1 := List.length_filter_le (fun x : Int => decide (x < 10 ^ 18)) cs
  generalize cs.filter (fun x : Int => decide (x < 10 ^ 18)) = ss at ss1 sl1 hD4 ds4
  have hD24 := s4 _ _ hD2
  refine ⟨.ref D, rfl, D, _, cs.map NestedKey.num, rfl, SqL.of hD24, dvs_nums, fun J5 wk5 D5 hD5 => ?_⟩
  refine lc_dat (K := K) wk5 (fun j => if (fun x : Int => decide (x ≥ 10 ^ 18)) (cs.getD j 0) = true then some (.num (cs.getD j 0)) else none) hD5 (by rw [List.length_map]; omega) (fun H' s => ⟨s.seq (SqL.of hD24), .same s⟩) (fun j x H6 H7 Nx hj s6 y no yes => ?_) (fun H6 us6 s6 hD6 ds6 => ?_)
  · obtain ⟨rfl, k, ek, dk⟩ := y
    obtain ⟨hj', ek⟩ := map_get 0 ek
    subst ek
    have ex := of_num dk
    subst ex
    generalize cs.getD j 0 = z at dk no yes
    refine ⟨rfl, _, rfl, 10, 18, rfl, rfl, ⟨by decide, by decide, by decide⟩, z, _, rfl, rfl, _, rfl, ?_⟩
    rw [e18]
    by_cases m : z ≥ 10 ^ 18
    · rw [decide_eq_true m]
      exact iteT ⟨_, rfl, yes _ _ _ (if_pos (decide_eq_true m)) (fun _ _ z => z) dk⟩
    · rw [decide_eq_false m]
      exact iteF (no (if_neg fun z => m (of_decide_eq_true z)) _ fun _ _ z => z)
  rw [List.length_map, range_filter (l := cs) (g := NestedKey.num) (p := fun x : Int => decide (x ≥ 10 ^ 18)) 0 rfl] at ds6
  have eu6 := of_nums ds6
  subst eu6
  have gl1 := List.length_filter_le (fun x : Int => decide (x ≥ 10 ^ 18)) cs
  generalize cs.filter (fun x : Int => decide (x ≥ 10 ^ 18)) = gs at gl1 hD6 ds6
  have hD36 := s6 _ _ hD4
  have n35 : D3 ≠ D5 := ne_of_none hD4 hD5
  refine fun p0 hp0 => ?_
  have sB : Same H6 (upd H6 p0 (.dK [])) := same_new hp0
  have hB : (upd H6 p0 (.dK [])) p0 = some (.dK []) := upd_same
  generalize upd H6 p0 (.dK []) = H7 at sB hB
  have g7 := sB _ _ hD6
  have s7 := sB _ _ hD36
  refine ⟨.ref D5, rfl, .ref D3, rfl, (by show 1 ≤ sizeLine; decide), fun l1 hl1 => ?_⟩
  have t1 : Same H7 (upd H7 l1 (.lst [.int 101])) := same_new hl1
  have f1 : (upd H7 l1 (.lst [.int 101])) l1 = some (.lst [.int 101]) := upd_same
  generalize upd H7 l1 (.lst [.int 101]) = H8 at t1 f1
  refine ⟨.ref D3, rfl, Nat.zero_le _, fun l2 hl2 => ⟨D3, _, l2, rfl, rfl, SqL.of (same_new hl2 _ _ (t1 _ _ s7)), SqL.of upd_same, ?_⟩⟩
  have t2 : Same H8 (upd H8 l2 (.lst [])) := same_new hl2
  generalize upd H8 l2 (.lst []) = H9 at t2
  have eb : ∃ zs : List Int, (List.replicate (if (ss.map V.int).isEmpty = true then (1 : Int) else 0).toNat [V.int 101]).flatten = zs.map V.int ∧ zs.length ≤ 1 ∧ (∀ x ∈ zs, 0 ≤ x ∧ x < 10 ^ 18) ∧ ss ++ zs ≠ [] := by
    cases ss with
    | nil => exact ⟨[101], rfl, by decide, by decide, by decide⟩
    | cons x xs => exact ⟨[], rfl, by decide, (fun x h => nomatch h), by simp⟩
  obtain ⟨zs, ez, zl, zr, zn⟩ := eb
  refine .inr ⟨_, rfl, l1, _, [.int 101], rfl, rfl, t2 _ _ f1, ?_, ?_, ?_, fun l3 hl3 => ?_⟩
  · split <;> decide
  · split <;> decide
  · have : (if (ss.map V.int).isEmpty = true then (1 : Int) else 0).toNat ≤ 1 := by split <;> decide
    show 1 * _ ≤ _
    omega
  rw [ez]
  have t3 : Same H9 (upd H9 l3 (.lst (zs.map V.int))) := same_new hl3
  have f3 : (upd H9 l3 (.lst (zs.map V.int))) l3 = some (.lst (zs.map V.int)) := upd_same
  generalize upd H9 l3 (.lst (zs.map V.int)) = H10 at t3 f3
  have t710 := sametr t1 (sametr t2 t3)
  refine ⟨D3, l3, _, _, rfl, rfl, .inl (t710 _ _ s7), .inl f3, (by rw [List.length_map, List.length_map]; omega), fun sm hsm => ⟨sm, _, rfl, upd_same, trivial, fun ob => ?_⟩⟩
  rw [upd_upd, ← List.map_append]
  have t4 : Same H10 (upd H10 sm (.frz ob (.lst ((ss ++ zs).map V.int)))) := same_new hsm
  have f4 : (upd H10 sm (.frz ob (.lst ((ss ++ zs).map V.int)))) sm = some (.frz ob (.lst ((ss ++ zs).map V.int))) := upd_same
  generalize upd H10 sm (.frz ob (.lst ((ss ++ zs).map V.int))) = H11 at t4 f4
  have t711 := sametr t710 t4
  have p11 := t711 _ _ hB
  have g11 := t711 _ _ g7
  refine ⟨p11, [(.inr "great", .ref D5), (.inr "small", .ref sm), (.inr "turn", .int 0)], rfl, (by show 3 ≤ 15; decide), ?_⟩
  have em : mergeK [] [((.inr "great" : L2.Key), V.ref D5), (.inr "small", .ref sm), (.inr "turn", .int 0)] = [(.inr "great", .ref D5), (.inr "small", .ref sm), (.inr "turn", .int 0)] := by
    rfl
  rw [em]
  have np : D5 ≠ p0 := fun e => by
    rw [e] at hD6
    rw [hp0] at hD6
    exact nomatch hD6
  refine q p0 D5 _ ⟨sm, ob, gs, ss ++ zs, 0, upd_same, (upd_ne np).trans g11, (upd_ne fun e => ?_).trans f4, zn, by simp; omega, by omega, fun x hx => ?_, Nat.le_refl _⟩
  · rw [e, p11] at f4
    exact nomatch f4
  · rcases List.mem_append.mp hx with z | z
    · exact ss1 x z
    · exact zr x z
end
end K14

/-! W31: _law_draw; a comprehension that draws. -/
namespace K14
open PySem PySem.Spec PyProof.Rows L2
section
variable {P : Program} {w : World} {K : PySem.W.Frag} {mg : Str → Option Value} {base : Heap} {C S : Addr} {tH tP : Tok} {f : Addr} {fd : FuncData}
theorem sc_L_draw : FnScope ["_law_box", "_law_many", "_law_great", "_law_digit", "_law_cell", "_law_mixed"] ["_law_box", "_law_many"] (defScope s_L_draw) := ⟨rfl, rfl, rfl, by decide +kernel, rfl, by decide +kernel, by decide +kernel⟩
def sp_draw (K : PySem.W.Frag) : Sp := fun vs H Q _ => ∃ b g t n, vs = [.ref b, iv n] ∧ 0 < n ∧ n ≤ 1000 ∧ Bx K H b g t ∧ t ≤ 1000000 ∧ ∀ d H', d < n → Sb b g H H' → Bx K H' b g (t + 1) → Q (iv d) H'
theorem ixN_last {α : Type} {xs : List α} {y : α} : ixN (xs ++ [y]).length (-1) = some xs.length := by
  have hl : (xs ++ [y]).length = xs.length + 1 := by simp
  unfold ixN
  rw [hl, if_neg (by decide), if_pos (by omega)]
  congr 1
  omega
theorem nat_of {z : Int} {n : Nat} (h0 : 0 ≤ z) (h1 : z < (n : Int)) : ∃ d : Nat, z = (d : Int) ∧ d < n := ⟨z.toNat, by omega, by omega⟩
theorem ok_draw (T : Txt K mg C S tH tP) (F : FnP K "_law_draw" "_law_draw" s_L_draw f fd) : FnOk P w K mg base CX0 1 f fd ["_law_box", "_law_many"] (sp_draw K) := by
  refine F.ok sc_L_draw (fun vs H Q E h => ?_) (fun cdv A outer s H vs Q E hr h => ?_)
  · obtain ⟨b, g, t, n, rfl, _⟩ := h
    rfl
  have hu := hu_of hr
  refine ⟨_, PSs.nox ((pss_cons (ps_set (i := 2) sc_L_draw.nd rfl (.inl rfl) (pe_dget hu (pv 0) pe_str (fun _ _ => rfl)))
  (pss_cons (ps_while PassesOwn.never (pt_cmpR (op_nenilK P w K ⟨rfl, rfl, rfl⟩ hr) (pv 2) (pe_lst pa_nil) (nomark _))
    (pss_cons (ps_if (pt_cmpR op_gt (pe_ix (ix_listK P w K ⟨rfl, rfl, rfl⟩) (pv 2) (pe_un un_neg pe_int) (fun _ _ => rfl)) pe_int (nomark _)) (pss_cons (ps_set (i := 3) sc_L_draw.nd rfl (.inl rfl) (pe_op op_mod (pe_callTy call_int1 (by rfl) T.z_int (by decide +kernel) (pa_cons (pe_ix (ix_listK P w K ⟨rfl, rfl, rfl⟩) (pv 2) (pe_un un_neg pe_int) (fun _ _ => rfl)) pa_nil)) (pv 1)))
  (pss_cons (ps_asg (pe_op op_fdivW (pe_callTy call_int1 (by rfl) T.z_int (by decide +kernel) (pa_cons (pe_ix (ix_listK P w K ⟨rfl, rfl, rfl⟩) (pv 2) (pe_un un_neg pe_int) (fun _ _ => rfl)) pa_nil)) (pv 1)) (pg_sub (pv 2) (pe_un un_neg pe_int) set_list))
  (pss_one (ps_ret (pv 3))))) pss_nil)
  (pss_one (ps_expr (pe_bm0K P w K ⟨rfl, rfl, rfl⟩ PySem.F.plainAttrs_list PySem.F.slot_list_pop PySem.F.type_list_pop mt_pop (pv 2))))))
  (pss_cons (ps_dput hu (pv 0) pe_str (pe_op op_add (pe_dget hu (pv 0) pe_str (fun _ _ => rfl)) pe_int) rfl)
  (pss_cons (ps_set (i := 4) sc_L_draw.nd rfl (.inl rfl) (pe_ix (ix_listK P w K ⟨rfl, rfl, rfl⟩) (pe_dget hu (pv 0) pe_str (fun _ _ => rfl)) (pe_op op_mod (pe_callTy call_int1 (by rfl) T.z_int (by decide +kernel) (pa_cons (pe_dget hu (pv 0) pe_str (fun _ _ => rfl)) pa_nil)) (pe_callB (cr_lenSK P w K ⟨rfl, rfl, rfl⟩) (by rfl) T.z_len (by decide +kernel) (pa_cons (pe_dget hu (pv 0) pe_str (fun _ _ => rfl)) pa_nil))) (fun _ _ => rfl)))
  (pss_cons (ps_set (i := 5) sc_L_draw.nd rfl (.inl rfl) (pe_op op_add (pe_op op_mulW (pv 4) pe_int) (pe_op op_mulW (pe_dget hu (pv 0) pe_str (fun _ _ => rfl)) pe_int)))
  (pss_cons (ps_set (i := 5) sc_L_draw.nd rfl (.inl rfl) (pe_op op_mod (pe_callTy call_int1 (by rfl) T.z_int (by decide +kernel) (pa_cons (pv 5) pa_nil)) pe_int))
  (pss_cons (ps_set (i := 5) sc_L_draw.nd rfl (.inl rfl) (pe_op op_mod (pe_callTy call_int1 (by rfl) T.z_int (by decide +kernel) (pa_cons (pe_op op_mulW (pv 5) (pe_op op_add (pe_op op_fdivW (pv 5) pe_int) pe_int)) pa_nil)) pe_int))
  (pss_one (ps_ret (pe_op op_mod (pe_callTy call_int1 (by rfl) T.z_int (by decide +kernel) (pa_cons (pe_op op_fdivW (pv 5) pe_int) pa_nil)) (pv 1)))))))))))), ?_⟩
  obtain ⟨b, g, t, n, rfl, n0, n1, B, tl, q⟩ := h
  have small : 2000 < sizeLine := by decide
  have gb := B.gb
  obtain ⟨sm, ob, gs, ss, tn, h1, h2, h3, s0, s1, g1, sr, tt⟩ := B.ex
  have nI : (0 : Int) < (n : Int) := by omega
  have nW : CDivW 0 (n : Int) := wide_div (b := 10) nI (by show (n : Int).natAbs < 2 ^ 10; omega) (by decide) (by decide)
  refine ⟨.ref b, rfl, b, .ref g, rfl, .inl ⟨_, .inr "great", .inl h1, rfl, rfl⟩, ?_⟩
  refine while_ne (fun m σ H' => ∃ gs' : List Int, m = gs'.length ∧ gs'.length ≤ 100 ∧ Sb b g H H' ∧ H' b = H b ∧ H' sm = H sm ∧ H' g = some (.lst (gs'.map .int)) ∧ σ = [some (.ref b), some (iv n), some (.ref g), none, none, none]) ⟨_, gs, rfl, g1, .of fun _ _ z => z, rfl, rfl, h2, rfl⟩ (fun m σ H2 p => ?_)
  obtain ⟨gs', rfl, gl, sb, hb, hsm, hg, rfl⟩ := p
  refine ⟨g, gs'.map .int, rfl, SqL.of hg, fun H3 s3 => ⟨fun e => ?_, fun ne N hN => ?_⟩⟩
  · have egs : gs' = [] := by simpa using e
    subst egs
    have hg3 := s3 _ _ hg
    have hb3 := s3 _ _ (hb.trans h1)
    have hs3 := s3 _ _ (hsm.trans h3)
    have nsb : sm ≠ b := fun e => by
      rw [e, hb3] at hs3
      exact nomatch hs3
    refine ⟨.ref b, rfl, b, .int tn, rfl, .inl ⟨_, .inr "turn", .inl hb3, rfl, rfl⟩, tn, 1, rfl, rfl, .ref b, rfl, b, upd H3 b (.dK [(.inr "great", .ref g), (.inr "small", .ref sm), (.inr "turn", .int ((tn + 1 : Nat) : Int))]), rfl, .inl ⟨_, .inr "turn", hb3, rfl, (by show 3 < sizeLine; decide), ?_⟩, ?_⟩
    · show upd H3 b _ = upd H3 b _
      congr 1
    have b4 : (upd H3 b (.dK [(.inr "great", .ref g), (.inr "small", .ref sm), (.inr "turn", .int ((tn + 1 : Nat) : Int))])) b = some (.dK [(.inr "great", .ref g), (.inr "small", .ref sm), (.inr "turn", .int ((tn + 1 : Nat) : Int))]) := upd_same
    have sb4 : Sb b g H (upd H3 b (.dK [(.inr "great", .ref g), (.inr "small", .ref sm), (.inr "turn", .int ((tn + 1 : Nat) : Int))])) := fun a o h x y => (upd_ne x).trans (s3 _ _ (sb a o h x y))
    have hg4 : (upd H3 b (.dK [(.inr "great", .ref g), (.inr "small", .ref sm), (.inr "turn", .int ((tn + 1 : Nat) : Int))])) g = _ := (upd_ne gb).trans hg3
    have hs4 : (upd H3 b (.dK [(.inr "great", .ref g), (.inr "small", .ref sm), (.inr "turn", .int ((tn + 1 : Nat) : Int))])) sm = _ := (upd_ne nsb).trans hs3
    generalize upd H3 b (.dK [(.inr "great", .ref g), (.inr "small", .ref sm), (.inr "turn", .int ((tn + 1 : Nat) : Int))]) = H4 at b4 sb4 hg4 hs4
    have B4 : Bx K H4 b g (t + 1) := ⟨sm, ob, [], ss, tn + 1, b4, hg4, hs4, s0, s1, Nat.zero_le _, sr, by omega⟩
    have sl : 0 < ss.length := List.length_pos_iff.mpr s0
    have sqs : SqL K H4 sm (ss.map V.int) := .inl (.inr ⟨ob, hs4⟩)
    have slI : (0 : Int) < ((ss.map V.int).length : Int) := by rw [List.length_map]; omega
    obtain ⟨j, ej, jl⟩ := nat_of (n := (ss.map V.int).length) (Int.emod_nonneg ((tn + 1 : Nat) : Int) (by omega)) (Int.emod_lt_of_pos ((tn + 1 : Nat) : Int) slI)
    rw [List.length_map] at jl
    have at_ : atI (ss.map V.int) (((tn + 1 : Nat) : Int) % ((ss.map V.int).length : Int)) = some (V.int ss[j]) := by
      rw [ej]
      exact atI_nat (by rw [List.getElem?_map, List.getElem?_eq_getElem jl]; rfl)
    obtain ⟨z0, z1⟩ := sr _ (List.getElem_mem jl)
    generalize ss[j] = z at at_ z0 z1
    refine ⟨.ref b, rfl, b, .ref sm, rfl, .inl ⟨_, .inr "small", .inl b4, rfl, rfl⟩, .ref b, rfl, b, .int ((tn + 1 : Nat) : Int), rfl, .inl ⟨_, .inr "turn", .inl b4, rfl, rfl⟩, .inl ⟨_, rfl, .ref b, rfl, b, .ref sm, rfl, .inl ⟨_, .inr "small", .inl b4, rfl, rfl⟩, sm, _, rfl, .inl sqs, _, _, rfl, rfl, slI, sm, _, _, .int z, rfl, rfl, sqs, at_, ?_⟩⟩
    have m1 : CMulW z 6364136223846793005 := wide_mul (a := 64) (b := 64) (by omega) (by decide) (by decide) (by decide) (by decide)
    have m2 : CMulW ((tn + 1 : Nat) : Int) 1442695040888963407 := wide_mul (a := 64) (b := 64) (by omega) (by decide) (by decide) (by decide) (by decide)
    refine ⟨.int z, rfl, z, 6364136223846793005, rfl, rfl, m1, .ref b, rfl, b, .int ((tn + 1 : Nat) : Int), rfl, .inl ⟨_, .inr "turn", .inl b4, rfl, rfl⟩, ((tn + 1 : Nat) : Int), 1442695040888963407, rfl, rfl, m2, _, _, rfl, rfl, ?_⟩
    have pos : (0 : Int) < 18446744073709551557 := by decide
    refine ⟨_, rfl, .inl ⟨_, rfl, _, 18446744073709551557, rfl, rfl, pos, ?_⟩⟩
    generalize z * 6364136223846793005 + ((tn + 1 : Nat) : Int) * 1442695040888963407 = m
    have y0 := Int.emod_nonneg m (b := 18446744073709551557) (by decide)
    have y1 := Int.emod_lt_of_pos m pos
    have d1 : CDivW (m % 18446744073709551557) 4294967296 := wide_div (b := 64) (by decide) (by decide) (by decide) (by decide)
    have e0 := Int.ediv_nonneg y0 (b := 4294967296) (by decide)
    have e1 := Int.ediv_le_self 4294967296 y0
    have m3 : CMulW (m % 18446744073709551557) ((m % 18446744073709551557) / 4294967296 + 17) := wide_mul (a := 65) (b := 65) (by omega) (by omega) (by decide) (by decide) (by decide)
    refine ⟨.int (m % 18446744073709551557), rfl, .int (m % 18446744073709551557), rfl, (m % 18446744073709551557), 4294967296, rfl, rfl, d1, (m % 18446744073709551557) / 4294967296, 17, rfl, rfl, (m % 18446744073709551557), (m % 18446744073709551557) / 4294967296 + 17, rfl, rfl, m3, .inl ⟨_, rfl, _, 18446744073709551557, rfl, rfl, pos, ?_⟩⟩
    have d2 : ∀ r : Int, CDivW r 65536 := fun r => wide_div (b := 64) (by decide) (by decide) (by decide) (by decide)
    refine ⟨_, rfl, _, 65536, rfl, rfl, d2 _, .inl ⟨_, rfl, iv n, rfl, _, n, rfl, rfl, nI, ?_⟩⟩
    obtain ⟨r, er⟩ : ∃ r, r = (m % 18446744073709551557) * ((m % 18446744073709551557) / 4294967296 + 17) % 18446744073709551557 / 65536 := ⟨_, rfl⟩
    obtain ⟨d, ed, dl⟩ := nat_of (Int.emod_nonneg r (by omega)) (Int.emod_lt_of_pos r nI)
    show Q (V.int ((m % 18446744073709551557) * ((m % 18446744073709551557) / 4294967296 + 17) % 18446744073709551557 / 65536 % (n : Int))) H4
    rw [← er, ed]
    exact q d H4 dl sb4 B4
  · obtain ⟨ys, y, rfl⟩ : ∃ ys y, gs' = ys ++ [y] := ⟨_, _, (List.dropLast_concat_getLast (by simpa using ne)).symm⟩
    have hg3 := s3 _ _ hg
    have hb3 := s3 _ _ (hb.trans h1)
    have hs3 := s3 _ _ (hsm.trans h3)
    have at_ : atI ((ys ++ [y]).map V.int) (-1) = some (V.int y) := by
      rw [List.map_append]
      exact atI_last _ _
    refine ⟨.ref g, rfl, 1, rfl, g, _, -1, .int y, rfl, rfl, SqL.of hg3, at_, y, 0, rfl, rfl, _, rfl, ?_⟩
    by_cases m : y > 0
    · rw [decide_eq_true m]
      refine iteT ⟨.ref g, rfl, 1, rfl, g, _, -1, .int y, rfl, rfl, SqL.of hg3, at_, .inl ⟨y, rfl, iv n, rfl, y, n, rfl, rfl, nI, .ref g, rfl, 1, rfl, g, _, -1, .int y, rfl, rfl, SqL.of hg3, at_, .inl ⟨y, rfl, iv n, rfl, y, n, rfl, rfl, nW, .ref g, rfl, 1, rfl, g, _, -1, ys.length, rfl, rfl, hg3, (by rw [List.map_append]; exact (ixN_last (xs := ys.map V.int) (y := V.int y)).trans (by rw [List.length_map])), ?_⟩⟩⟩
      obtain ⟨d, ed, dl⟩ := nat_of (Int.emod_nonneg y (by omega)) (Int.emod_lt_of_pos y nI)
      refine ⟨_, rfl, ?_⟩
      show Q (V.int (y % (n : Int))) (upd H3 g (.lst (((ys ++ [y]).map V.int).set ys.length (.int (y / (n : Int))))))
      rw [ed]
      have e1 : ((ys ++ [y]).map V.int).set ys.length (.int (y / (n : Int))) = (ys ++ [y / (n : Int)]).map V.int := by
        rw [List.map_append, List.map_append, List.set_append, if_neg (by rw [List.length_map]; omega), List.length_map, Nat.sub_self]
        rfl
      rw [e1]
      refine q d _ dl (fun a o h x y => (upd_ne y).trans (s3 _ _ (sb a o h x y))) ⟨sm, ob, ys ++ [y / (n : Int)], ss, tn, (upd_ne gb.symm).trans hb3, upd_same, (upd_ne fun e => ?_).trans hs3, s0, s1, by simpa using gl, sr, by omega⟩
      rw [e, hg3] at hs3
      exact nomatch hs3
    · rw [decide_eq_false m]
      refine iteF ⟨.ref g, rfl, .inl ⟨rfl, _, SqL.of hg3⟩, g, _, .int y, rfl, rfl, hg3, ?_, ?_⟩
      · simp
      have e1 : ((ys ++ [y]).map V.int).dropLast = ys.map V.int := by simp
      rw [e1]
      refine hN _ _ _ (by simp) ⟨ys, rfl, by simp at gl; omega, fun a o h x y => (upd_ne y).trans (s3 _ _ (sb a o h x y)), (upd_ne gb.symm).trans (hb3.trans h1.symm), (upd_ne fun e => ?_).trans (hs3.trans h3.symm), upd_same, rfl⟩
      rw [e, hg3] at hs3
      exact nomatch hs3
end
end K14

/-! W32: comprehensions that draw; _law_one, _law_kind. -/
namespace K14
open PySem PySem.Spec PyProof.Rows L2
theorem seq_mid {a b : TS} {D : Ends} {σ : L2.St} {H : Hp} (Mid : L2.St → Hp → Prop) (h1 : ∀ N : L2.St → Hp → Prop, (∀ σ' H', Mid σ' H' → N σ' H') → a { D with nx := N } σ H) (h2 : ∀ σ' H', Mid σ' H' → b D σ' H') : tSeq a b D σ H := h1 _ h2
theorem lc_box {K : PySem.W.Frag} {J : It} {n : Nat} {G : Hp → Prop} {Y : Nat → Hp → V → Hp → Prop} (w : Walk J n G Y) {g : TG} {tt : TT} {te : TE} {vs : List Nat} {σ : L2.St} {H1 : Hp} {D : Addr} {Qd : Hp → Prop}
    (b ga : Addr) (t c : Nat) (Pk : Nat → NestedKey → Prop) (hB : Bx K H1 b ga t) (hD : H1 D = none) (hn : n < sizeLine) (hG : ∀ H, Sb b ga H1 H → TX H1 H → G H)
    (hs : ∀ i x H H' (Nx : Hp → Prop), i < n → Sb b ga H1 H → TX H1 H → Bx K H b ga (t + c * i) → Y i H x H' →
      (∀ k y H4, Pk i k → Sb b ga H H4 → Bx K H4 b ga (t + c * (i + 1)) → DV K H4 k y → ∃ acc, H4 D = some (.lst acc) ∧ acc.length < sizeLine ∧ Nx (upd H4 D (.lst (acc ++ [y])))) →
      g x (wipe σ vs) H' fun σ2 H2 => wipe σ2 vs = wipe σ vs ∧ tt σ2 H2 fun b H3 =>
        if b = true then te σ2 H3 fun y H4 => ∃ acc, H4 D = some (.lst acc) ∧ acc.length < sizeLine ∧ Nx (upd H4 D (.lst (acc ++ [y]))) else Nx H3)
    (hd : ∀ H us ks, Sb b ga H1 H → TX H1 H → Bx K H b ga (t + c * n) → H D = some (.lst us) → DVs K H ks us → ks.length = n → (∀ i k, ks[i]? = some k → Pk i k) → Qd H) :
    ∃ W : Nat → Nat → Hp → Prop, (∃ m, W 0 m (upd H1 D (.lst []))) ∧ ∀ i m H, W i m H →
      (J.stop i H ∧ Qd H) ∨ (J.go i H ∧ ∃ Nx : Hp → Prop, (∀ H', Nx H' → ∃ m', m' < m ∧ W (i + 1) m' H') ∧ ∀ x H', J.yld i H x H' → g x (wipe σ vs) H' fun σ2 H2 => wipe σ2 vs = wipe σ vs ∧ tt σ2 H2 fun b H3 =>
        if b = true then te σ2 H3 fun y H4 => ∃ acc, H4 D = some (.lst acc) ∧ acc.length < sizeLine ∧ Nx (upd H4 D (.lst (acc ++ [y]))) else Nx H3) := by
  obtain ⟨nb, ng⟩ := hB.ne hD
  refine lc_it w (fun i H => Sb b ga H1 H ∧ Bx K H b ga (t + c * i) ∧ ∃ us ks, H D = some (.lst us) ∧ DVs K H ks us ∧ ks.length = i ∧ ∀ j k, ks[j]? = some k → Pk j k)
    ⟨.of (same_new hD), hB.upd nb ng (fun o u z => by rw [hD] at z; exact nomatch z), [], [], upd_same, dvs_nil, rfl, fun j k z => nomatch z⟩ (fun i H _ p => hG H p.1 (p.1.tx hB)) (fun i x H H' hi p y => ?_) (fun H p => ?_)
  · obtain ⟨s1, B, us, ks, hu, ds, kl, kp⟩ := p
    refine hs i x H H' _ hi s1 (s1.tx hB) B y fun k v H4 pk s4 B4 dv => ?_
    have h4 := s4 _ _ hu nb ng
    have t4 : TX H H4 := s4.tx B
    have t5 : TX H4 (upd H4 D (.lst (us ++ [v]))) := TX.lst h4
    refine ⟨us, h4, by rw [ds.length]; omega, (s1.trans s4).upd_new hD, B4.upd nb ng (fun o u z => by rw [h4] at z; exact nomatch z), us ++ [v], ks ++ [k], upd_same, ((ds.tx t4).tx t5).snoc (dv.tx t5), by simp; omega, fun j k' e => ?_⟩
    by_cases hj : j < ks.length
    · rw [List.getElem?_append_left hj] at e
      exact kp j k' e
    · rw [List.getElem?_append_right (by omega)] at e
      have e0 : j - ks.length = 0 := by
        have := (List.getElem?_eq_some_iff.mp e).1
        simp only [List.length_cons, List.length_nil] at this
        omega
      rw [e0] at e
      cases e
      have : j = i := by omega
      subst this
      exact pk
  · obtain ⟨s1, B, us, ks, hu, ds, kl, kp⟩ := p
    exact hd H us ks s1 (s1.tx hB) B hu ds kl kp
section
variable {P : Program} {w : World} {K : PySem.W.Frag} {mg : Str → Option Value} {base : Heap} {C S : Addr} {tH tP : Tok} {f : Addr} {fd : FuncData}
theorem sc_L_one : FnScope ["_law_box", "_law_items"] ["_law_box", "_law_items"] (defScope s_L_one) := ⟨rfl, rfl, rfl, by decide +kernel, rfl, by decide +kernel, by decide +kernel⟩
def sp_one (K : PySem.W.Frag) : Sp := fun vs H Q _ => ∃ b g t it us ks, vs = [.ref b, .ref it] ∧ Bx K H b g t ∧ t ≤ 1000000 ∧ H it = some (.lst us) ∧ it ≠ b ∧ it ≠ g ∧ DVs K H ks us ∧ 0 < ks.length ∧ ks.length ≤ 900 ∧
  ∀ k v H', k ∈ ks → DV K H' k v → Sb b g H H' → Bx K H' b g (t + 1) → Q v H'
theorem ok_one (T : Txt K mg C S tH tP) (F : FnP K "_law_one" "_law_one" s_L_one f fd) (g__law_draw : Ok P w K mg base "_law_draw" 1 ["_law_box", "_law_many"] (sp_draw K)) : FnOk P w K mg base CX0 2 f fd ["_law_box", "_law_items"] (sp_one K) := by
  refine F.ok sc_L_one (fun vs H Q E h => ?_) (fun cdv A outer s H vs Q E hr h => ⟨_, PSs.nox ((pss_one (ps_ret (pe_ix (ix_listK P w K ⟨rfl, rfl, rfl⟩) (pv 1) (pe_callO g__law_draw (hr.mono (by decide)) rfl (pa_cons (pv 0) (pa_cons (pe_callB (cr_lenSK P w K ⟨rfl, rfl, rfl⟩) (by rfl) T.z_len (by decide +kernel) (pa_cons (pv 1) pa_nil)) pa_nil))) (fun _ _ => rfl))))), ?_⟩)
  · obtain ⟨b, g, t, it, us, ks, rfl, _⟩ := h
    rfl
  obtain ⟨b, g, t, it, us, ks, rfl, B, tl, hi, nb, ng, ds, k0, k9, q⟩ := h
  have ul := ds.length
  refine ⟨.ref it, rfl, .ref b, rfl, .ref it, rfl, it, us, rfl, .inl (SqL.of hi), b, g, t, us.length, rfl, by omega, by omega, B, tl, fun d H' dl s' B' => ?_⟩
  have hi' := s' _ _ hi nb ng
  have ds' := ds.tx (s'.tx B)
  obtain ⟨v, hv, dv⟩ := ds'.get (List.getElem?_eq_getElem (by omega : d < ks.length))
  exact ⟨it, us, d, v, rfl, rfl, SqL.of hi', atI_nat hv, q _ v _ (List.getElem_mem _) dv s' B'⟩
end
end K14

/-! W33: _law_kind, _law_handler. -/
namespace K14
open PySem PySem.Spec PyProof.Rows L2
section
variable {P : Program} {w : World} {K : PySem.W.Frag} {mg : Str → Option Value} {base : Heap} {C S : Addr} {tH tP : Tok} {f : Addr} {fd : FuncData}
theorem sc_L_kind : FnScope ["_law_box", "_law_states", "_law_one_here", "_law_other", "_law_way", "_law_targets", "_law_k"] ["_law_box", "_law_states"] (defScope s_L_kind) := ⟨rfl, rfl, rfl, by decide +kernel, rfl, by decide +kernel, by decide +kernel⟩
def sp_lkind (K : PySem.W.Frag) : Sp := fun vs H Q _ => ∃ b g t n, vs = [.ref b, iv n] ∧ 0 < n ∧ n ≤ 100 ∧ Bx K H b g t ∧ t ≤ 900000 ∧
  ∀ a l v H', l.length = n → (∀ x ∈ l, x < n) → DV K H' (kk1 (a, l)) v → Sb b g H H' → Bx K H' b g (t + n + 4) → Q v H'
theorem set_mid {a b : TS} {D : Ends} {σ : L2.St} {H : Hp} {i : Nat} {v : V} (Mid : L2.St → Hp → Prop) (h1 : ∀ N : L2.St → Hp → Prop, (∀ σ' H', Mid σ' H' → N σ' H') → a { D with nx := N } (σ.set i (some v)) H) (h2 : ∀ σ' H', Mid σ' H' → b D σ' H') : gName i v σ H (tSeq a b D) := h1 _ h2
theorem all_nk {ks : List NestedKey} {n : Nat} (h : ∀ (i : Nat) k, ks[i]? = some k → ∃ x, x < n ∧ k = nk x) : ∃ l : List Nat, ks = l.map nk ∧ ∀ x ∈ l, x < n := by
  induction ks with
  | nil => exact ⟨[], rfl, fun x z => nomatch z⟩
  | cons k ks ih =>
    obtain ⟨x, hx, rfl⟩ := h 0 k rfl
    obtain ⟨l, rfl, hl⟩ := ih fun i k e => h (i + 1) k (by simpa using e)
    refine ⟨x :: l, rfl, fun y hy => ?_⟩
    rcases List.mem_cons.mp hy with z | z
    · rw [z]; exact hx
    · exact hl y z
theorem of_range {K : PySem.W.Frag} {H : Hp} {n : Nat} {fn : Nat → Nat} {us : List V} (ds : DVs K H ((List.range n).filterMap fun i => some (nk (fn i))) us) : us = ((List.range n).map fn).map iv := by
  rw [List.filterMap_eq_map'] at ds
  refine of_nks (K := K) (H := H) ?_
  rw [List.map_map]
  exact ds
theorem rep_flat (n : Nat) (v : Nat) : (List.replicate n [iv v]).flatten = (List.replicate n v).map iv := by
  induction n with
  | zero => rfl
  | succ n ih => rw [List.replicate_succ, List.flatten_cons, ih, List.replicate_succ]; rfl
theorem range_x {i : Nat} {x : V} (e : x = V.int (0 + (i : Int))) : x = iv i := by rw [e, Int.zero_add]; rfl
theorem ok_lkind (T : Txt K mg C S tH tP) (F : FnP K "_law_kind" "_law_kind" s_L_kind f fd) (g__law_draw : Ok P w K mg base "_law_draw" 1 ["_law_box", "_law_many"] (sp_draw K)) : FnOk P w K mg base CX0 2 f fd ["_law_box", "_law_states"] (sp_lkind K) := by
  refine F.ok sc_L_kind (fun vs H Q E h => ?_) (fun cdv A outer s H vs Q E hr h => ⟨_, PSs.nox ((pss_cons (ps_asg (pe_tup (pa_cons (pe_callO g__law_draw (hr.mono (by decide)) rfl (pa_cons (pv 0) (pa_cons (pv 1) pa_nil))) (pa_cons (pe_callO g__law_draw (hr.mono (by decide)) rfl (pa_cons (pv 0) (pa_cons (pv 1) pa_nil))) (pa_cons (pe_callO g__law_draw (hr.mono (by decide)) rfl (pa_cons (pv 0) (pa_cons pe_int pa_nil))) pa_nil)))) (pg_tupK (n := 3) P w K ⟨rfl, rfl, rfl⟩ (by rfl) (pgs_cons (pg_name (i := 2) sc_L_kind.nd rfl (.inr rfl)) (pgs_cons (pg_name (i := 3) sc_L_kind.nd rfl (.inr rfl)) (pgs_cons (pg_name (i := 4) sc_L_kind.nd rfl (.inl rfl)) pgs_nil)))))
  (pss_cons (ps_setLc (i := 5) (own := [("_law_k", 6)]) (by rfl) sc_L_kind.nd rfl rfl (sw_true rfl rfl rfl (by decide +kernel)) (pi_range1 rfl T.z_range (pa_cons (pv 1) pa_nil)) (blkOk_by (own := [("_law_k", 6)]) (N := ["_law_box", "_law_states", "_law_one_here", "_law_other", "_law_way", "_law_targets", "_law_k"]) (sc := defScope s_L_kind) (by decide +kernel)) (fun _ _ _ _ _ => (pg_name (i := 6) sc_L_kind.nd rfl (Or.inl rfl))) (fun _ _ _ _ _ => pts_nil) (fun _ _ _ _ _ => (pe_callO g__law_draw (hr.mono (by decide)) rfl (pa_cons (pv 0) (pa_cons (pv 1) pa_nil)))))
  (pss_cons (ps_if (pt_cmpR (op_deqK P w K ⟨rfl, rfl, rfl⟩ hr) (pv 4) pe_int (nomark _)) (pss_one (ps_set (i := 5) sc_L_kind.nd rfl (.inl rfl) (pe_op op_rep (pe_lst (pa_cons (pv 2) pa_nil)) (pv 1)))) (pss_one (ps_if (pt_cmpR (op_deqK P w K ⟨rfl, rfl, rfl⟩ hr) (pv 4) pe_int (nomark _)) (pss_one (ps_setLc (i := 5) (own := [("_law_k", 6)]) (by rfl) sc_L_kind.nd rfl rfl (sw_true rfl rfl rfl (by decide +kernel)) (pi_range1 rfl T.z_range (pa_cons (pv 1) pa_nil)) (blkOk_by (own := [("_law_k", 6)]) (N := ["_law_box", "_law_states", "_law_one_here", "_law_other", "_law_way", "_law_targets", "_law_k"]) (sc := defScope s_L_kind) (by decide +kernel)) (fun _ _ _ _ _ => (pg_name (i := 6) sc_L_kind.nd rfl (Or.inl rfl))) (fun _ _ _ _ _ => pts_nil) (fun _ _ _ _ _ => (pe_ifExp (pt_cmpR (op_deqK P w K ⟨rfl, rfl, rfl⟩ hr) (pv 6) (pv 2) (nomark _)) (pv 3) (pv 6))))) (pss_one (ps_if (pt_cmpR (op_deqK P w K ⟨rfl, rfl, rfl⟩ hr) (pv 4) pe_int (nomark _)) (pss_one (ps_setLc (i := 5) (own := [("_law_k", 6)]) (by rfl) sc_L_kind.nd rfl rfl (sw_true rfl rfl rfl (by decide +kernel)) (pi_range1 rfl T.z_range (pa_cons (pv 1) pa_nil)) (blkOk_by (own := [("_law_k", 6)]) (N := ["_law_box", "_law_states", "_law_one_here", "_law_other", "_law_way", "_law_targets", "_law_k"]) (sc := defScope s_L_kind) (by decide +kernel)) (fun _ _ _ _ _ => (pg_name (i := 6) sc_L_kind.nd rfl (Or.inl rfl))) (fun _ _ _ _ _ => pts_nil) (fun _ _ _ _ _ => (pe_op op_mod (pe_callTy call_int1 (by rfl) T.z_int (by decide +kernel) (pa_cons (pe_op op_add (pv 6) (pv 2)) pa_nil)) (pv 1))))) (pss_one (ps_if (pt_cmpR (op_deqK P w K ⟨rfl, rfl, rfl⟩ hr) (pv 4) pe_int (nomark _)) (pss_one (ps_setLc (i := 5) (own := [("_law_k", 6)]) (by rfl) sc_L_kind.nd rfl rfl (sw_true rfl rfl rfl (by decide +kernel)) (pi_range1 rfl T.z_range (pa_cons (pv 1) pa_nil)) (blkOk_by (own := [("_law_k", 6)]) (N := ["_law_box", "_law_states", "_law_one_here", "_law_other", "_law_way", "_law_targets", "_law_k"]) (sc := defScope s_L_kind) (by decide +kernel)) (fun _ _ _ _ _ => (pg_name (i := 6) sc_L_kind.nd rfl (Or.inl rfl))) (fun _ _ _ _ _ => pts_nil) (fun _ _ _ _ _ => (pe_ifExp (pt_cmpR (op_notinTK P w K ⟨rfl, rfl, rfl⟩) (pv 6) (pe_tupDK P w K ⟨rfl, rfl, rfl⟩ (pa_cons (pv 2) (pa_cons (pv 3) pa_nil))) rfl) (pv 6) (pe_op op_sub (pe_op op_add (pv 2) (pv 3)) (pv 6)))))) pss_nil)))))))
  (pss_one (ps_ret (pe_tupDK P w K ⟨rfl, rfl, rfl⟩ (pa_cons (pe_callO g__law_draw (hr.mono (by decide)) rfl (pa_cons (pv 0) (pa_cons pe_int pa_nil))) (pa_cons (pe_callTy (cr_tupOfK P w K ⟨rfl, rfl, rfl⟩) (by rfl) T.z_tuple (by decide +kernel) (pa_cons (pv 5) pa_nil)) pa_nil))))))))), ?_⟩)
  · obtain ⟨b, g, t, n, rfl, _⟩ := h
    rfl
  obtain ⟨b, g, t, n, rfl, n0, n1, B, tl, q⟩ := h
  have small : 2000 < sizeLine := by decide
  refine ⟨.ref b, rfl, iv n, rfl, b, g, t, n, rfl, n0, by omega, B, by omega, fun o1 H1 l1 s1 B1 => ⟨.ref b, rfl, iv n, rfl, b, g, t + 1, n, rfl, n0, by omega, B1, by omega, fun o2 H2 l2 s2 B2 => ⟨.ref b, rfl, b, g, t + 1 + 1, 5, rfl, by decide, by decide, B2, by omega, fun wy H3 l3 s3 B3 => ?_⟩⟩⟩
  refine ⟨by show 3 ≤ sizeLine; decide, fun T1 hT1 => ⟨T1, _, rfl, SqT.of upd_same, rfl, iv o1, [iv o2, iv wy], rfl, iv o2, [iv wy], rfl, iv wy, [], rfl, rfl, ?_⟩⟩
  have B4 := B3.same (same_new (o := .tup [iv o1, iv o2, iv wy]) hT1)
  have s4 : Sb b g H (upd H3 T1 (.tup [iv o1, iv o2, iv wy])) := ((s1.trans s2).trans s3).trans (.of (same_new hT1))
  generalize upd H3 T1 (.tup [iv o1, iv o2, iv wy]) = H4 at B4 s4 ⊢
  refine ⟨iv n, rfl, (n : Int), rfl, by omega, by omega, fun D hD => lc_box (K := K) walk_range b g (t + 1 + 1 + 1) 1 (fun _ k => ∃ x, x < n ∧ k = nk x) B4 hD (by rw [Int.toNat_natCast]; omega) (fun _ _ _ => trivial) (fun i x H5 H6 Nx hi s5 t5 B5 y yes => ?_) (fun H5 us ks s5 t5 B5 hD5 ds kl kp => ?_)⟩
  · obtain ⟨rfl, _⟩ := y
    rw [Int.toNat_natCast] at hi
    exact ⟨rfl, .ref b, rfl, iv n, rfl, b, g, _, n, rfl, n0, by omega, B5, by omega, fun d H7 dl s7 B7 => yes (nk d) (iv d) H7 ⟨d, dl, rfl⟩ s7 (B7.le (by omega)) dv_nk⟩
  obtain ⟨lt, rfl, ltb⟩ := all_nk kp
  have eu := of_nks ds
  subst eu
  rw [Int.toNat_natCast] at kl B5
  rw [List.length_map] at kl
  obtain ⟨nDb, nDg⟩ := B4.ne hD
  dsimp only
  refine set_mid (a := tIfS _ _ _) (b := tRet _) (fun σ H' => ∃ (l : List Nat) (p : Addr), σ = [some (.ref b), some (iv n), some (iv o1), some (iv o2), some (iv wy), some (.ref p), none] ∧ H' p = some (.lst (l.map iv)) ∧ p ≠ b ∧ p ≠ g ∧ l.length = n ∧ (∀ x ∈ l, x < n) ∧ Sb b g H H' ∧ Bx K H' b g (t + 3 + n)) (fun N hN => ?_) (fun σ' H' md => ?_)
  · have B6 : Bx K H5 b g (t + 3 + n) := B5.le (by omega)
    have s6 := s4.trans s5
    have fin : ∀ (l : List Nat) (p : Addr) (H' : Hp), H5 p = none → l.length = n → (∀ x ∈ l, x < n) → Same H5 H' → H' p = some (.lst (l.map iv)) → N [some (.ref b), some (iv n), some (iv o1), some (iv o2), some (iv wy), some (.ref p), none] H' := fun l p H' hp ll lb ss hp' => by
      obtain ⟨x1, x2⟩ := B5.ne hp
      exact hN _ _ ⟨l, p, rfl, hp', x1, x2, ll, lb, s6.trans (.of ss), B6.same ss⟩
    refine ⟨iv wy, rfl, nk wy, nk 0, dv_nk, dv_nk, sm_nk _, sm_nk _, _, rfl, ?_⟩
    by_cases w0 : wy = 0
    · rw [decide_eq_true (by rw [w0])]
      refine iteT ⟨iv o1, rfl, (by show 1 ≤ sizeLine; decide), fun a1 hl1 => ⟨iv n, rfl, a1, n, _, rfl, rfl, upd_same, by omega, by omega, (by show 1 * _ ≤ _; rw [Int.toNat_natCast]; omega), fun p hp => ?_⟩⟩
      rw [Int.toNat_natCast, rep_flat]
      exact fin (List.replicate n o1) p _ ((same_new hl1).free hp) (List.length_replicate ..) (fun x hx => by rw [(List.mem_replicate.mp hx).2]; exact l1) (sametr (same_new hl1) (same_new hp)) upd_same
    rw [decide_eq_false fun z => w0 (nk_inj z)]
    refine iteF ⟨iv wy, rfl, nk wy, nk 1, dv_nk, dv_nk, sm_nk _, sm_nk _, _, rfl, ?_⟩
    by_cases w1 : wy = 1
    · rw [decide_eq_true (by rw [w1])]
      refine iteT ⟨iv n, rfl, (n : Int), rfl, by omega, by omega, fun D2 hD2 => lc_dat (K := K) walk_range (fun i => some (nk (if i = o1 then o2 else i))) hD2 (by rw [Int.toNat_natCast]; omega) (fun _ _ => trivial) (fun i x H6 H7 Nx hi s6 y no yes => ?_) (fun H6 us s6 hD6 ds => ?_)⟩
      · obtain ⟨rfl, ex⟩ := y
        rw [Int.toNat_natCast] at hi
        have ex' := range_x ex
        subst ex'
        refine ⟨rfl, iv i, rfl, iv o1, rfl, nk i, nk o1, dv_nk, dv_nk, sm_nk _, sm_nk _, _, rfl, ?_⟩
        by_cases m : i = o1
        · rw [decide_eq_true (by rw [m])]
          exact iteT ⟨iv o2, rfl, yes (nk o2) _ _ (by rw [if_pos m]) (fun _ _ z => z) dv_nk⟩
        · rw [decide_eq_false fun z => m (nk_inj z)]
          exact iteF ⟨iv i, rfl, yes (nk i) _ _ (by rw [if_neg m]) (fun _ _ z => z) dv_nk⟩
      · rw [Int.toNat_natCast] at ds
        have eu := of_range ds
        subst eu
        refine fin ((List.range n).map fun i => if i = o1 then o2 else i) D2 H6 hD2 (by rw [List.length_map, List.length_range]) (fun x hx => ?_) s6 hD6
        obtain ⟨i, hi, rfl⟩ := List.mem_map.mp hx
        have hi' := List.mem_range.mp hi
        split
        · exact l2
        · exact hi'
    rw [decide_eq_false fun z => w1 (nk_inj z)]
    refine iteF ⟨iv wy, rfl, nk wy, nk 2, dv_nk, dv_nk, sm_nk _, sm_nk _, _, rfl, ?_⟩
    by_cases w2 : wy = 2
    · rw [decide_eq_true (by rw [w2])]
      refine iteT ⟨iv n, rfl, (n : Int), rfl, by omega, by omega, fun D2 hD2 => lc_dat (K := K) walk_range (fun i => some (nk ((i + o1) % n))) hD2 (by rw [Int.toNat_natCast]; omega) (fun _ _ => trivial) (fun i x H6 H7 Nx hi s6 y no yes => ?_) (fun H6 us s6 hD6 ds => ?_)⟩
      · obtain ⟨rfl, ex⟩ := y
        rw [Int.toNat_natCast] at hi
        have ex' := range_x ex
        subst ex'
        refine ⟨rfl, iv i, rfl, iv o1, rfl, i, o1, rfl, rfl, .inl ⟨_, rfl, iv n, rfl, _, n, rfl, rfl, by omega, yes _ _ _ rfl (fun _ _ z => z) ?_⟩⟩
        show DV K _ (nk ((i + o1) % n)) (.int (((i : Int) + (o1 : Int)) % (n : Int)))
        rw [show ((i : Int) + (o1 : Int)) % (n : Int) = (((i + o1) % n : Nat) : Int) by rw [Int.natCast_emod, Int.natCast_add]]
        exact dv_nk
      · rw [Int.toNat_natCast] at ds
        have eu := of_range ds
        subst eu
        refine fin ((List.range n).map fun i => (i + o1) % n) D2 H6 hD2 (by rw [List.length_map, List.length_range]) (fun x hx => ?_) s6 hD6
        obtain ⟨i, hi, rfl⟩ := List.mem_map.mp hx
        have hi' := List.mem_range.mp hi
        exact Nat.mod_lt _ n0
    rw [decide_eq_false fun z => w2 (nk_inj z)]
    refine iteF ⟨iv wy, rfl, nk wy, nk 3, dv_nk, dv_nk, sm_nk _, sm_nk _, _, rfl, ?_⟩
    by_cases w3 : wy = 3
    · rw [decide_eq_true (by rw [w3])]
      refine iteT ⟨iv n, rfl, (n : Int), rfl, by omega, by omega, fun D2 hD2 => lc_dat (K := K) walk_range (fun i => some (nk (if i ∈ [o1, o2] then o1 + o2 - i else i))) hD2 (by rw [Int.toNat_natCast]; omega) (fun _ _ => trivial) (fun i x H6 H7 Nx hi s6 y no yes => ?_) (fun H6 us s6 hD6 ds => ?_)⟩
      · obtain ⟨rfl, ex⟩ := y
        rw [Int.toNat_natCast] at hi
        have ex' := range_x ex
        subst ex'
        refine ⟨rfl, iv i, rfl, iv o1, rfl, iv o2, rfl, [nk o1, nk o2], dvs_cons dv_nk (dvs_cons dv_nk dvs_nil), (by show 2 ≤ sizeLine; decide), fun u H7 s7 du => ⟨i, [o1, o2], rfl, du, _, rfl, ?_⟩⟩
        by_cases m : i ∈ [o1, o2]
        · rw [decide_eq_true m]
          refine iteF ⟨iv o1, rfl, iv o2, rfl, o1, o2, rfl, rfl, iv i, rfl, _, i, rfl, rfl, yes (nk (o1 + o2 - i)) _ _ (by rw [if_pos m]) s7 ?_⟩
          show DV K H7 (nk (o1 + o2 - i)) (.int ((o1 : Int) + (o2 : Int) - (i : Int)))
          have le : i ≤ o1 + o2 := by
            rcases List.mem_cons.mp m with z | z
            · omega
            · have := List.mem_singleton.mp z
              omega
          rw [show (o1 : Int) + (o2 : Int) - (i : Int) = ((o1 + o2 - i : Nat) : Int) by omega]
          exact dv_nk
        · rw [decide_eq_false m]
          exact iteT ⟨iv i, rfl, yes (nk i) _ _ (by rw [if_neg m]) s7 dv_nk⟩
      · rw [Int.toNat_natCast] at ds
        have eu := of_range ds
        subst eu
        refine fin ((List.range n).map fun i => if i ∈ [o1, o2] then o1 + o2 - i else i) D2 H6 hD2 (by rw [List.length_map, List.length_range]) (fun x hx => ?_) s6 hD6
        obtain ⟨i, hi, rfl⟩ := List.mem_map.mp hx
        have hi' := List.mem_range.mp hi
        split
        · rename_i m
          rcases List.mem_cons.mp m with z | z
          · omega
          · have := List.mem_singleton.mp z
            omega
        · exact hi'
    rw [decide_eq_false fun z => w3 (nk_inj z)]
    exact iteF (hN _ _ ⟨lt, D, rfl, hD5, nDb, nDg, kl, ltb, s6, B6⟩)
  · obtain ⟨l, p, rfl, hp, pb, pg, ll, lb, sb, Bt⟩ := md
    refine ⟨.ref b, rfl, b, g, _, 4, rfl, by decide, by decide, Bt, by omega, fun d H7 dl s7 B7 => ⟨.ref p, rfl, p, _, l.map nk, rfl, SqL.of (s7 _ _ hp pb pg), dvs_nks, fun v H8 s8 dv => ⟨[nk d, lk l], dvs_cons dv_nk (dvs_cons dv dvs_nil), (by show 2 ≤ sizeLine; decide), fun u H9 s9 du => q d l u H9 ll lb du ((sb.trans s7).trans (.of (sametr s8 s9))) ((B7.same (sametr s8 s9)).le (by omega))⟩⟩⟩
end
end K14

/-! W34: _law_handler. -/
namespace K14
open PySem PySem.Spec PyProof.Rows L2
theorem all_kk {ks : List NestedKey} {n : Nat} (h : ∀ (i : Nat) k, ks[i]? = some k → ∃ p : Nat × List Nat, p.2.length = n ∧ (∀ x ∈ p.2, x < n) ∧ k = kk1 p) : ∃ l : List (Nat × List Nat), ks = l.map kk1 ∧ ∀ p ∈ l, p.2.length = n ∧ ∀ x ∈ p.2, x < n := by
  induction ks with
  | nil => exact ⟨[], rfl, fun x z => nomatch z⟩
  | cons k ks ih =>
    obtain ⟨x, h1, h2, rfl⟩ := h 0 k rfl
    obtain ⟨l, rfl, hl⟩ := ih fun i k e => h (i + 1) k (by simpa using e)
    refine ⟨x :: l, rfl, fun y hy => ?_⟩
    rcases List.mem_cons.mp hy with z | z
    · rw [z]; exact ⟨h1, h2⟩
    · exact hl y z
section
variable {P : Program} {w : World} {K : PySem.W.Frag} {mg : Str → Option Value} {base : Heap} {C S : Addr} {tH tP : Tok} {f : Addr} {fd : FuncData}
theorem sc_L_handler : FnScope ["_law_box", "_law_most", "_law_many", "_law_states", "_law_labels", "_law_k"] ["_law_box", "_law_most", "_law_many"] (defScope s_L_handler) := ⟨rfl, rfl, rfl, by decide +kernel, rfl, by decide +kernel, by decide +kernel⟩
def sp_lhandler (K : PySem.W.Frag) : Sp := fun vs H Q _ => ∃ b g t most many, vs = [.ref b, iv most, iv many] ∧ 2 ≤ most ∧ most ≤ 8 ∧ 1 ≤ many ∧ many ≤ 6 ∧ Bx K H b g t ∧ t ≤ 800000 ∧
  ∀ h v H', Hd.Ok h → h.n ≤ most → h.K ≤ many → DV K H' (hk h) v → Sb b g H H' → Bx K H' b g (t + 300) → Q v H'
theorem ok_lhandler (T : Txt K mg C S tH tP) (F : FnP K "_law_handler" "_law_handler" s_L_handler f fd) (g__law_draw : Ok P w K mg base "_law_draw" 1 ["_law_box", "_law_many"] (sp_draw K)) (g__law_one : Ok P w K mg base "_law_one" 2 ["_law_box", "_law_items"] (sp_one K))
    (g__law_kind : Ok P w K mg base "_law_kind" 2 ["_law_box", "_law_states"] (sp_lkind K)) : FnOk P w K mg base CX0 3 f fd ["_law_box", "_law_most", "_law_many"] (sp_lhandler K) := by
  refine F.ok sc_L_handler (fun vs H Q E h => ?_) (fun cdv A outer s H vs Q E hr h => ⟨_, PSs.nox ((pss_cons (ps_set (i := 3) sc_L_handler.nd rfl (.inr rfl) (pe_op op_add pe_int (pe_callO g__law_draw (hr.mono (by decide)) rfl (pa_cons (pv 0) (pa_cons (pe_op op_sub (pv 1) pe_int) pa_nil)))))
  (pss_cons (ps_setLc (i := 4) (own := [("_law_k", 5)]) (by rfl) sc_L_handler.nd rfl rfl (sw_true rfl rfl rfl (by decide +kernel)) (pi_range1 rfl T.z_range (pa_cons (pv 3) pa_nil)) (blkOk_by (own := [("_law_k", 5)]) (N := ["_law_box", "_law_most", "_law_many", "_law_states", "_law_labels", "_law_k"]) (sc := defScope s_L_handler) (by decide +kernel)) (fun _ _ _ _ _ => (pg_name (i := 5) sc_L_handler.nd rfl (Or.inl rfl))) (fun _ _ _ _ _ => pts_nil) (fun _ _ _ _ _ => (pe_callO g__law_one (hr.mono (by decide)) rfl (pa_cons (pv 0) (pa_cons (pe_lst (pa_cons pe_int (pa_cons pe_int (pa_cons (pv 5) (pa_cons (pe_callO g__law_draw (hr.mono (by decide)) rfl (pa_cons (pv 0) (pa_cons (pv 3) pa_nil))) pa_nil))))) pa_nil)))))
  (pss_one (ps_ret (pe_tupDK P w K ⟨rfl, rfl, rfl⟩ (pa_cons (pe_callTy (cr_tupOfK P w K ⟨rfl, rfl, rfl⟩) (by rfl) T.z_tuple (by decide +kernel) (pa_cons (pv 4) pa_nil)) (pa_cons (pe_callTy (cr_tupOfK P w K ⟨rfl, rfl, rfl⟩) (by rfl) T.z_tuple (by decide +kernel) (pa_cons (pe_lc (own := [("_law_k", 5)]) (by rfl) sc_L_handler.nd (pi_range1 rfl T.z_range (pa_cons (pe_op op_add pe_int (pe_callO g__law_draw (hr.mono (by decide)) rfl (pa_cons (pv 0) (pa_cons (pv 2) pa_nil)))) pa_nil)) (blkOk_by (own := [("_law_k", 5)]) (N := ["_law_box", "_law_most", "_law_many", "_law_states", "_law_labels", "_law_k"]) (sc := defScope s_L_handler) (by decide +kernel)) (fun _ _ _ _ _ => (pg_name (i := 5) sc_L_handler.nd rfl (Or.inl rfl))) (fun _ _ _ _ _ => pts_nil) (fun _ _ _ _ _ => (pe_callO g__law_kind (hr.mono (by decide)) rfl (pa_cons (pv 0) (pa_cons (pv 3) pa_nil))))) pa_nil)) pa_nil)))))))), ?_⟩)
  · obtain ⟨b, g, t, most, many, rfl, _⟩ := h
    rfl
  obtain ⟨b, g, t, most, many, rfl, m2, m8, k1, k6, B, tl, q⟩ := h
  have small : 2000 < sizeLine := by decide
  refine ⟨.ref b, rfl, iv most, rfl, most, 1, rfl, rfl, b, g, t, most - 1, ?_, by omega, by omega, B, by omega, fun d0 H1 dl0 s1 B1 => ⟨2, d0, rfl, rfl, ?_⟩⟩
  · show [V.ref b, .int ((most : Int) - 1)] = [V.ref b, .int ((most - 1 : Nat) : Int)]
    rw [show (most : Int) - 1 = ((most - 1 : Nat) : Int) by omega]
  obtain ⟨n, en⟩ : ∃ n : Nat, n = 2 + d0 := ⟨_, rfl⟩
  have en2 : V.int (2 + (d0 : Int)) = iv n := by
    show V.int (2 + (d0 : Int)) = V.int (n : Int)
    rw [en, Int.natCast_add]
    rfl
  dsimp only
  rw [en2]
  have n0 : 0 < n := by omega
  have nm : n ≤ most := by omega
  refine ⟨iv n, rfl, (n : Int), rfl, by omega, by omega, fun D hD => lc_box (K := K) walk_range b g (t + 1) 2 (fun _ k => ∃ x, x < n ∧ k = nk x) B1 hD (by rw [Int.toNat_natCast]; omega) (fun _ _ _ => trivial) (fun i x H5 H6 Nx hi s5 t5 B5 y yes => ?_) (fun H5 us ks s5 t5 B5 hD5 ds kl kp => ?_)⟩
  · obtain ⟨rfl, ex⟩ := y
    rw [Int.toNat_natCast] at hi
    have ex' := range_x ex
    subst ex'
    refine ⟨rfl, .ref b, rfl, iv i, rfl, .ref b, rfl, iv n, rfl, b, g, _, n, rfl, n0, by omega, B5, by omega, fun d H7 dl s7 B7 => ⟨(by show 4 ≤ sizeLine; decide), fun it hit => ?_⟩⟩
    obtain ⟨ib, ig⟩ := B7.ne hit
    refine ⟨b, g, _, it, [.int 0, .int 0, iv i, iv d], [nk 0, nk 0, nk i, nk d], rfl, B7.same (same_new hit), by omega, upd_same, ib, ig, dvs_cons dv_nk (dvs_cons dv_nk (dvs_cons dv_nk (dvs_cons dv_nk dvs_nil))), (by show 0 < 4; decide), (by show 4 ≤ 900; decide), fun k v H8 km dv s8 B8 => ?_⟩
    refine yes k v H8 ?_ ((s7.trans (.of (same_new hit))).trans s8) (B8.le (by omega)) dv
    simp only [List.mem_cons, List.not_mem_nil, or_false] at km
    rcases km with z | z | z | z
    · exact ⟨0, n0, z⟩
    · exact ⟨0, n0, z⟩
    · exact ⟨i, hi, z⟩
    · exact ⟨d, dl, z⟩
  obtain ⟨labs, rfl, ltb⟩ := all_nk kp
  rw [Int.toNat_natCast] at kl B5
  rw [List.length_map] at kl
  have B5' : Bx K H5 b g (t + 20) := B5.le (by omega)
  refine ⟨.ref D, rfl, D, us, labs.map nk, rfl, SqL.of hD5, ds, fun lv H6 s6 dlv => ?_⟩
  have B6 := B5'.same s6
  refine ⟨.ref b, rfl, iv many, rfl, b, g, _, many, rfl, by omega, by omega, B6, by omega, fun d7 H7 dl7 s7 B7 => ⟨1, d7, rfl, rfl, 1 + (d7 : Int), rfl, by omega, by omega, fun D2 hD2 => ?_⟩⟩
  have e7 : (1 + (d7 : Int)).toNat = 1 + d7 := by omega
  refine lc_box (K := K) walk_range b g (t + 20 + 1) 12 (fun _ k => ∃ p : Nat × List Nat, p.2.length = n ∧ (∀ x ∈ p.2, x < n) ∧ k = kk1 p) B7 hD2 (by omega) (fun _ _ _ => trivial) (fun i x H8 H9 Nx hi s8 t8 B8 y yes => ?_) (fun H8 us8 ks8 s8 t8 B8 hD8 ds8 kl8 kp8 => ?_)
  · obtain ⟨rfl, _⟩ := y
    rw [e7] at hi
    refine ⟨rfl, .ref b, rfl, iv n, rfl, b, g, _, n, rfl, n0, by omega, B8, by omega, fun a l v H10 ll lb dv s10 B10 => yes _ v H10 ⟨(a, l), ll, lb, rfl⟩ s10 (B10.le (by omega)) dv⟩
  obtain ⟨kinds, rfl, kb⟩ := all_kk kp8
  rw [e7] at kl8 B8
  rw [List.length_map] at kl8
  refine ⟨D2, us8, _, rfl, SqL.of hD8, ds8, fun kv H9 s9 dkv => ?_⟩
  have s69 := (s7.trans s8).trans (.of (g := g) (b := b) s9)
  refine ⟨[lk labs, .tup (kinds.map kk1)], dvs_cons (dlv.tx (s69.tx B6)) (dvs_cons dkv dvs_nil), (by show 2 ≤ sizeLine; decide), fun v H10 s10 dv => ?_⟩
  refine q ⟨labs, kinds⟩ v H10 ⟨?_, ?_, ?_, ?_, fun p hp => ?_⟩ ?_ ?_ dv ((((s1.trans s5).trans (.of s6)).trans s69).trans (.of s10)) (((B8.same s9).same s10).le (by omega))
  · show 2 ≤ labs.length
    omega
  · show labs.length ≤ 8
    omega
  · show 1 ≤ kinds.length
    omega
  · show kinds.length ≤ 6
    omega
  · obtain ⟨h1, h2⟩ := kb p hp
    refine ⟨?_, fun x hx => ?_⟩
    · show p.2.length = labs.length
      omega
    · have := h2 x hx
      show x < labs.length
      omega
  · show labs.length ≤ most
    omega
  · show kinds.length ≤ many
    omega
end
end K14

/-! W35: _law_log, _law_lead. -/
namespace K14
open PySem PySem.Spec PyProof.Rows L2
section
variable {P : Program} {w : World} {K : PySem.W.Frag} {mg : Str → Option Value} {base : Heap} {C S : Addr} {tH tP : Tok} {f : Addr} {fd : FuncData}
theorem sc_L_log : FnScope ["_law_box", "_law_handler_here", "_law_most", "_law_k"] ["_law_box", "_law_handler_here", "_law_most"] (defScope s_L_log) := ⟨rfl, rfl, rfl, by decide +kernel, rfl, by decide +kernel, by decide +kernel⟩
def sp_llog (K : PySem.W.Frag) : Sp := fun vs H Q _ => ∃ b g t h v most, vs = [.ref b, v, iv most] ∧ h.Ok ∧ DV K H (hk h) v ∧ most ≤ 12 ∧ Bx K H b g t ∧ t ≤ 800000 ∧
  ∀ l u H', (∀ k ∈ l, k < h.K) → l.length ≤ 12 → DV K H' (lk l) u → Sb b g H H' → Bx K H' b g (t + 20) → Q u H'
theorem ok_llog (T : Txt K mg C S tH tP) (F : FnP K "_law_log" "_law_log" s_L_log f fd) (g__law_draw : Ok P w K mg base "_law_draw" 1 ["_law_box", "_law_many"] (sp_draw K)) : FnOk P w K mg base CX0 2 f fd ["_law_box", "_law_handler_here", "_law_most"] (sp_llog K) := by
  refine F.ok sc_L_log (fun vs H Q E h => ?_) (fun cdv A outer s H vs Q E hr h => ⟨_, PSs.nox ((pss_one (ps_ret (pe_callTy (cr_tupOfK P w K ⟨rfl, rfl, rfl⟩) (by rfl) T.z_tuple (by decide +kernel) (pa_cons (pe_lc (own := [("_law_k", 3)]) (by rfl) sc_L_log.nd (pi_range1 rfl T.z_range (pa_cons (pe_callO g__law_draw (hr.mono (by decide)) rfl (pa_cons (pv 0) (pa_cons (pe_op op_add (pv 2) pe_int) pa_nil))) pa_nil)) (blkOk_by (own := [("_law_k", 3)]) (N := ["_law_box", "_law_handler_here", "_law_most", "_law_k"]) (sc := defScope s_L_log) (by decide +kernel)) (fun _ _ _ _ _ => (pg_name (i := 3) sc_L_log.nd rfl (Or.inl rfl))) (fun _ _ _ _ _ => pts_nil) (fun _ _ _ _ _ => (pe_callO g__law_draw (hr.mono (by decide)) rfl (pa_cons (pv 0) (pa_cons (pe_callB (cr_lenDK P w K ⟨rfl, rfl, rfl⟩) (by rfl) T.z_len (by decide +kernel) (pa_cons (pe_ix (ix_datK P w K ⟨rfl, rfl, rfl⟩) (pv 1) pe_int (fun _ _ => rfl)) pa_nil)) pa_nil))))) pa_nil))))), ?_⟩)
  · obtain ⟨b, g, t, h, v, most, rfl, _⟩ := h
    rfl
  obtain ⟨b, g, t, h, v, most, rfl, o, dh, m12, B, tl, q⟩ := h
  have small : 2000 < sizeLine := by decide
  have k1 := o.k1
  have k6 := o.k6
  refine ⟨.ref b, rfl, iv most, rfl, most, 1, rfl, rfl, b, g, t, most + 1, ?_, by omega, by omega, B, by omega, fun d0 H1 dl0 s1 B1 => ⟨(d0 : Int), rfl, by omega, by omega, fun D hD => ?_⟩⟩
  · show [V.ref b, .int ((most : Int) + 1)] = [V.ref b, .int ((most + 1 : Nat) : Int)]
    rw [Int.natCast_add]
    rfl
  refine lc_box (K := K) walk_range b g (t + 1) 1 (fun _ k => ∃ x, x < h.K ∧ k = nk x) B1 hD (by rw [Int.toNat_natCast]; omega) (fun _ _ _ => trivial) (fun i x H5 H6 Nx hi s5 t5 B5 y yes => ?_) (fun H5 us ks s5 t5 B5 hD5 ds kl kp => ?_)
  · obtain ⟨rfl, _⟩ := y
    rw [Int.toNat_natCast] at hi
    have dh5 := dh.tx ((s1.trans s5).tx B)
    refine ⟨rfl, .ref b, rfl, v, rfl, _, 1, _, dh5, rfl, rfl, fun v2 d2 => ⟨_, _, rfl, d2, b, g, _, h.K, ?_, by omega, by omega, B5, by omega, fun d H7 dl s7 B7 => yes (nk d) (iv d) H7 ⟨d, dl, rfl⟩ s7 (B7.le (by omega)) dv_nk⟩⟩
    rw [List.length_map]
    rfl
  obtain ⟨l, rfl, lb⟩ := all_nk kp
  rw [Int.toNat_natCast] at kl B5
  rw [List.length_map] at kl
  exact ⟨D, us, l.map nk, rfl, SqL.of hD5, ds, fun u H6 s6 du => q l u H6 lb (by omega) du ((s1.trans s5).trans (.of s6)) ((B5.same s6).le (by omega))⟩
theorem sc_L_lead : FnScope ["_law_handler_here", "_law_state", "_law_log_here", "_law_index"] ["_law_handler_here", "_law_state", "_law_log_here"] (defScope s_L_lead) := ⟨rfl, rfl, rfl, by decide +kernel, rfl, by decide +kernel, by decide +kernel⟩
def sp_lead (K : PySem.W.Frag) : Sp := fun vs H Q _ => ∃ h s l v u, vs = [v, iv s, u] ∧ h.Ok ∧ DV K H (hk h) v ∧ DV K H (lk l) u ∧ s < h.n ∧ (∀ k ∈ l, k < h.K) ∧ Q (iv (h.run s l)) H
theorem ok_lead (T : Txt K mg C S tH tP) (F : FnP K "_law_lead" "_law_lead" s_L_lead f fd) : FnOk P w K mg base CX0 1 f fd ["_law_handler_here", "_law_state", "_law_log_here"] (sp_lead K) := by
  refine F.ok sc_L_lead (fun vs H Q E h => ?_) (fun cdv A outer s H vs Q E hr h => ⟨_, PSs.nox ((pss_cons (ps_for PassesOwn.never rfl (pi_tupK P w K ⟨rfl, rfl, rfl⟩ (pv 2)) (pg_name (i := 3) sc_L_lead.nd rfl (.inl rfl))
    (pss_one (ps_set (i := 1) sc_L_lead.nd rfl (.inl rfl) (pe_ix (ix_datK P w K ⟨rfl, rfl, rfl⟩) (pe_ix (ix_datK P w K ⟨rfl, rfl, rfl⟩) (pe_ix (ix_datK P w K ⟨rfl, rfl, rfl⟩) (pe_ix (ix_datK P w K ⟨rfl, rfl, rfl⟩) (pv 0) pe_int (fun _ _ => rfl)) (pv 3) (fun _ _ => rfl)) pe_int (fun _ _ => rfl)) (pv 1) (fun _ _ => rfl)))))
  (pss_one (ps_ret (pv 1))))), ?_⟩)
  · obtain ⟨h, s, l, v, u, rfl, _⟩ := h
    rfl
  · obtain ⟨h, s0, l, v, u, rfl, o, d, dl, hs, hl, q⟩ := h
    obtain ⟨a, rfl, sq⟩ := of_lk dl
    refine ⟨_, rfl, a, rfl, ⟨_, sq⟩, for_it (walk_tup (xs := l.map iv)) (fun i σ H' => H' = H ∧ ∃ y, σ = [some v, some (iv (h.run s0 (l.take i))), some (.ref a), y]) ⟨rfl, _, rfl⟩ (fun i σ H' _ p => by rw [p.1]; exact sq) (fun i x σ H1 H2 hi p y => ?_) (fun σ H1 p => ?_)⟩
    · obtain ⟨e1, y3, e2⟩ := p
      obtain ⟨e3, ex⟩ := y
      subst e1 e2 e3
      obtain ⟨hi', ex⟩ := of_iv ex
      subst ex
      refine ⟨_, rfl, step_rd o d rfl rfl (hl _ (List.getElem_mem _)) (h.run_lt o _ hs) ⟨rfl, some (iv l[i]), ?_⟩⟩
      rw [run_take hi']
      rfl
    · obtain ⟨e1, y3, e2⟩ := p
      subst e1 e2
      rw [List.length_map, List.take_length]
      exact ⟨_, rfl, q⟩
end
end K14

/-! W36: _law_parted_right. -/
namespace K14
open PySem PySem.Spec PyProof.Rows L2
section
variable {P : Program} {w : World} {K : PySem.W.Frag} {mg : Str → Option Value} {base : Heap} {C S : Addr} {tH tP : Tok} {f : Addr} {fd : FuncData}
theorem sc_L_parted_right : FnScope ["_law_handler_here", "_law_one_here", "_law_other", "_law_classes", "_law_log_here", "_law_kind_here"] ["_law_handler_here", "_law_one_here", "_law_other"] (defScope s_L_parted_right) := ⟨rfl, rfl, rfl, by decide +kernel, rfl, by decide +kernel, by decide +kernel⟩
def sp_parted (K : PySem.W.Frag) : Sp := fun vs H Q _ => ∃ h v s t, vs = [v, iv s, iv t] ∧ h.Ok ∧ DV K H (hk h) v ∧ s < h.n ∧ t < h.n ∧ ∀ H', Same H H' → Q (.bl true) H'
theorem ok_parted (T : Txt K mg C S tH tP) (F : FnP K "_law_parted_right" "_law_parted_right" s_L_parted_right f fd) (g_alike_classes : Ok P w K mg base "alike_classes" 2 ["handler"] (sp_alike_classes K)) (g_tell_apart : Ok P w K mg base "tell_apart" 3 ["handler", "one", "other"] (sp_tell_apart K))
    (g__law_lead : Ok P w K mg base "_law_lead" 1 ["_law_handler_here", "_law_state", "_law_log_here"] (sp_lead K)) : FnOk P w K mg base CX0 4 f fd ["_law_handler_here", "_law_one_here", "_law_other"] (sp_parted K) := by
  refine F.ok sc_L_parted_right (fun vs H Q E h => ?_) (fun cdv A outer s H vs Q E hr h => ⟨_, PSs.nox ((pss_cons (ps_asg (pe_tup (pa_cons (pe_callO g_alike_classes (hr.mono (by decide)) rfl (pa_cons (pv 0) pa_nil)) (pa_cons (pe_callO g_tell_apart (hr.mono (by decide)) rfl (pa_cons (pv 0) (pa_cons (pv 1) (pa_cons (pv 2) pa_nil)))) pa_nil))) (pg_tupK (n := 2) P w K ⟨rfl, rfl, rfl⟩ (by rfl) (pgs_cons (pg_name (i := 3) sc_L_parted_right.nd rfl (.inr rfl)) (pgs_cons (pg_name (i := 4) sc_L_parted_right.nd rfl (.inl rfl)) pgs_nil))))
  (pss_cons (ps_if (pt_cmpR op_ne (pe_cmpR op_isN (pv 4) pe_non (nomark _)) (pe_cmpR (op_deqK P w K ⟨rfl, rfl, rfl⟩ hr) (pe_ix (ix_datK P w K ⟨rfl, rfl, rfl⟩) (pv 3) (pv 1) (fun _ _ => rfl)) (pe_ix (ix_datK P w K ⟨rfl, rfl, rfl⟩) (pv 3) (pv 2) (fun _ _ => rfl)) (nomark _)) (nomark _)) (pss_one (ps_ret pe_bl)) pss_nil)
  (pss_cons (ps_if (pt_cmpR op_isN (pv 4) pe_non (nomark _)) (pss_one (ps_ret (pe_cmpR (op_eqnilK P w K ⟨rfl, rfl, rfl⟩ hr) (pe_lc (own := [("_law_kind_here", 5)]) (by rfl) sc_L_parted_right.nd (pi_TDK P w K ⟨rfl, rfl, rfl⟩ (pe_ix (ix_datK P w K ⟨rfl, rfl, rfl⟩) (pv 0) pe_int (fun _ _ => rfl))) (blkOk_by (own := [("_law_kind_here", 5)]) (N := ["_law_handler_here", "_law_one_here", "_law_other", "_law_classes", "_law_log_here", "_law_kind_here"]) (sc := defScope s_L_parted_right) (by decide +kernel)) (fun _ _ _ _ _ => (pg_name (i := 5) sc_L_parted_right.nd rfl (Or.inl rfl))) (fun _ _ _ _ _ => (pts_one (pt_cmpR (op_dneK P w K ⟨rfl, rfl, rfl⟩ hr) (pe_ix (ix_datK P w K ⟨rfl, rfl, rfl⟩) (pv 3) (pe_ix (ix_datK P w K ⟨rfl, rfl, rfl⟩) (pe_ix (ix_datK P w K ⟨rfl, rfl, rfl⟩) (pv 5) pe_int (fun _ _ => rfl)) (pv 1) (fun _ _ => rfl)) (fun _ _ => rfl)) (pe_ix (ix_datK P w K ⟨rfl, rfl, rfl⟩) (pv 3) (pe_ix (ix_datK P w K ⟨rfl, rfl, rfl⟩) (pe_ix (ix_datK P w K ⟨rfl, rfl, rfl⟩) (pv 5) pe_int (fun _ _ => rfl)) (pv 2) (fun _ _ => rfl)) (fun _ _ => rfl)) (nomark _)))) (fun _ _ _ _ _ => pe_int)) (pe_lst pa_nil) (nomark _)))) pss_nil)
  (pss_one (ps_ret (pe_cmpR (op_dneK P w K ⟨rfl, rfl, rfl⟩ hr) (pe_ix (ix_datK P w K ⟨rfl, rfl, rfl⟩) (pe_ix (ix_datK P w K ⟨rfl, rfl, rfl⟩) (pv 0) pe_int (fun _ _ => rfl)) (pe_callO g__law_lead (hr.mono (by decide)) rfl (pa_cons (pv 0) (pa_cons (pv 1) (pa_cons (pv 4) pa_nil)))) (fun _ _ => rfl)) (pe_ix (ix_datK P w K ⟨rfl, rfl, rfl⟩) (pe_ix (ix_datK P w K ⟨rfl, rfl, rfl⟩) (pv 0) pe_int (fun _ _ => rfl)) (pe_callO g__law_lead (hr.mono (by decide)) rfl (pa_cons (pv 0) (pa_cons (pv 2) (pa_cons (pv 4) pa_nil)))) (fun _ _ => rfl)) (nomark _)))))))), ?_⟩)
  · obtain ⟨h, v, s, t, rfl, _⟩ := h
    rfl
  obtain ⟨h, v, s, t, rfl, o, d, hs, ht, q⟩ := h
  have small : 2000 < sizeLine := by decide
  have n8 := o.n8
  have k6 := o.k6
  refine ⟨v, rfl, h, v, rfl, o, d, fun c cu H1 s1 ck dc => ⟨v, rfl, iv s, rfl, iv t, rfl, h, s, t, v, rfl, o, hs, ht, d.tx (.same s1), fun al H2 s2 => ?_, fun l u H2 s2 hl ne du => ?_⟩⟩
  · have s02 := sametr s1 s2
    refine ⟨(by show 2 ≤ sizeLine; decide), fun T1 hT1 => ⟨T1, _, rfl, SqT.of upd_same, rfl, cu, [.non], rfl, .non, [], rfl, rfl, ?_⟩⟩
    have s03 := sametr s02 (same_new (o := .tup [cu, .non]) hT1)
    have dc3 := dc.tx (.same (sametr s2 (same_new (o := .tup [cu, .non]) hT1)))
    generalize upd H2 T1 (.tup [cu, .non]) = H3 at s03 dc3 ⊢
    obtain ⟨cl, ca⟩ := ck
    have ec : c.getD s 0 = c.getD t 0 := (ca s t hs ht).mpr al
    refine ⟨.non, rfl, rfl, cu, rfl, iv s, rfl, c.map nk, s, _, dc3, rfl, lk_get (by omega), fun z1 dz1 => ⟨cu, rfl, iv t, rfl, c.map nk, t, _, dc3, rfl, lk_get (by omega), fun z2 dz2 => ⟨_, _, dz1, dz2, sm_nk _, sm_nk _, rfl, false, ?_, iteF ?_⟩⟩⟩
    · rw [ec]
      simp
    refine ⟨.non, rfl, rfl, true, rfl, iteT ?_⟩
    have d3 := d.tx (.same s03)
    refine ⟨v, rfl, _, 1, _, d3, rfl, rfl, fun v2 d2 => ⟨_, d2, fun J wk D hD => ?_⟩⟩
    have eK : (h.kinds.map kk1).length = h.K := by rw [List.length_map]; rfl
    refine lc_dat (K := K) wk (fun _ => none) hD (by rw [eK]; omega) (fun H' s => .same s) (fun j x H4 H5 Nx hj s4 y no yes => ?_) (fun H4 us s4 hD4 ds => ?_)
    · obtain ⟨rfl, k, ek, dk⟩ := y
      rw [eK] at hj
      rw [hk_kind hj] at ek
      cases ek
      have tl : (h.kinds.getD j (0, [])).2.length = h.n := (o.kind hj).1
      have dc4 := dc3.tx (.same s4)
      refine ⟨rfl, cu, rfl, x, rfl, _, 1, _, dk, rfl, rfl, fun x1 d1 => ⟨iv s, rfl, _, s, _, d1, rfl, lk_get (by rw [tl]; exact hs), fun x2 d2 => ?_⟩⟩
      have e2 := of_num d2
      subst e2
      refine ⟨_, h.step j s, _, dc4, rfl, lk_get (by rw [cl]; exact h.step_lt o j s), fun z1 dz1 => ⟨cu, rfl, x, rfl, _, 1, _, dk, rfl, rfl, fun x3 d3 => ⟨iv t, rfl, _, t, _, d3, rfl, lk_get (by rw [tl]; exact ht), fun x4 d4 => ?_⟩⟩⟩
      have e4 := of_num d4
      subst e4
      refine ⟨_, h.step j t, _, dc4, rfl, lk_get (by rw [cl]; exact h.step_lt o j t), fun z2 dz2 => ⟨_, _, dz1, dz2, sm_nk _, sm_nk _, false, ?_, iteF (no rfl _ fun _ _ z => z)⟩⟩
      rw [(ca _ _ (h.step_lt o j s) (h.step_lt o j t)).mpr (al.step j)]
      simp
    · have e0 : (List.range (h.kinds.map kk1).length).filterMap (fun _ => (none : Option NestedKey)) = [] := by simp
      rw [e0] at ds
      have eu := of_nil ds
      subst eu
      refine ⟨Nat.zero_le _, fun l2 hl2 => ⟨D, [], l2, rfl, rfl, SqL.of (same_new hl2 _ _ hD4), SqL.of upd_same, q _ (sametr s03 (sametr s4 (same_new hl2)))⟩⟩
  · have s02 := sametr s1 s2
    have un : decide (u = V.non) = false := by
      obtain ⟨a, rfl, _⟩ := of_lk du
      rfl
    refine ⟨(by show 2 ≤ sizeLine; decide), fun T1 hT1 => ⟨T1, _, rfl, SqT.of upd_same, rfl, cu, [u], rfl, u, [], rfl, rfl, ?_⟩⟩
    have s03 := sametr s02 (same_new (o := .tup [cu, u]) hT1)
    have dc3 := dc.tx (.same (sametr s2 (same_new (o := .tup [cu, u]) hT1)))
    have du3 := du.tx (.new (o := .tup [cu, u]) hT1)
    generalize upd H2 T1 (.tup [cu, u]) = H3 at s03 dc3 du3 ⊢
    obtain ⟨cl, ca⟩ := ck
    have ec : c.getD s 0 ≠ c.getD t 0 := fun e => ne ((ca s t hs ht).mp e l)
    refine ⟨u, rfl, rfl, cu, rfl, iv s, rfl, c.map nk, s, _, dc3, rfl, lk_get (by omega), fun z1 dz1 => ⟨cu, rfl, iv t, rfl, c.map nk, t, _, dc3, rfl, lk_get (by omega), fun z2 dz2 => ⟨_, _, dz1, dz2, sm_nk _, sm_nk _, rfl, false, ?_, iteF ?_⟩⟩⟩
    · rw [un, decide_eq_false fun z => ec (nk_inj z)]
      rfl
    refine ⟨u, rfl, rfl, false, by rw [un], iteF ?_⟩
    have d3 := d.tx (.same s03)
    have r1 := h.run_lt o l hs
    have r2 := h.run_lt o l ht
    refine ⟨v, rfl, _, 0, _, d3, rfl, rfl, fun v2 d2 => ⟨v, rfl, iv s, rfl, u, rfl, h, s, l, v, u, rfl, o, d3, du3, hs, hl, _, h.run s l, _, d2, rfl, lk_get r1, fun z1 dz1 => ⟨v, rfl, _, 0, _, d3, rfl, rfl, fun v3 d3' => ⟨v, rfl, iv t, rfl, u, rfl, h, t, l, v, u, rfl, o, d3, du3, ht, hl, _, h.run t l, _, d3', rfl, lk_get r2, fun z2 dz2 => ⟨_, _, dz1, dz2, sm_nk _, sm_nk _, ?_⟩⟩⟩⟩⟩
    have ez : decide (nk (h.labs.getD (h.run s l) 0) = nk (h.labs.getD (h.run t l) 0)) = false := decide_eq_false fun z => ne (nk_inj z)
    rw [ez]
    exact q _ s03
end
end K14

/-! W37: set(l), l a list of areI. -/
namespace K14
open PySem PySem.Spec PyProof.Rows L2
section
variable {P : Program} {w : World} {A : Around} {s : Shared} {E : Value → Shared → Prop}
/-- the new set's object -/
abbrev emp (w : World) : Obj := { cls := .type "set", dict := none, data := .set #[] 0 (.fresh 0 0 (!w.params.followText "set-order")) }
theorem set_of_list {x : Addr} {vs : Array Value} (ks : List Int) {Q : Value → Shared → Prop} (calm : A.handled = none) (lx : s.heap.IsList x vs) (areI : IntsAre vs.toList ks) (room : ks.length + 1 < scanBound)
    (fin : ∀ (g : Heap) (tk c : Nat), SetR w g s.heap.objs.size (fun j => decide (j ∈ ks)) c → c ≤ ks.length → (∀ b o, s.heap.get? b = some o → g.get? b = some o) → Q (.ref s.heap.objs.size) { s with heap := g, toks := tk }) :
    wpAny (model P w) A (call (.type "set") [.ref x]) Q E s := by
  have vl : vs.size = ks.length := by
    have z := IntsAre.length areI
    rwa [Array.length_toList] at z
  obtain ⟨mc, mt, emro⟩ := F.called_set.mro
  have em := F.called_set.made
  have es := F.called_set.sub
  refine wpAny_call (codeAny_of_tree ?_)
  show wpAny _ _ (callAny (.type "set") _) _ _ _
  refine wpAny_pure ⟨Code.quiet_builtin _ (by decide +kernel), codeAny_builtin F.entry_type_call ?_⟩
  rw [Around.under_plain (weight_type_call_type "set" [.ref x] []) rfl]
  have e1 := F.called_set.notType
  have e2 := F.called_set.canCreate
  have e3 := F.typeCall_set_1 (.ref x)
  repeat (any_goals (first | assumption | wp_step))
  refine codeAny_mono (code_set_led1 (.ref x) (E := E) (Q₁ := fun ob t => ob = .ref s.heap.objs.size ∧ t = { s with heap := s.heap.push (emp w) }) ⟨rfl, rfl⟩) fun r t ht => ?_
  cases r with
  | error e => exact ht
  | ok fl =>
    cases fl with
    | ret ob =>
      obtain ⟨rfl, rfl⟩ := ht
      have at0 : (s.heap.push (emp w)).get? s.heap.objs.size = some (emp w) := Heap.get?_push_size _ rfl
      have ty0 : Shared.TypeIs { s with heap := s.heap.push (emp w) } (.ref s.heap.objs.size) "set" := ⟨_, at0, rfl⟩
      have i1 := F.called_set.init.lookup
      have i2 := F.called_set.init.bind (.ref s.heap.objs.size)
      repeat (any_goals (first | assumption | wp_step))
      refine codeAny_mono (codeAny_call_builtin (R := wants (fun r u => r = .none ∧ ∃ g tk c, u = { s with heap := g, toks := tk } ∧ SetR w g s.heap.objs.size (fun j => decide (j ∈ ks)) c ∧ c ≤ ks.length ∧
          (∀ b o, s.heap.get? b = some o → g.get? b = some o)) E) F.called_set.init.plain F.entry_set_init (check_set_init_1 ty0 ?_)) fun r2 u hu => ?_
      · obtain ⟨ol, hol, hcl, nl, hdl⟩ := lx
        obtain ⟨oc, od, odt, osl⟩ := ol
        simp only at hcl hdl
        subst hcl; subst hdl
        have hol1 : (s.heap.push (emp w)).get? x = some { cls := .type "list", dict := od, data := .seq vs nl, slots := osl } := Heap.get?_push_of_some _ hol
        have sb1 := F.sub_list_set
        have sb2 := F.sub_list_frozenset
        have sb3 : (Value.type "list" == Value.type "dict") = false := by decide
        have lx1 : (s.heap.push (emp w)).IsList x vs := ⟨_, hol1, rfl, nl, rfl⟩
        unfold Builtin.«set.__init__» noKeywords Builtin.Frozenset.updateFrom
        generalize hPI : pyIter = PI
        wp_walk
        subst hPI
        refine wpAny_pyIter_list lx1 ?_
        refine wpAny_bind (wpAny_runValue ?_)
        have xlt : x < s.heap.objs.size := Heap.lt_size hol
        have calm3 : A.in1.in1.in1.handled = none := by simp [calm]
        have sz1 : (s.heap.push (emp w)).objs.size = s.heap.objs.size + 1 := Heap.size_push ..
        have ne1 : x ≠ (s.heap.push (emp w)).objs.size := by rw [sz1]; exact Nat.ne_of_lt (Nat.lt_succ_of_lt xlt)
        have out1 : s.heap.objs.size ∉ [(s.heap.push (emp w)).objs.size, x] := by
          simp only [List.mem_cons, List.not_mem_nil, or_false, not_or]
          exact ⟨by rw [sz1]; exact Nat.ne_of_lt (Nat.lt_succ_self _), Nat.ne_of_gt xlt⟩
        have vals : ∀ (i : Nat) (v : Value), vs[i]? = some v → ∃ k t, ks[i]? = some k ∧ v = .int k t := fun i v hv => by
          have hi : i < ks.length := by rw [← vl]; exact (Array.getElem?_eq_some_iff.mp hv).1
          obtain ⟨t, e⟩ := PyProof.Rows.IntsAre.int_at areI i v (by rw [Array.getElem?_toList]; exact hv)
          refine ⟨ks[i], t, List.getElem?_eq_getElem hi, ?_⟩
          rw [e, List.getD_eq_getElem?_getD, List.getElem?_eq_getElem hi] <;> rfl
        refine set_update_ints ((Walks.list calm3 _ x ne1 vs).toS) s.heap.objs.size out1 ks vl room vals (vs.size - 0) 0 _ (by omega) (Nat.zero_le _) ⟨⟨_, Heap.get?_push_size _ rfl, rfl, rfl⟩, (lx1.push _)⟩ ?start ?ends
        case start =>
          have g1 : ((s.heap.push (emp w)).push { cls := .type "list_iterator", data := .fields #[.ref x, .int 0 0] }).get? s.heap.objs.size = some (emp w) := Heap.get?_push_of_some _ at0
          exact ⟨0, Nat.le_refl 0, setR_new_at g1⟩
        case ends =>
          intro u c mv hc hR
          obtain ⟨g, g2, d2, tk, os2⟩ := u
          have q1 : g2 = s.gens := mv.gens
          have q2 : d2 = s.drawn := mv.drawn
          have q3 : os2 = s.os := mv.os
          subst q1; subst q2; subst q3
          show wpAny _ _ _ _ _ _
          refine wpAny_pure ?_
          show wpAny _ _ (ret Value.none) _ _ _
          rw [vl] at hc
          refine wpAny_pure ⟨rfl, g, tk, c, rfl, hR, hc, fun b o e => ?_⟩
          have blt : b < s.heap.objs.size := Heap.lt_size e
          exact mv.heap b o (by simp only [List.mem_cons, List.mem_singleton, List.not_mem_nil, or_false, not_or]; exact ⟨Nat.ne_of_lt blt, by rw [Heap.size_push]; exact Nat.ne_of_lt (Nat.lt_succ_of_lt blt)⟩) (Heap.get?_push_of_some _ (Heap.get?_push_of_some _ e))
      · cases r2 with
        | error e => exact hu
        | ok fl2 =>
          cases fl2 with
          | ret r =>
            obtain ⟨rfl, g, tk, c, rfl, hR, hc, hk⟩ := hu
            repeat (any_goals (first | assumption | wp_step))
            exact fin _ _ _ hR hc hk
          | _ => exact hu.elim
    | _ => exact ht.elim
end
def rSetLi (K : PySem.W.Frag) (w : World) : List V → Hp → VK → Prop := fun vs H Q => ∃ (p : Addr) (ns : List Int), vs = [V.ref p] ∧ SqL K H p (ns.map V.int) ∧ ns.length ≤ 40 ∧
  ∀ (a : Addr) (c : Nat), c ≤ ns.length → H a = none → Q (.ref a) (upd H a (SetO w a (fun j => decide (j ∈ ns)) c))
theorem cr_setLi {X : Cx} (hc : X.calm = true) : CallR X (.type "set") (rSetLi X.K X.w) := by
  intro ps s σ H vs us Q J r hq
  obtain ⟨p, ns, ev, hs, h40, q⟩ := hq
  subst ev
  obtain ⟨u, eu, ru⟩ := vals1 r
  subst eu
  cases ru
  obtain ⟨its, rv, pl, hz⟩ := J.list hs
  have hi : IntsAre its.toArray.toList ns := ints_of_vals rv
  refine set_of_list ns (J.ok.hd hc) pl.isList hi (by unfold scanBound; omega) fun h' tk c R hcn kp => ?_
  exact ⟨.ref s.heap.objs.size, _, J.laid (t' := tk) kp (Nat.le_refl _) (setR_ok R), rfl, q _ c hcn (J.hok.fresh (Nat.le_refl _))⟩
theorem cr_setLK {X : Cx} (P : Program) (w : World) (K : PySem.W.Frag) (at_ : At X P w K) (hc : X.calm = true) : CallR X (.type "set") (rSetLi K w) := by
  obtain ⟨rfl, rfl, rfl⟩ := at_
  exact cr_setLi hc
end K14

/-! W38: (k,) * n; _law_plan. -/
namespace K14
open PySem PySem.Spec PyProof.Rows L2
theorem tup_mul1 (l : Addr) (vs : Array Value) (n : Nat) (dd : Option Addr) (sl : Array (Option Value)) (u : Tok) :
    Meets (Builtin.«tuple.__mul__» ⟨[.ref l, .int 1 u], []⟩) (fun _ R s => s.heap.get? l = some { cls := .type "tuple", dict := dd, data := .seq vs n, slots := sl } ∧ R (.ok (.ret (Value.ref l))) s) :=
  .of_wp fun prog w A R s h => by
    obtain ⟨hp, g, d, tk, os⟩ := s
    obtain ⟨hl, h⟩ := h
    have f1 := AutoSeq1.idx_int
    wp_walk using wpAny_loadPart' hl
    exact ⟨_, rfl, h⟩
def rRep1 (K : PySem.W.Frag) : R2 := fun x y H Q => ∃ l xs, x = .ref l ∧ y = .int 1 ∧ SqT K H l xs ∧ Q (.ref l) H
theorem op_rep1 {X : Cx} : OpR X (binaryOp .Mult) (rRep1 X.K) := by
  intro pins s σ H x y v u Q I rx ry h
  obtain ⟨l, xs, rfl, rfl, hT, q⟩ := h
  cases rx
  obtain ⟨t, rfl⟩ := ry
  obtain ⟨its, r, ⟨⟨cls, dd, data, sl⟩, ho, hc, n, hd⟩, hs⟩ := I.tuple hT
  simp only at hc hd
  subst hc hd
  exact wpAny_binaryOp_repeat_ref (T := "tuple") (U := "int") (by decide) ⟨_, ho, rfl⟩ (fun s' => typeIs_int s' 1 t) noFill_tuple_mul F.fills_int_mul F.slot_int_rmul repeat_tuple F.slot_int_index.lookup
    (call_meets F.slot_int_rmul (typeIs_int s 1 t) F.entry_int_rmul (F.args_int_rmul_2 _ _) (int_rmul_tuple 1 t l its.toArray n dd sl) ⟨ho, rfl, ⟨_, ho, rfl⟩, call_meets F.slot_tuple_mul ⟨_, ho, rfl⟩ F.entry_tuple_mul (F.args_tuple_mul_2 _ _) (tup_mul1 l its.toArray n dd sl t) ⟨ho, .ref l, H, I, rfl, q⟩⟩)
/-- (k,) * n, n at least 1 -/
def rRepZ (K : PySem.W.Frag) : R2 := fun x y H Q => ∃ k n, DV K H (.tup [k]) x ∧ y = iv n ∧ 1 ≤ n ∧ n ≤ 1000 ∧ ∀ u H', Same H H' → DV K H' (.tup (List.replicate n k)) u → Q u H'
theorem rep_one (n : Nat) (v : V) : (List.replicate n [v]).flatten = List.replicate n v := by
  induction n with
  | zero => rfl
  | succ n ih => rw [List.replicate_succ, List.flatten_cons, ih, List.replicate_succ]; rfl
theorem dvs_rep {K : PySem.W.Frag} {H : Hp} {k : NestedKey} {v : V} (d : DV K H k v) : ∀ n, DVs K H (List.replicate n k) (List.replicate n v)
  | 0 => dvs_nil
  | n + 1 => dvs_cons d (dvs_rep d n)
theorem op_repZ {X : Cx} : OpR X (binaryOp .Mult) (rRepZ X.K) := by
  intro pins s σ H x y v u Q I rx ry h
  obtain ⟨k, n, d, rfl, n1, n9, q⟩ := h
  obtain ⟨a, vs, rfl, sq, ds⟩ := of_tup d
  obtain ⟨z, r, rfl, dz, dr⟩ := of_cons ds
  have er := of_nil dr
  subst er
  by_cases m : n = 1
  · subst m
    exact op_rep1 pins s σ H _ _ _ _ Q I rx ry ⟨a, _, rfl, rfl, sq, q _ H (fun _ _ z => z) (dv_tup sq ds)⟩
  · refine op_repT pins s σ H _ _ _ _ Q I rx ry ⟨a, n, _, rfl, rfl, sq, by simp, by omega, by omega, (by show 1 ≤ 1000; decide), fun p hp => ?_⟩
    rw [Int.toNat_natCast, rep_one]
    exact q _ _ (same_new hp) (dv_tup (SqT.of upd_same) (dvs_rep (dz.tx (.new hp)) n))
theorem op_repZK {X : Cx} (P : Program) (w : World) (K : PySem.W.Frag) (at_ : At X P w K) : OpR X (binaryOp .Mult) (rRepZ K) := by
  obtain ⟨rfl, rfl, rfl⟩ := at_
  exact op_repZ
theorem all_ok {ks : List NestedKey} {m : Nat} (h : ∀ (i : Nat) k, ks[i]? = some k → ∃ x : Option Nat, (∀ g, x = some g → g < m) ∧ k = ok1 x) : ∃ r : List (Option Nat), ks = r.map ok1 ∧ ∀ x ∈ r, ∀ g, x = some g → g < m := by
  induction ks with
  | nil => exact ⟨[], rfl, fun x z => nomatch z⟩
  | cons k ks ih =>
    obtain ⟨x, h1, rfl⟩ := h 0 k rfl
    obtain ⟨l, rfl, hl⟩ := ih fun i k e => h (i + 1) k (by simpa using e)
    refine ⟨x :: l, rfl, fun y hy => ?_⟩
    rcases List.mem_cons.mp hy with z | z
    · rw [z]; exact h1
    · exact hl y z
theorem all_rows {ks : List NestedKey} {m c : Nat} (h : ∀ (i : Nat) k, ks[i]? = some k → ∃ r : List (Option Nat), r.length = c ∧ (∀ x ∈ r, ∀ g, x = some g → g < m) ∧ k = .tup (r.map ok1)) : ∃ rs : List (List (Option Nat)), ks = rs.map (fun r => .tup (r.map ok1)) ∧ ∀ r ∈ rs, r.length = c ∧ ∀ x ∈ r, ∀ g, x = some g → g < m := by
  induction ks with
  | nil => exact ⟨[], rfl, fun x z => nomatch z⟩
  | cons k ks ih =>
    obtain ⟨x, h1, h2, rfl⟩ := h 0 k rfl
    obtain ⟨l, rfl, hl⟩ := ih fun i k e => h (i + 1) k (by simpa using e)
    refine ⟨x :: l, rfl, fun y hy => ?_⟩
    rcases List.mem_cons.mp hy with z | z
    · rw [z]; exact ⟨h1, h2⟩
    · exact hl y z
section
variable {P : Program} {w : World} {K : PySem.W.Frag} {mg : Str → Option Value} {base : Heap} {C S : Addr} {tH tP : Tok} {f : Addr} {fd : FuncData}
theorem sc_L_plan : FnScope ["_law_box", "_law_handler_here", "_law_most", "_law_many", "_law_places", "_law_some", "_law_rows", "_law_ends", "_law_place", "_law_k"] ["_law_box", "_law_handler_here", "_law_most"] (defScope s_L_plan) := ⟨rfl, rfl, rfl, by decide +kernel, rfl, by decide +kernel, by decide +kernel⟩
def sp_lplan (K : PySem.W.Frag) : Sp := fun vs H Q _ => ∃ b g t h v, vs = [.ref b, v, iv 3] ∧ Hd.Ok h ∧ h.K ≤ 3 ∧ DV K H (hk h) v ∧ Bx K H b g t ∧ t ≤ 800000 ∧
  ∀ p u H', Pl.Ok p h.K → DV K H' (plk p) u → Sb b g H H' → Bx K H' b g (t + 60) → Q u H'
theorem ok_lplan (T : Txt K mg C S tH tP) (F : FnP K "_law_plan" "_law_plan" s_L_plan f fd) (g__law_draw : Ok P w K mg base "_law_draw" 1 ["_law_box", "_law_many"] (sp_draw K)) (g__law_one : Ok P w K mg base "_law_one" 2 ["_law_box", "_law_items"] (sp_one K)) :
    FnOk P w K mg base CX0 3 f fd ["_law_box", "_law_handler_here", "_law_most"] (sp_lplan K) := by
  refine F.ok sc_L_plan (fun vs H Q E h => ?_) (fun cdv A outer s H vs Q E hr h => ⟨_, PSs.nox ((pss_cons (ps_asg (pe_tup (pa_cons (pe_callB (cr_lenDK P w K ⟨rfl, rfl, rfl⟩) (by rfl) T.z_len (by decide +kernel) (pa_cons (pe_ix (ix_datK P w K ⟨rfl, rfl, rfl⟩) (pv 1) pe_int (fun _ _ => rfl)) pa_nil)) (pa_cons (pe_op op_add pe_int (pe_callO g__law_draw (hr.mono (by decide)) rfl (pa_cons (pv 0) (pa_cons (pv 2) pa_nil)))) pa_nil))) (pg_tupK (n := 2) P w K ⟨rfl, rfl, rfl⟩ (by rfl) (pgs_cons (pg_name (i := 3) sc_L_plan.nd rfl (.inr rfl)) (pgs_cons (pg_name (i := 4) sc_L_plan.nd rfl (.inr rfl)) pgs_nil))))
  (pss_cons (ps_if (pt_cmpR (op_deqK P w K ⟨rfl, rfl, rfl⟩ hr) (pe_callO g__law_draw (hr.mono (by decide)) rfl (pa_cons (pv 0) (pa_cons pe_int pa_nil))) pe_int (nomark _)) (pss_one (ps_ret (pe_tupDK P w K ⟨rfl, rfl, rfl⟩ (pa_cons (pe_tupDK P w K ⟨rfl, rfl, rfl⟩ (pa_cons pe_int pa_nil)) (pa_cons (pe_tupDK P w K ⟨rfl, rfl, rfl⟩ (pa_cons (pe_op (op_repZK P w K ⟨rfl, rfl, rfl⟩) (pe_tupDK P w K ⟨rfl, rfl, rfl⟩ (pa_cons pe_int pa_nil)) (pv 3)) pa_nil)) pa_nil))))) pss_nil)
  (pss_cons (ps_set (i := 5) sc_L_plan.nd rfl (.inr rfl) (pe_lst (pa_cons pe_non (pa_cons (pe_callO g__law_draw (hr.mono (by decide)) rfl (pa_cons (pv 0) (pa_cons (pv 4) pa_nil))) (pa_cons (pe_callO g__law_draw (hr.mono (by decide)) rfl (pa_cons (pv 0) (pa_cons (pv 4) pa_nil))) pa_nil)))))
  (pss_cons (ps_setLc (i := 6) (own := [("_law_place", 8)]) (by rfl) sc_L_plan.nd rfl rfl (sw_true rfl rfl rfl (by decide +kernel)) (pi_range1 rfl T.z_range (pa_cons (pv 4) pa_nil)) (blkOk_by (own := [("_law_place", 8)]) (N := ["_law_box", "_law_handler_here", "_law_most", "_law_many", "_law_places", "_law_some", "_law_rows", "_law_ends", "_law_place", "_law_k"]) (sc := defScope s_L_plan) (by decide +kernel)) (fun _ _ _ _ _ => (pg_name (i := 8) sc_L_plan.nd rfl (Or.inl rfl))) (fun _ _ _ _ _ => pts_nil) (fun _ _ _ _ _ => (pe_callTy (cr_tupOfK P w K ⟨rfl, rfl, rfl⟩) (by rfl) T.z_tuple (by decide +kernel) (pa_cons (pe_lc (own := [("_law_k", 9)]) (by rfl) sc_L_plan.nd (pi_range1 rfl T.z_range (pa_cons (pv 3) pa_nil)) (blkOk_by (own := [("_law_k", 9)]) (N := ["_law_box", "_law_handler_here", "_law_most", "_law_many", "_law_places", "_law_some", "_law_rows", "_law_ends", "_law_place", "_law_k"]) (sc := relS _ (defScope s_L_plan)) (by decide +kernel)) (fun _ _ _ _ _ => (pg_name (i := 9) sc_L_plan.nd rfl (Or.inl rfl))) (fun _ _ _ _ _ => pts_nil) (fun _ _ _ _ _ => (pe_callO g__law_one (hr.mono (by decide)) rfl (pa_cons (pv 0) (pa_cons (pe_op op_catS (pv 5) (pe_lst (pa_cons (pe_callO g__law_draw (hr.mono (by decide)) rfl (pa_cons (pv 0) (pa_cons (pv 4) pa_nil))) pa_nil))) pa_nil))))) pa_nil))))
  (pss_cons (ps_set (i := 7) sc_L_plan.nd rfl (.inl rfl) (pe_callB (cr_sortedSetK P w K ⟨rfl, rfl, rfl⟩ rfl) (by rfl) T.z_sorted (by decide +kernel) (pa_cons (pe_callTy (cr_setLK P w K ⟨rfl, rfl, rfl⟩ rfl) (by rfl) T.z_set (by decide +kernel) (pa_cons (pe_lc (own := [("_law_k", 9)]) (by rfl) sc_L_plan.nd (pi_range1 rfl T.z_range (pa_cons (pe_op op_add pe_int (pe_callO g__law_draw (hr.mono (by decide)) rfl (pa_cons (pv 0) (pa_cons (pv 4) pa_nil)))) pa_nil)) (blkOk_by (own := [("_law_k", 9)]) (N := ["_law_box", "_law_handler_here", "_law_most", "_law_many", "_law_places", "_law_some", "_law_rows", "_law_ends", "_law_place", "_law_k"]) (sc := defScope s_L_plan) (by decide +kernel)) (fun _ _ _ _ _ => (pg_name (i := 9) sc_L_plan.nd rfl (Or.inl rfl))) (fun _ _ _ _ _ => pts_nil) (fun _ _ _ _ _ => (pe_callO g__law_draw (hr.mono (by decide)) rfl (pa_cons (pv 0) (pa_cons (pv 4) pa_nil))))) pa_nil)) pa_nil)))
  (pss_one (ps_ret (pe_tupDK P w K ⟨rfl, rfl, rfl⟩ (pa_cons (pe_callTy (cr_tupOfK P w K ⟨rfl, rfl, rfl⟩) (by rfl) T.z_tuple (by decide +kernel) (pa_cons (pv 7) pa_nil)) (pa_cons (pe_callTy (cr_tupOfK P w K ⟨rfl, rfl, rfl⟩) (by rfl) T.z_tuple (by decide +kernel) (pa_cons (pv 6) pa_nil)) pa_nil))))))))))), ?_⟩)
  · obtain ⟨b, g, t, h, v, rfl, _⟩ := h
    rfl
  obtain ⟨b, g, t, h, v, rfl, o, k3, dh, B, tl, q⟩ := h
  have small : 2000 < sizeLine := by decide
  have k1 := o.k1
  have eK : (h.kinds.map kk1).length = h.K := by rw [List.length_map]; rfl
  refine ⟨v, rfl, _, 1, _, dh, rfl, rfl, fun v2 d2 => ⟨_, _, rfl, d2, .ref b, rfl, iv 3, rfl, b, g, t, 3, rfl, by decide, by decide, B, by omega, fun d0 H1 l0 s1 B1 => ⟨1, d0, rfl, rfl, (by show 2 ≤ sizeLine; decide), fun T1 hT1 => ?_⟩⟩⟩
  rw [eK]
  obtain ⟨m, em⟩ : ∃ m : Nat, m = h.K := ⟨_, rfl⟩
  obtain ⟨n, en⟩ : ∃ n : Nat, n = 1 + d0 := ⟨_, rfl⟩
  have en2 : V.int (1 + (d0 : Int)) = iv n := by
    show V.int (1 + (d0 : Int)) = V.int (n : Int)
    rw [en, Int.natCast_add]
    rfl
  dsimp only
  rw [en2, ← em]
  have n0 : 0 < n := by omega
  have n3 : n ≤ 3 := by omega
  have m1 : 1 ≤ m := by omega
  have m3 : m ≤ 3 := by omega
  refine ⟨T1, _, rfl, SqT.of upd_same, rfl, iv m, [iv n], rfl, iv n, [], rfl, rfl, ?_⟩
  have B2 := B1.same (same_new (o := .tup [iv m, iv n]) hT1)
  have s2 : Sb b g H (upd H1 T1 (.tup [iv m, iv n])) := s1.trans (.of (same_new hT1))
  generalize upd H1 T1 (.tup [iv m, iv n]) = H2 at B2 s2 ⊢
  refine ⟨.ref b, rfl, b, g, t + 1, 5, rfl, by decide, by decide, B2, by omega, fun wy H3 l3 s3 B3 => ⟨nk wy, nk 0, dv_nk, dv_nk, sm_nk _, sm_nk _, _, rfl, ?_⟩⟩
  have s03 := s2.trans s3
  by_cases w0 : wy = 0
  · rw [decide_eq_true (by rw [w0])]
    refine iteT ⟨[nk 0], dvs_cons dv_nk dvs_nil, (by show 1 ≤ sizeLine; decide), fun e1 H4 s4 de1 => ⟨[nk 0], dvs_cons dv_nk dvs_nil, (by show 1 ≤ sizeLine; decide), fun e2 H5 s5 de2 => ⟨iv m, rfl, nk 0, m, de2, rfl, m1, by omega, fun u H6 s6 du => ⟨[_], dvs_cons du dvs_nil, (by show 1 ≤ sizeLine; decide), fun e3 H7 s7 de3 => ⟨[_, _], dvs_cons (de1.tx (.same (sametr s5 (sametr s6 s7)))) (dvs_cons de3 dvs_nil), (by show 2 ≤ sizeLine; decide), fun u8 H8 s8 du8 => ?_⟩⟩⟩⟩⟩
    have ss := sametr s4 (sametr s5 (sametr s6 (sametr s7 s8)))
    refine q ⟨[0], [List.replicate m (some 0)]⟩ u8 H8 ⟨by show 1 ≤ 1; decide, by show 1 ≤ 3; decide, fun r hr => ?_, by simp, by simp, fun e he => ?_⟩ ?_ (s03.trans (.of ss)) ((B3.same ss).le (by omega))
    · have er : r = List.replicate m (some 0) := by simpa using hr
      subst er
      refine ⟨by rw [List.length_replicate, em], fun x hx y hy => ?_⟩
      rw [(List.mem_replicate.mp hx).2] at hy
      cases hy
      show 0 < 1
      decide
    · have ee : e = 0 := by simpa using he
      rw [ee]
      show 0 < 1
      decide
    · show DV K H8 (.tup [.tup [nk 0], .tup [.tup ((List.replicate m (some 0)).map ok1)]]) u8
      rw [List.map_replicate]
      exact du8
  rw [decide_eq_false fun z => w0 (nk_inj z)]
  refine iteF ⟨.ref b, rfl, iv n, rfl, b, g, _, n, rfl, n0, by omega, B3, by omega, fun d1 H4 l4 s4 B4 => ⟨.ref b, rfl, iv n, rfl, b, g, _, n, rfl, n0, by omega, B4, by omega, fun d2 H5 l5 s5 B5 => ⟨(by show 3 ≤ sizeLine; decide), fun so hso => ?_⟩⟩⟩
  obtain ⟨sob, sog⟩ := B5.ne hso
  have B6 := B5.same (same_new (o := .lst [.non, iv d1, iv d2]) hso)
  have s6 : Sb b g H (upd H5 so (.lst [.non, iv d1, iv d2])) := ((s03.trans s4).trans s5).trans (.of (same_new hso))
  have hso6 : (upd H5 so (.lst [.non, iv d1, iv d2])) so = some (.lst [.non, iv d1, iv d2]) := upd_same
  generalize upd H5 so (.lst [.non, iv d1, iv d2]) = H6 at B6 s6 hso6 ⊢
  refine ⟨iv n, rfl, (n : Int), rfl, by omega, by omega, fun D hD => lc_box (K := K) walk_range b g (t + 1 + 1 + 1 + 1) 6 (fun _ k => ∃ r : List (Option Nat), r.length = m ∧ (∀ x ∈ r, ∀ g, x = some g → g < n) ∧ k = .tup (r.map ok1)) B6 hD (by rw [Int.toNat_natCast]; omega) (fun _ _ _ => trivial) (fun i x H7 H8 Nx hi s7 t7 B7 y yes => ?_) (fun H7 us ks s7 t7 B7 hD7 ds kl kp => ?_)⟩
  · obtain ⟨rfl, _⟩ := y
    rw [Int.toNat_natCast] at hi
    refine ⟨rfl, iv m, rfl, (m : Int), rfl, by omega, by omega, fun D2 hD2 => lc_box (K := K) walk_range b g (t + 1 + 1 + 1 + 1 + 6 * i) 2 (fun _ k => ∃ x : Option Nat, (∀ g, x = some g → g < n) ∧ k = ok1 x) B7 hD2 (by rw [Int.toNat_natCast]; omega) (fun _ _ _ => trivial) (fun i2 x2 H9 H10 Nx2 hi2 s9 t9 B9 y2 yes2 => ?_) (fun H9 us9 ks9 s9 t9 B9 hD9 ds9 kl9 kp9 => ?_)⟩
    · obtain ⟨rfl, _⟩ := y2
      rw [Int.toNat_natCast] at hi2
      refine ⟨rfl, .ref b, rfl, .ref so, rfl, .ref b, rfl, iv n, rfl, b, g, _, n, rfl, n0, by omega, B9, by omega, fun d H11 dl s11 B11 => ⟨(by show 1 ≤ sizeLine; decide), fun l1 hl1 => ⟨so, l1, [.non, iv d1, iv d2], [iv d], rfl, rfl, .inl ?_, .inl upd_same, (by show 4 ≤ sizeLine; decide), fun it hit => ?_⟩⟩⟩
      · exact same_new hl1 _ _ (s11 _ _ (s9 _ _ (s7 _ _ hso6 sob sog) sob sog) sob sog)
      have B12 := (B11.same (same_new (o := .lst [iv d]) hl1)).same (same_new (o := .lst ([.non, iv d1, iv d2] ++ [iv d])) hit)
      obtain ⟨ib, ig⟩ := (B11.same (same_new (o := .lst [iv d]) hl1)).ne hit
      refine ⟨b, g, _, it, [.non, iv d1, iv d2, iv d], [.none, nk d1, nk d2, nk d], rfl, B12, by omega, upd_same, ib, ig, dvs_cons dv_non (dvs_cons dv_nk (dvs_cons dv_nk (dvs_cons dv_nk dvs_nil))), (by show 0 < 4; decide), (by show 4 ≤ 900; decide), fun k v H13 km dv s13 B13 => ?_⟩
      refine yes2 k v H13 ?_ (((s11.trans (.of (same_new hl1))).trans (.of (same_new hit))).trans s13) (B13.le (by omega)) dv
      simp only [List.mem_cons, List.not_mem_nil, or_false] at km
      rcases km with z | z | z | z
      · exact ⟨none, fun g e => (nomatch e), z⟩
      · exact ⟨some d1, fun g e => by cases e; exact l4, z⟩
      · exact ⟨some d2, fun g e => by cases e; exact l5, z⟩
      · exact ⟨some d, fun g e => by cases e; exact dl, z⟩
    · obtain ⟨r, rfl, rb⟩ := all_ok kp9
      rw [Int.toNat_natCast] at kl9 B9
      rw [List.length_map] at kl9
      exact ⟨D2, us9, _, rfl, SqL.of hD9, ds9, fun rv H10 s10 drv => yes _ rv H10 ⟨r, kl9, rb, rfl⟩ (s9.trans (.of s10)) ((B9.same s10).le (by omega)) drv⟩
  obtain ⟨rows, rfl, rb⟩ := all_rows kp
  rw [Int.toNat_natCast] at kl B7
  rw [List.length_map] at kl
  obtain ⟨Db, Dg⟩ := B6.ne hD
  have B7' : Bx K H7 b g (t + 30) := B7.le (by omega)
  have s07 := s6.trans s7
  refine ⟨.ref b, rfl, iv n, rfl, b, g, _, n, rfl, n0, by omega, B7', by omega, fun d7 H8 dl8 s8 B8 => ⟨1, d7, rfl, rfl, 1 + (d7 : Int), rfl, by omega, by omega, fun D2 hD2 => ?_⟩⟩
  have e7 : (1 + (d7 : Int)).toNat = 1 + d7 := by omega
  refine lc_box (K := K) walk_range b g (t + 30 + 1) 1 (fun _ k => ∃ x, x < n ∧ k = nk x) B8 hD2 (by omega) (fun _ _ _ => trivial) (fun i x H9 H10 Nx hi s9 t9 B9 y yes => ?_) (fun H9 us9 ks9 s9 t9 B9 hD9 ds9 kl9 kp9 => ?_)
  · obtain ⟨rfl, _⟩ := y
    rw [e7] at hi
    exact ⟨rfl, .ref b, rfl, iv n, rfl, b, g, _, n, rfl, n0, by omega, B9, by omega, fun d H11 dl s11 B11 => yes (nk d) (iv d) H11 ⟨d, dl, rfl⟩ s11 (B11.le (by omega)) dv_nk⟩
  obtain ⟨es, rfl, eb⟩ := all_nk kp9
  rw [e7] at kl9 B9
  rw [List.length_map] at kl9
  have eu := of_nks ds9
  subst eu
  have e1 : es.map iv = (es.map fun n : Nat => (n : Int)).map V.int := by
    rw [List.map_map]
    rfl
  refine ⟨D2, es.map fun n : Nat => (n : Int), rfl, by rw [← e1]; exact SqL.of hD9, by rw [List.length_map]; omega, fun a c hc ha => ⟨a, _, c, rfl, upd_same, by rw [List.length_map] at hc; omega, fun ns p hs hm hl hp => ?_⟩⟩
  have hm' : ∀ k, k ∈ ns ↔ k ∈ es.map fun n : Nat => (n : Int) := fun k => by rw [hm]; exact decide_eq_true_iff
  obtain ⟨ls, el, ll⟩ : ∃ ls : List Nat, ns = ls.map (fun n : Nat => (n : Int)) ∧ True := by
    refine ⟨ns.map Int.toNat, ?_, trivial⟩
    rw [List.map_map]
    conv => lhs; rw [← List.map_id ns]
    refine List.map_congr_left fun k hk => ?_
    obtain ⟨z, _, rfl⟩ := List.mem_map.mp ((hm' k).mp hk)
    show (z : Int) = ((z : Int).toNat : Int)
    rw [Int.toNat_natCast]
  have mem : ∀ k, k ∈ ls ↔ k ∈ es := fun k => by
    have z := hm' (k : Int)
    rw [el, List.mem_map, List.mem_map] at z
    constructor
    · intro hk
      obtain ⟨j, hj, e⟩ := z.mp ⟨k, hk, rfl⟩
      rw [← Int.ofNat.inj e]; exact hj
    · intro hk
      obtain ⟨j, hj, e⟩ := z.mpr ⟨k, hk, rfl⟩
      rw [← Int.ofNat.inj e]; exact hj
  have asc : ls.Pairwise (· < ·) := by
    rw [el] at hs
    exact (List.pairwise_map.mp hs).imp fun z => by omega
  have lne : ls ≠ [] := fun e => by
    cases es with
    | nil =>
      simp only [List.length_nil] at kl9
      omega
    | cons z zs =>
      have := (mem z).mpr List.mem_cons_self
      rw [e] at this
      exact nomatch this
  have e2 : ns.map V.int = ls.map iv := by
    rw [el, List.map_map]
    rfl
  rw [e2]
  have sa := same_new (o := SetO w a (fun j => decide (j ∈ es.map fun n : Nat => (n : Int))) c) ha
  have sp := same_new (o := .lst (ls.map iv)) hp
  have Bz := (B9.same sa).same sp
  have hD10 := sp _ _ (sa _ _ (s9 _ _ (s8 _ _ hD7 Db Dg) Db Dg))
  have t10 : TX H7 (upd (upd H9 a (SetO w a (fun j => decide (j ∈ es.map fun n : Nat => (n : Int))) c)) p (.lst (ls.map iv))) := (((s8.trans s9).trans (.of (b := b) (g := g) sa)).trans (.of sp)).tx B7
  have s10 : Sb b g H (upd (upd H9 a (SetO w a (fun j => decide (j ∈ es.map fun n : Nat => (n : Int))) c)) p (.lst (ls.map iv))) := (((s07.trans s8).trans s9).trans (.of sa)).trans (.of sp)
  have hp10 : (upd (upd H9 a (SetO w a (fun j => decide (j ∈ es.map fun n : Nat => (n : Int))) c)) p (.lst (ls.map iv))) p = some (.lst (ls.map iv)) := upd_same
  generalize upd (upd H9 a (SetO w a (fun j => decide (j ∈ es.map fun n : Nat => (n : Int))) c)) p (.lst (ls.map iv)) = H10 at Bz hD10 t10 s10 hp10 ⊢
  refine ⟨.ref p, rfl, p, _, ls.map nk, rfl, SqL.of hp10, dvs_nks, fun ev H11 s11 dev => ⟨.ref D, rfl, D, us, _, rfl, SqL.of (s11 _ _ hD10), (ds.tx t10).tx (.same s11), fun rv H12 s12 drv => ⟨[_, _], dvs_cons (dev.tx (.same s12)) (dvs_cons drv dvs_nil), (by show 2 ≤ sizeLine; decide), fun u H13 s13 du => ?_⟩⟩⟩
  have ss := sametr s11 (sametr s12 s13)
  refine q ⟨ls, rows⟩ u H13 ⟨by show 1 ≤ rows.length; omega, by show rows.length ≤ 3; omega, fun r hr => ?_, lne, asc, fun e he => ?_⟩ du (s10.trans (.of ss)) ((Bz.same ss).le (by omega))
  · obtain ⟨h1, h2⟩ := rb r hr
    refine ⟨by omega, fun x hx y hy => ?_⟩
    have := h2 x hx y hy
    show y < rows.length
    omega
  · have := eb e ((mem e).mp he)
    show e < rows.length
    omega
end
end K14

/-! W39: law. -/
namespace K14
open PySem PySem.Spec PyProof.Rows L2
theorem ends_len {p : Pl} {K : Nat} (o : p.Ok K) : p.ends.length ≤ 6 := by
  have nd : p.ends.Nodup := o.asc.imp fun z e => by omega
  have z := nodup_len nd (m := List.range p.rows.length) fun x hx => List.mem_range.mpr (o.lt x hx)
  rw [List.length_range] at z
  have := o.r3
  omega
theorem sm_wrong (l : List Nat) (od : Option (List Nat)) : Sm (.tup [.text "log", lk l, olk od]) := by
  have h1 : ∀ od, (olk od).depth ≤ 1 := fun od => by
    cases od with
    | none => simp [olk, NestedKey.depth]
    | some m => exact Nat.le_of_eq (lk_depth m)
  have h2 : ∀ od, noTx (olk od) = true := fun od => by
    cases od with
    | none => simp [olk, noTx]
    | some m => exact noTxs_nks m
  have e : (NestedKey.tup [.text "log", lk l, olk od]).depth ≤ 2 := by
    show max (NestedKey.depth (.text "log")) (max (lk l).depth (max (olk od).depth 0)) + 1 ≤ 2
    have := h1 od
    rw [lk_depth l]
    simp only [NestedKey.depth]
    omega
  refine ⟨by omega, ?_⟩
  show ((NestedKey.tup [.text "log", lk l, olk od]).data.canLay0 && decide ((NestedKey.tup [.text "log", lk l, olk od]).data.depth ≤ 64)) = true
  rw [data_depth, decide_eq_true (by omega), Bool.and_true]
  have z1 := data_lay (lk l) (noTxs_nks l)
  have z2 := data_lay (olk od) (h2 od)
  simp only [NestedKey.data, NestedKey.datas, PyData.canLay0, PyData.canLayAll0, z1, z2, Bool.and_true]
  decide +kernel
theorem wrong_same {K : PySem.W.Frag} {h L : Hd} {φ : Nat → Nat} {p : Pl} (m : Morph h L φ) (oh : h.Ok) (oL : L.Ok) (o : p.Ok h.K) {H1 H2 : Hp} {T1 T2 : Addr} (t : TX H1 H2) (w1 : WrongAt K L p H1 T1) (w2 : WrongAt K h p H2 T2) :
    (∃ x y, SqT K H2 T1 [.str "safe", x] ∧ SqT K H2 T2 [.str "safe", y]) ∨ ∃ l od x1 x2 y1 y2, SqT K H2 T1 [.str "log", x1, x2] ∧ SqT K H2 T2 [.str "log", y1, y2] ∧ DV K H2 (.tup [.text "log", lk l, olk od]) (.ref T1) ∧ DV K H2 (.tup [.text "log", lk l, olk od]) (.ref T2) := by
  have sq : ∀ {l od T}, DV K H2 (.tup [.text "log", lk l, olk od]) (.ref T) → ∃ x y, SqT K H2 T [.str "log", x, y] := fun d => by
    obtain ⟨a, vs, e, q, ds⟩ := of_tup d
    cases e
    obtain ⟨v1, r1, rfl, d1, ds⟩ := of_cons ds
    obtain ⟨v2, r2, rfl, d2, ds⟩ := of_cons ds
    obtain ⟨v3, r3, rfl, d3, ds⟩ := of_cons ds
    have := of_nil ds
    subst this
    have e1 : v1 = .str "log" := by unfold DV at d1; exact d1
    subst e1
    exact ⟨_, _, q⟩
  rcases w1 with ⟨f1, x, s1⟩ | ⟨l1, f1, _, _, d1⟩
  · rcases w2 with ⟨f2, y, s2⟩ | ⟨l2, f2, _, _, d2⟩
    · exact .inl ⟨x, y, sqT_tx t s1, s2⟩
    · have := firstWrong_mp m o f2 f1
      cases this
  · rcases w2 with ⟨f2, y, s2⟩ | ⟨l2, f2, _, _, d2⟩
    · have := firstWrong_mp m o f2 f1
      cases this
    · have e := firstWrong_mp m o f2 f1
      cases e
      have eo : orderOf L l1 (fun o => o < L.n ∧ ¬ Alike L o (L.run 0 l1)) = orderOf h l1 (fun o => o < h.n ∧ ¬ Alike h o (h.run 0 l1)) := by
        refine orderOf_mp m fun s hs => ?_
        rw [m.behind l1]
        constructor
        · rintro ⟨_, z⟩
          exact ⟨m.lt s hs, fun a => z ((m.alike hs ⟨l1, rfl⟩).mpr a)⟩
        · rintro ⟨_, z⟩
          exact ⟨hs.lt oh, fun a => z ((m.alike hs ⟨l1, rfl⟩).mp a)⟩
      rw [eo] at d1
      obtain ⟨x1, x2, q1⟩ := sq (d1.tx t)
      obtain ⟨y1, y2, q2⟩ := sq d2
      exact .inr ⟨l1, _, x1, x2, y1, y2, q1, q2, d1.tx t, d2⟩
section
variable {P : Program} {w : World} {K : PySem.W.Frag} {mg : Str → Option Value} {base : Heap} {C S : Addr} {tH tP : Tok} {f : Addr} {fd : FuncData}
theorem sc_law : FnScope ["_law_script", "_law_box", "_law_turn", "_law_handler_here", "_law_states", "_law_k", "_law_least", "_law_classes", "_law_names", "_law_one_here", "_law_other", "_law_same", "_law_state", "_law_plan_here", "_law_told", "_law_due"] ["_law_script"] (defScope s_law) := ⟨rfl, rfl, rfl, by decide +kernel, rfl, by decide +kernel, by decide +kernel⟩
def sp_law (K : PySem.W.Frag) : Sp := fun vs H Q _ => ∃ a, ∃ ns : List Int, vs = [.ref a] ∧ SqL K H a (ns.map V.int) ∧ ns.length ≤ 80 ∧ ∀ H', Q (.bl true) H'
theorem ok_law {ek : V} (T : Txt K mg C S tH tP) (F : FnP K "law" "law" s_law f fd) (dk : ∀ H, DV K H (lk []) ek)
    (g__law_opened : Ok P w K mg base "_law_opened" 1 ["_law_script"] (sp_opened K)) (g__law_draw : Ok P w K mg base "_law_draw" 1 ["_law_box", "_law_many"] (sp_draw K))
    (g__law_handler : Ok P w K mg base "_law_handler" 3 ["_law_box", "_law_most", "_law_many"] (sp_lhandler K)) (g__law_plan : Ok P w K mg base "_law_plan" 3 ["_law_box", "_law_handler_here", "_law_most"] (sp_lplan K))
    (g__law_log : Ok P w K mg base "_law_log" 2 ["_law_box", "_law_handler_here", "_law_most"] (sp_llog K)) (g__law_parted_right : Ok P w K mg base "_law_parted_right" 4 ["_law_handler_here", "_law_one_here", "_law_other"] (sp_parted K))
    (g_least_handler : Ok P w K mg base "least_handler" 3 ["handler"] (sp_least_handler K)) (g_alike_classes : Ok P w K mg base "alike_classes" 2 ["handler"] (sp_alike_classes K)) (g_state_behind : Ok P w K mg base "state_behind" 4 ["handler", "log"] (sp_state_behind K))
    (g_reached_states : Ok P w K mg base "reached_states" 2 ["handler"] (sp_reached_states K)) (g_first_log : Ok P w K mg base "first_log" 3 ["handler", "state"] (sp_first_log K)) (g_is_plan : Ok P w K mg base "is_plan" 4 ["handler", "value"] (sp_is_plan K))
    (g_find_wrong : OkD P w K mg base "find_wrong" 7 ["handler", "plan", "hold", "orderly", "kept"] [.bl false, ek] (sp_find_wrong K)) : FnOk P w K mg base CX0 8 f fd ["_law_script"] (sp_law K) := by
  refine F.ok sc_law (fun vs H Q E h => ?_) (fun cdv A outer s H vs Q E hr h => ⟨_, PSs.nox ((pss_cons (ps_set (i := 1) sc_law.nd rfl (.inl rfl) (pe_callO g__law_opened (hr.mono (by decide)) rfl (pa_cons (pv 0) pa_nil)))
  (pss_cons (ps_for PassesOwn.never rfl (pi_range1 rfl T.z_range (pa_cons pe_int pa_nil)) (pg_name (i := 2) sc_law.nd rfl (.inl rfl))
    (pss_cons (ps_set (i := 3) sc_law.nd rfl (.inl rfl) (pe_callO g__law_handler (hr.mono (by decide)) rfl (pa_cons (pv 1) (pa_cons (pe_ix (ix_listK P w K ⟨rfl, rfl, rfl⟩) (pe_lst (pa_cons pe_int (pa_cons pe_int pa_nil))) (pe_op op_mod (pv 2) pe_int) (fun _ _ => rfl)) (pa_cons (pe_ix (ix_listK P w K ⟨rfl, rfl, rfl⟩) (pe_lst (pa_cons pe_int (pa_cons pe_int pa_nil))) (pe_op op_mod (pv 2) pe_int) (fun _ _ => rfl)) pa_nil)))))
  (pss_cons (ps_set (i := 4) sc_law.nd rfl (.inl rfl) (pe_callB (cr_lenDK P w K ⟨rfl, rfl, rfl⟩) (by rfl) T.z_len (by decide +kernel) (pa_cons (pe_ix (ix_datK P w K ⟨rfl, rfl, rfl⟩) (pv 3) pe_int (fun _ _ => rfl)) pa_nil)))
  (pss_cons (ps_for PassesOwn.never rfl (pi_range1 rfl T.z_range (pa_cons pe_int pa_nil)) (pg_name (i := 5) sc_law.nd rfl (.inl rfl))
    (pss_one (ps_if (pt_not (pt_val (pe_callO g__law_parted_right (hr.mono (by decide)) rfl (pa_cons (pv 3) (pa_cons (pe_callO g__law_draw (hr.mono (by decide)) rfl (pa_cons (pv 1) (pa_cons (pv 4) pa_nil))) (pa_cons (pe_callO g__law_draw (hr.mono (by decide)) rfl (pa_cons (pv 1) (pa_cons (pv 4) pa_nil))) pa_nil)))))) (pss_one (ps_ret pe_bl)) pss_nil)))
  (pss_cons (ps_par (i := 6) (j := 7) (by rfl) sc_law.nd rfl rfl (by decide) rfl rfl (pa_cons (pe_callO g_least_handler (hr.mono (by decide)) rfl (pa_cons (pv 3) pa_nil)) (pa_cons (pe_callO g_alike_classes (hr.mono (by decide)) rfl (pa_cons (pv 3) pa_nil)) pa_nil)) (by rfl))
  (pss_cons (ps_set (i := 8) sc_law.nd rfl (.inl rfl) (pe_callO g_alike_classes (hr.mono (by decide)) rfl (pa_cons (pv 6) pa_nil)))
  (pss_cons (ps_for PassesOwn.never rfl (pi_range1 rfl T.z_range (pa_cons pe_int pa_nil)) (pg_name (i := 5) sc_law.nd rfl (.inl rfl))
    (pss_cons (ps_par (i := 9) (j := 10) (by rfl) sc_law.nd rfl rfl (by decide) rfl rfl (pa_cons (pe_callO g__law_log (hr.mono (by decide)) rfl (pa_cons (pv 1) (pa_cons (pv 3) (pa_cons pe_int pa_nil)))) (pa_cons (pe_callO g__law_log (hr.mono (by decide)) rfl (pa_cons (pv 1) (pa_cons (pv 3) (pa_cons pe_int pa_nil)))) pa_nil)) (by rfl))
  (pss_cons (ps_set (i := 11) sc_law.nd rfl (.inl rfl) (pe_cmpR (op_deqK P w K ⟨rfl, rfl, rfl⟩ hr) (pe_ix (ix_datK P w K ⟨rfl, rfl, rfl⟩) (pv 7) (pe_callO g_state_behind (hr.mono (by decide)) rfl (pa_cons (pv 3) (pa_cons (pv 9) pa_nil))) (fun _ _ => rfl)) (pe_ix (ix_datK P w K ⟨rfl, rfl, rfl⟩) (pv 7) (pe_callO g_state_behind (hr.mono (by decide)) rfl (pa_cons (pv 3) (pa_cons (pv 10) pa_nil))) (fun _ _ => rfl)) (nomark _)))
  (pss_one (ps_if (pt_cmpR op_ne (pv 11) (pe_cmpR (op_deqK P w K ⟨rfl, rfl, rfl⟩ hr) (pe_ix (ix_datK P w K ⟨rfl, rfl, rfl⟩) (pv 8) (pe_callO g_state_behind (hr.mono (by decide)) rfl (pa_cons (pv 6) (pa_cons (pv 9) pa_nil))) (fun _ _ => rfl)) (pe_ix (ix_datK P w K ⟨rfl, rfl, rfl⟩) (pv 8) (pe_callO g_state_behind (hr.mono (by decide)) rfl (pa_cons (pv 6) (pa_cons (pv 10) pa_nil))) (fun _ _ => rfl)) (nomark _)) (nomark _)) (pss_one (ps_ret pe_bl)) pss_nil)))))
  (pss_cons (ps_for PassesOwn.never rfl (pi_TDK P w K ⟨rfl, rfl, rfl⟩ (pe_callO g_reached_states (hr.mono (by decide)) rfl (pa_cons (pv 3) pa_nil))) (pg_name (i := 12) sc_law.nd rfl (.inl rfl))
    (pss_one (ps_if (pt_cmpR (op_dneK P w K ⟨rfl, rfl, rfl⟩ hr) (pe_callO g_state_behind (hr.mono (by decide)) rfl (pa_cons (pv 3) (pa_cons (pe_callO g_first_log (hr.mono (by decide)) rfl (pa_cons (pv 3) (pa_cons (pv 12) pa_nil))) pa_nil))) (pv 12) (nomark _)) (pss_one (ps_ret pe_bl)) pss_nil)))
  (pss_one (ps_if (pt_cmpR op_eq (pe_op op_mod (pv 2) pe_int) pe_int (nomark _)) (pss_cons (ps_set (i := 13) sc_law.nd rfl (.inl rfl) (pe_callO g__law_plan (hr.mono (by decide)) rfl (pa_cons (pv 1) (pa_cons (pv 3) (pa_cons pe_int pa_nil)))))
  (pss_cons (ps_par (i := 14) (j := 15) (by rfl) sc_law.nd rfl rfl (by decide) rfl rfl (pa_cons (pe_callOD g_find_wrong (hr.mono (by decide)) rfl (pa_cons (pv 6) (pa_cons (pv 13) (pa_cons pe_int pa_nil)))) (pa_cons (pe_callOD g_find_wrong (hr.mono (by decide)) rfl (pa_cons (pv 3) (pa_cons (pv 13) (pa_cons pe_int pa_nil)))) pa_nil)) (by rfl))
  (pss_one (ps_if (PW.pt (pw_or (pt_not (pt_val (pe_callO g_is_plan (hr.mono (by decide)) rfl (pa_cons (pv 6) (pa_cons (pv 13) pa_nil))))) (pw_or (pt_cmpR op_ne (pe_ix (ix_tupK P w K ⟨rfl, rfl, rfl⟩) (pv 14) pe_int (fun _ _ => rfl)) (pe_ix (ix_tupK P w K ⟨rfl, rfl, rfl⟩) (pv 15) pe_int (fun _ _ => rfl)) (nomark _)) (pw_or1 (PW.pt (pw_and (pt_cmpR op_eq (pe_ix (ix_tupK P w K ⟨rfl, rfl, rfl⟩) (pv 14) pe_int (fun _ _ => rfl)) pe_str (nomark _)) (pw_and1 (pt_cmpR (op_dneK P w K ⟨rfl, rfl, rfl⟩ hr) (pv 14) (pv 15) (nomark _))))))))) (pss_one (ps_ret pe_bl)) pss_nil)))) pss_nil))))))))))
  (pss_one (ps_ret pe_bl))))), ?_⟩)
  · obtain ⟨a, ns, rfl, _⟩ := h
    rfl
  obtain ⟨a, ns, rfl, sq, nl, q⟩ := h
  have small : 2000 < sizeLine := by decide
  refine ⟨.ref a, rfl, a, ns, rfl, sq, nl, fun b g H1 B1 => ⟨10, rfl, by decide, by decide, for_it walk_range (fun i σ H' => ∃ y2 y3 y4 y5 y6 y7 y8 y9 y10 y11 y12 y13 y14 y15, Bx K H' b g (2000 * i) ∧ σ = [some (.ref a), some (.ref b), y2, y3, y4, y5, y6, y7, y8, y9, y10, y11, y12, y13, y14, y15])
    ⟨_, _, _, _, _, _, _, _, _, _, _, _, _, _, B1, rfl⟩ (fun _ _ _ _ _ => trivial) (fun i x σ H2 H3 hi p y => ?_) (fun σ H2 p => ?_)⟩⟩
  · obtain ⟨y2, y3, y4, y5, y6, y7, y8, y9, y10, y11, y12, y13, y14, y15, B2, rfl⟩ := p
    obtain ⟨rfl, ex⟩ := y
    have ex' := range_x ex
    subst ex'
    have hi' : i < 10 := hi
    obtain ⟨most, many, am, ak, m2, m8, k1, k6, odd⟩ : ∃ most many : Nat, atI [V.int 8, V.int 4] ((i : Int) % 2) = some (iv most) ∧ atI [V.int 6, V.int 3] ((i : Int) % 2) = some (iv many) ∧ 2 ≤ most ∧ most ≤ 8 ∧ 1 ≤ many ∧ many ≤ 6 ∧ ((i : Int) % 2 = 1 → most = 4 ∧ many = 3) := by
      rcases (show (i : Int) % 2 = 0 ∨ (i : Int) % 2 = 1 by omega) with e | e
      · rw [e]
        exact ⟨8, 6, rfl, rfl, by decide, by decide, by decide, by decide, fun z => absurd z (by decide)⟩
      · rw [e]
        exact ⟨4, 3, rfl, rfl, by decide, by decide, by decide, by decide, fun _ => ⟨rfl, rfl⟩⟩
    refine ⟨.ref b, rfl, (by show 2 ≤ sizeLine; decide), fun l1 hl1 => ⟨iv i, rfl, _, 2, rfl, rfl, (by show (0 : Int) < 2; decide), l1, _, _, iv most, rfl, rfl, SqL.of upd_same, am, (by show 2 ≤ sizeLine; decide), fun l2 hl2 => ⟨iv i, rfl, _, 2, rfl, rfl, (by show (0 : Int) < 2; decide), l2, _, _, iv many, rfl, rfl, SqL.of upd_same, ak,
      b, g, _, most, many, rfl, m2, m8, k1, k6, (B2.same (same_new hl1)).same (same_new hl2), by omega, fun h hv H4 o hn hK dh _ B4 => ?_⟩⟩⟩
    clear B2 hl1 hl2
    have eN : (h.labs.map nk).length = h.n := by rw [List.length_map]; rfl
    refine ⟨hv, rfl, _, 0, _, dh, rfl, rfl, fun v2 d2 => ⟨_, _, rfl, d2, ?_⟩⟩
    rw [eN]
    have n0 := o.pos
    have n8 := o.n8
    refine ⟨10, rfl, by decide, by decide, for_it walk_range (fun k σ H' => ∃ y5 y6 y7 y8 y9 y10 y11 y12 y13 y14 y15, TX H4 H' ∧ Bx K H' b g (2000 * i + 300 + 2 * k) ∧ σ = [some (.ref a), some (.ref b), some (iv i), some hv, some (iv h.n), y5, y6, y7, y8, y9, y10, y11, y12, y13, y14, y15])
      ⟨_, _, _, _, _, _, _, _, _, _, _, .refl _, B4, rfl⟩ (fun _ _ _ _ _ => trivial) (fun k x σ H5 H6 hk p y => ?_) (fun σ H5 p => ?_)⟩
    · obtain ⟨y5, y6, y7, y8, y9, y10, y11, y12, y13, y14, y15, t5, B5, rfl⟩ := p
      obtain ⟨rfl, _⟩ := y
      have hk' : k < 10 := hk
      refine ⟨hv, rfl, .ref b, rfl, iv h.n, rfl, b, g, _, h.n, rfl, n0, by omega, B5, by omega, fun d1 H6 l1 s6 B6 => ⟨.ref b, rfl, iv h.n, rfl, b, g, _, h.n, rfl, n0, by omega, B6, by omega, fun d2 H7 l2 s7 B7 => ?_⟩⟩
      have t7 := t5.trans ((s6.trans s7).tx B5)
      exact ⟨h, hv, d1, d2, rfl, o, dh.tx t7, l1, l2, fun H8 s8 => ⟨true, rfl, _, _, _, _, _, _, _, _, _, _, _, t7.trans (.same s8), (B7.same s8).le (by omega), rfl⟩⟩
    · obtain ⟨y5, y6, y7, y8, y9, y10, y11, y12, y13, y14, y15, t5, B5, rfl⟩ := p
      have B5' : Bx K H5 b g (2000 * i + 400) := B5.le (by omega)
      have dh5 := dh.tx t5
      clear B4 B5
      refine ⟨hv, rfl, h, hv, rfl, o, dh5, fun L φ lv H6 s6 oL nL m dL => ⟨hv, rfl, h, hv, rfl, o, dh5.tx (.same s6), fun c cv H7 s7 ck dc => ⟨lv, cv, rfl, lv, rfl, L, lv, rfl, oL, dL.tx (.same s7), fun cL cLv H8 s8 ckL dcL => ?_⟩⟩⟩
      have s58 := sametr s6 (sametr s7 s8)
      have dh8 := dh5.tx (.same s58)
      have dL8 := dL.tx (.same (sametr s7 s8))
      have dc8 := dc.tx (.same s8)
      have B8 := B5'.same s58
      obtain ⟨cl, ca⟩ := ck
      obtain ⟨clL, caL⟩ := ckL
      clear dh5 dL dc t5 B5'
      refine ⟨12, rfl, by decide, by decide, for_it walk_range (fun k σ H' => ∃ y5 y9 y10 y11 y12 y13 y14 y15, TX H8 H' ∧ Bx K H' b g (2000 * i + 400 + 40 * k) ∧ σ = [some (.ref a), some (.ref b), some (iv i), some hv, some (iv h.n), y5, some lv, some cv, some cLv, y9, y10, y11, y12, y13, y14, y15])
        ⟨_, _, _, _, _, _, _, _, .refl _, B8, rfl⟩ (fun _ _ _ _ _ => trivial) (fun k x σ H9 H10 hk p y => ?_) (fun σ H9 p => ?_)⟩
      · obtain ⟨y5, y9, y10, y11, y12, y13, y14, y15, t9, B9, rfl⟩ := p
        obtain ⟨rfl, _⟩ := y
        have hk' : k < 12 := hk
        refine ⟨.ref b, rfl, hv, rfl, b, g, _, h, hv, 12, rfl, o, dh8.tx t9, by decide, B9, by omega, fun la av H10 la1 la2 da s10 B10 => ⟨.ref b, rfl, hv, rfl, b, g, _, h, hv, 12, rfl, o, (dh8.tx t9).tx (s10.tx B9), by decide, B10, by omega, fun lb bv H11 lb1 lb2 db s11 B11 => ⟨av, bv, rfl, ?_⟩⟩⟩
        have t11 := t9.trans ((s10.trans s11).tx B9)
        have da11 := da.tx (s11.tx B10)
        have dh11 := dh8.tx t11
        have dL11 := dL8.tx t11
        have dc11 := dc8.tx t11
        have dcL11 := dcL.tx t11
        have ha : ∀ j ∈ la, j < L.K := fun j hj => by rw [m.kk]; exact la1 j hj
        have hb : ∀ j ∈ lb, j < L.K := fun j hj => by rw [m.kk]; exact lb1 j hj
        refine ⟨cv, rfl, hv, rfl, av, rfl, h, la, hv, av, rfl, o, dh11, da11, la1, _, _, _, dc11, rfl, lk_get (by rw [cl]; exact h.run_lt o la o.pos), fun z1 dz1 => ⟨cv, rfl, hv, rfl, bv, rfl, h, lb, hv, bv, rfl, o, dh11, db, lb1, _, _, _, dc11, rfl, lk_get (by rw [cl]; exact h.run_lt o lb o.pos), fun z2 dz2 => ⟨_, _, dz1, dz2, sm_nk _, sm_nk _, ?_⟩⟩⟩
        refine ⟨_, rfl, cLv, rfl, lv, rfl, av, rfl, L, la, lv, av, rfl, oL, dL11, da11, ha, _, _, _, dcL11, rfl, lk_get (by rw [clL]; exact L.run_lt oL la oL.pos), fun z3 dz3 => ⟨cLv, rfl, lv, rfl, bv, rfl, L, lb, lv, bv, rfl, oL, dL11, db, hb, _, _, _, dcL11, rfl, lk_get (by rw [clL]; exact L.run_lt oL lb oL.pos), fun z4 dz4 => ⟨_, _, dz3, dz4, sm_nk _, sm_nk _, rfl, false, ?_, iteF ⟨_, _, _, _, _, _, _, _, t11, B11.le (by omega), rfl⟩⟩⟩⟩
        have e : (c.getD (h.run 0 la) 0 = c.getD (h.run 0 lb) 0) ↔ (cL.getD (L.run 0 la) 0 = cL.getD (L.run 0 lb) 0) := by
          rw [ca _ _ (h.run_lt o la o.pos) (h.run_lt o lb o.pos), caL _ _ (L.run_lt oL la oL.pos) (L.run_lt oL lb oL.pos), m.behind la, m.behind lb]
          exact m.alike ⟨la, rfl⟩ ⟨lb, rfl⟩
        have e2 : decide (nk (c.getD (h.run 0 la) 0) = nk (c.getD (h.run 0 lb) 0)) = decide (nk (cL.getD (L.run 0 la) 0) = nk (cL.getD (L.run 0 lb) 0)) :=
          decide_eq_decide.mpr ⟨fun z => congrArg nk (e.mp (nk_inj z)), fun z => congrArg nk (e.mpr (nk_inj z))⟩
        rw [e2]
        simp
      · obtain ⟨y5, y9, y10, y11, y12, y13, y14, y15, t9, B9, rfl⟩ := p
        have B9' : Bx K H9 b g (2000 * i + 900) := B9.le (by omega)
        have dh9 := dh8.tx t9
        have dL9 := dL8.tx t9
        clear B9 t9
        refine ⟨hv, rfl, h, hv, rfl, o, dh9, fun lr rv H10 s10 hr1 hr2 dr => ⟨_, dr, fun J wk => for_it wk (fun k σ H' => ∃ y5 y9 y10 y11 y12 y13 y14 y15, Same H10 H' ∧ σ = [some (.ref a), some (.ref b), some (iv i), some hv, some (iv h.n), y5, some lv, some cv, some cLv, y9, y10, y11, y12, y13, y14, y15])
          ⟨_, _, _, _, _, _, _, _, (fun _ _ z => z), rfl⟩ (fun k σ H' _ p => ?_) (fun k x σ H11 H12 hk p y => ?_) (fun σ H11 p => ?_)⟩⟩
        · obtain ⟨_, _, _, _, _, _, _, _, p1, _⟩ := p
          exact .same p1
        · obtain ⟨y5, y9, y10, y11, y12, y13, y14, y15, s11, rfl⟩ := p
          obtain ⟨rfl, k0, ek, dx⟩ := y
          obtain ⟨hk', ek⟩ := map_get 0 ek
          subst ek
          have ex := of_num dx
          subst ex
          have rs : h.Reached (lr.getD k 0) := hr1 _ (by rw [getD_lt hk']; exact List.getElem_mem _)
          have s912 := sametr s10 s11
          refine ⟨hv, rfl, hv, rfl, iv (lr.getD k 0), rfl, h, _, hv, rfl, o, rs, dh9.tx (.same s912), fun l u H13 s13 el hl du => ⟨h, l, hv, u, rfl, o, (dh9.tx (.same s912)).tx (.same s13), du, hl, iv (lr.getD k 0), rfl, nk _, nk _, dv_nk, dv_nk, sm_nk _, sm_nk _, false, ?_, iteF ⟨_, _, _, _, _, _, _, _, sametr s11 s13, rfl⟩⟩⟩
          rw [el]
          simp
        · obtain ⟨y5, y9, y10, y11, y12, y13, y14, y15, s11, rfl⟩ := p
          have s911 := sametr s10 s11
          have B11 := B9'.same s911
          have dh11 := dh9.tx (.same s911)
          have dL11 := dL9.tx (.same s911)
          refine ⟨iv i, rfl, _, 2, rfl, rfl, (by show (0 : Int) < 2; decide), rfl, _, rfl, ?_⟩
          by_cases od : (i : Int) % 2 = 1
          · obtain ⟨e4, e3⟩ := odd od
            subst e4 e3
            rw [decide_eq_true (show V.int ((i : Int) % 2) = V.int 1 by rw [od])]
            refine iteT ⟨.ref b, rfl, hv, rfl, b, g, _, h, hv, rfl, o, hK, dh11, B11, by omega, fun p pv H12 po dp s12 B12 => ?_⟩
            have t12 := s12.tx B11
            have poL : p.Ok L.K := by rw [m.kk]; exact po
            refine ⟨lv, rfl, pv, rfl, L, p, lv, pv, ek, rfl, oL, poL, by omega, by rw [m.kk]; exact hK, dL11.tx t12, dp, dk _, fun T1 H13 s13 w1 => ⟨hv, rfl, pv, rfl, h, p, hv, pv, ek, rfl, o, po, hn, hK, (dh11.tx t12).tx (.same s13), dp.tx (.same s13), dk _, fun T2 H14 s14 w2 => ⟨.ref T1, .ref T2, rfl, ?_⟩⟩⟩
            have s24 := sametr s13 s14
            refine ⟨lv, rfl, pv, rfl, L, p, lv, pv, rfl, (dL11.tx t12).tx (.same s24), oL.k6, poL, ends_len poL, dp.tx (.same s24), fun H15 s15 => ⟨true, rfl, ?_⟩⟩
            have B15 := ((B12.same s24).same s15).le (show 2000 * i + 900 + 60 ≤ 2000 * (i + 1) by omega)
            rcases wrong_same m o oL po (.same s14) w1 w2 with ⟨x, y, q1, q2⟩ | ⟨l, od, x1, x2, y1, y2, q1, q2, d1, d2⟩
            · have q1 := sqT_tx (.same s15) q1
              have q2 := sqT_tx (.same s15) q2
              exact ⟨.ref T1, rfl, T1, _, 0, .str "safe", rfl, rfl, q1, rfl, .ref T2, rfl, T2, _, 0, .str "safe", rfl, rfl, q2, rfl, rfl, false, rfl, .ref T1, rfl, T1, _, 0, .str "safe", rfl, rfl, q1, rfl, rfl, false, rfl, _, _, _, _, _, _, _, _, _, _, _, _, _, _, B15, rfl⟩
            · have q1 := sqT_tx (.same s15) q1
              have q2 := sqT_tx (.same s15) q2
              refine ⟨.ref T1, rfl, T1, _, 0, .str "log", rfl, rfl, q1, rfl, .ref T2, rfl, T2, _, 0, .str "log", rfl, rfl, q2, rfl, rfl, false, rfl, .ref T1, rfl, T1, _, 0, .str "log", rfl, rfl, q1, rfl, rfl, true, rfl, .ref T1, rfl, .ref T2, rfl, _, _, d1.tx (.same s15), d2.tx (.same s15), sm_wrong _ _, sm_wrong _ _, false, ?_, iteF ⟨_, _, _, _, _, _, _, _, _, _, _, _, _, _, B15, rfl⟩⟩
              simp
          · rw [decide_eq_false (show ¬ V.int ((i : Int) % 2) = V.int 1 from fun z => od (by injection z))]
            exact iteF ⟨_, _, _, _, _, _, _, _, _, _, _, _, _, _, B11.le (by omega), rfl⟩
  · obtain ⟨y2, y3, y4, y5, y6, y7, y8, y9, y10, y11, y12, y13, y14, y15, B2, rfl⟩ := p
    exact q H2
end
end K14

set_option maxHeartbeats 0
namespace K14
open PySem PySem.Spec PyProof.Rows L2
def kwdAt (f : Str × Option Str) (x : Str) (K : PySem.W.Frag) : Addr := match K.lookup (He.fAd K f) with
  | some ⟨_, _, .func fd, _⟩ => (match fd.kwdefaults with
    | .ref D => (match PySem.W.nsIn K D x with
      | some (some (.ref a)) => a
      | _ => 0)
    | _ => 0)
  | _ => 0
def dfs0 : List He.DefD := [⟨("is_integer", none), "is_integer", "is_integer", defArgs s_is_integer, defBody s_is_integer, defScope s_is_integer, [], []⟩, ⟨("require_kind", none), "require_kind", "require_kind", defArgs s_require_kind, defBody s_require_kind, defScope s_require_kind, [], []⟩, ⟨("require_log", none), "require_log", "require_log", defArgs s_require_log, defBody s_require_log, defScope s_require_log, [], []⟩, ⟨("require_state", none), "require_state", "require_state", defArgs s_require_state, defBody s_require_state, defScope s_require_state, [], []⟩, ⟨("end_from", none), "end_from", "end_from", defArgs s_end_from, defBody s_end_from, defScope s_end_from, [], []⟩, ⟨("state_behind", none), "state_behind", "state_behind", defArgs s_state_behind, defBody s_state_behind, defScope s_state_behind, [], []⟩, ⟨("first_logs", none), "first_logs", "first_logs", defArgs s_first_logs, defBody s_first_logs, defScope s_first_logs, [], []⟩, ⟨("reached_states", none), "reached_states", "reached_states", defArgs s_reached_states, defBody s_reached_states, defScope s_reached_states, [], []⟩, ⟨("first_log", none), "first_log", "first_log", defArgs s_first_log, defBody s_first_log, defScope s_first_log, [], []⟩, ⟨("in_order", none), "in_order", "in_order", defArgs s_in_order, defBody s_in_order, defScope s_in_order, [], []⟩]
def dfs1 : List He.DefD := [⟨("alike_classes", none), "alike_classes", "alike_classes", defArgs s_alike_classes, defBody s_alike_classes, defScope s_alike_classes, [], []⟩, ⟨("tell_apart", none), "tell_apart", "tell_apart", defArgs s_tell_apart, defBody s_tell_apart, defScope s_tell_apart, [], []⟩, ⟨("with_two", none), "with_two", "with_two", defArgs s_with_two, defBody s_with_two, defScope s_with_two, [], []⟩, ⟨("least_handler", none), "least_handler", "least_handler", defArgs s_least_handler, defBody s_least_handler, defScope s_least_handler, [], []⟩, ⟨("require_hold", none), "require_hold", "require_hold", defArgs s_require_hold, defBody s_require_hold, defScope s_require_hold, [], []⟩, ⟨("is_row", none), "is_row", "is_row", defArgs s_is_row, defBody s_is_row, defScope s_is_row, [], []⟩, ⟨("are_ends", none), "are_ends", "are_ends", defArgs s_are_ends, defBody s_are_ends, defScope s_are_ends, [], []⟩, ⟨("plan_error", none), "plan_error", "plan_error", defArgs s_plan_error, defBody s_plan_error, defScope s_plan_error, [], []⟩, ⟨("is_plan", none), "is_plan", "is_plan", defArgs s_is_plan, defBody s_is_plan, defScope s_is_plan, [], []⟩, ⟨("Courier", some "__init__"), "__init__", "Courier.__init__", defArgs m_init, defBody m_init, defScope m_init, [], []⟩]
def dfs2 : List He.DefD := [⟨("Courier", some "sender_of"), "sender_of", "Courier.sender_of", defArgs m_sender_of, defBody m_sender_of, defScope m_sender_of, [], []⟩, ⟨("Courier", some "led"), "led", "Courier.led", defArgs m_led, defBody m_led, defScope m_led, [], []⟩, ⟨("Courier", some "is_free"), "is_free", "Courier.is_free", defArgs m_is_free, defBody m_is_free, defScope m_is_free, [], []⟩, ⟨("Courier", some "may_hold"), "may_hold", "Courier.may_hold", defArgs m_may_hold, defBody m_may_hold, defScope m_may_hold, [], []⟩, ⟨("Courier", some "with_one"), "with_one", "Courier.with_one", defArgs m_with_one, defBody m_with_one, defScope m_with_one, [], []⟩, ⟨("Courier", some "ready_kinds"), "ready_kinds", "Courier.ready_kinds", defArgs m_ready_kinds, defBody m_ready_kinds, defScope m_ready_kinds, [], []⟩, ⟨("Courier", some "come_from"), "come_from", "Courier.come_from", defArgs m_come_from, defBody m_come_from, defScope m_come_from, [], []⟩, ⟨("Courier", some "send_from"), "send_from", "Courier.send_from", defArgs m_send_from, defBody m_send_from, defScope m_send_from, [], []⟩, ⟨("Courier", some "closed"), "closed", "Courier.closed", defArgs m_closed, defBody m_closed, defScope m_closed, [], []⟩, ⟨("Courier", some "sent_from"), "sent_from", "Courier.sent_from", defArgs m_sent_from, defBody m_sent_from, defScope m_sent_from, [], []⟩]
def dfs3 : List He.DefD := [⟨("Courier", some "come_at"), "come_at", "Courier.come_at", defArgs m_come_at, defBody m_come_at, defScope m_come_at, [], []⟩, ⟨("all_moves", none), "all_moves", "all_moves", defArgs s_all_moves, defBody s_all_moves, defScope s_all_moves, [], []⟩, ⟨("sources", none), "sources", "sources", defArgs s_sources, defBody s_sources, defScope s_sources, [], []⟩, ⟨("is_wrong", none), "is_wrong", "is_wrong", defArgs s_is_wrong, defBody s_is_wrong, defScope s_is_wrong, [], []⟩, ⟨("needs_of", none), "needs_of", "needs_of", defArgs s_needs_of, defBody s_needs_of, defScope s_needs_of, [], []⟩, ⟨("near_ones", none), "near_ones", "near_ones", defArgs s_near_ones, defBody s_near_ones, defScope s_near_ones, [], []⟩, ⟨("first_wrong_log", none), "first_wrong_log", "first_wrong_log", defArgs s_first_wrong_log, defBody s_first_wrong_log, defScope s_first_wrong_log, [], []⟩, ⟨("end_of", none), "end_of", "end_of", defArgs s_end_of, defBody s_end_of, defScope s_end_of, [], []⟩, ⟨("pair_layers", none), "pair_layers", "pair_layers", defArgs s_pair_layers, defBody s_pair_layers, defScope s_pair_layers, [], []⟩, ⟨("leads_to", none), "leads_to", "leads_to", defArgs s_leads_to, defBody s_leads_to, defScope s_leads_to, [], []⟩]
def dfs4 : List He.DefD := [⟨("good_pairs", none), "good_pairs", "good_pairs", defArgs s_good_pairs, defBody s_good_pairs, defScope s_good_pairs, [], []⟩, ⟨("good_layers", none), "good_layers", "good_layers", defArgs s_good_layers, defBody s_good_layers, defScope s_good_layers, [], []⟩, ⟨("held_kinds", none), "held_kinds", "held_kinds", defArgs s_held_kinds, defBody s_held_kinds, defScope s_held_kinds, [], []⟩, ⟨("behind_event", none), "behind_event", "behind_event", defArgs s_behind_event, defBody s_behind_event, defScope s_behind_event, [], []⟩, ⟨("is_good", none), "is_good", "is_good", defArgs s_is_good, defBody s_is_good, defScope s_is_good, [], []⟩, ⟨("held_step", none), "held_step", "held_step", defArgs s_held_step, defBody s_held_step, defScope s_held_step, [], []⟩, ⟨("sent_step", none), "sent_step", "sent_step", defArgs s_sent_step, defBody s_sent_step, defScope s_sent_step, [], []⟩, ⟨("smallest_order", none), "smallest_order", "smallest_order", defArgs s_smallest_order, defBody s_smallest_order, defScope s_smallest_order, [], []⟩, ⟨("unlike_states", none), "unlike_states", "unlike_states", defArgs s_unlike_states, defBody s_unlike_states, defScope s_unlike_states, [], []⟩, ⟨("told_by", none), "told_by", "told_by", defArgs s_told_by, defBody s_told_by, defScope s_told_by, [], []⟩]
def dfs5 : List He.DefD := [⟨("find_wrong", none), "find_wrong", "find_wrong", defArgs s_find_wrong, defBody s_find_wrong, defScope s_find_wrong, [], [("orderly", .bl false), ("kept", .adr (kwdAt ("find_wrong", none) "kept"))]⟩, ⟨("_law_opened", none), "_law_opened", "_law_opened", defArgs s_L_opened, defBody s_L_opened, defScope s_L_opened, [], []⟩, ⟨("_law_draw", none), "_law_draw", "_law_draw", defArgs s_L_draw, defBody s_L_draw, defScope s_L_draw, [], []⟩, ⟨("_law_one", none), "_law_one", "_law_one", defArgs s_L_one, defBody s_L_one, defScope s_L_one, [], []⟩, ⟨("_law_kind", none), "_law_kind", "_law_kind", defArgs s_L_kind, defBody s_L_kind, defScope s_L_kind, [], []⟩, ⟨("_law_handler", none), "_law_handler", "_law_handler", defArgs s_L_handler, defBody s_L_handler, defScope s_L_handler, [], []⟩, ⟨("_law_plan", none), "_law_plan", "_law_plan", defArgs s_L_plan, defBody s_L_plan, defScope s_L_plan, [], []⟩, ⟨("_law_log", none), "_law_log", "_law_log", defArgs s_L_log, defBody s_L_log, defScope s_L_log, [], []⟩, ⟨("_law_lead", none), "_law_lead", "_law_lead", defArgs s_L_lead, defBody s_L_lead, defScope s_L_lead, [], []⟩, ⟨("_law_parted_right", none), "_law_parted_right", "_law_parted_right", defArgs s_L_parted_right, defBody s_L_parted_right, defScope s_L_parted_right, [], []⟩]
def dfs6 : List He.DefD := [⟨("law", none), "law", "law", defArgs s_law, defBody s_law, defScope s_law, [], []⟩]
def dfs : List He.DefD := dfs0 ++ dfs1 ++ dfs2 ++ dfs3 ++ dfs4 ++ dfs5 ++ dfs6
def fcs0 : List He.Fa := [.glo "ServiceError", .glo "NoHold", .glo "NoKind", .glo "NoState", .glo "is_integer", .glo "require_kind", .glo "require_log", .glo "require_state", .glo "end_from", .glo "state_behind", .glo "first_logs", .glo "reached_states", .glo "first_log", .glo "in_order", .glo "alike_classes", .glo "tell_apart", .glo "with_two", .glo "least_handler", .glo "require_hold", .glo "is_row"]
def fcs1 : List He.Fa := [.glo "are_ends", .glo "plan_error", .glo "is_plan", .glo "Courier", .glo "START", .glo "all_moves", .glo "sources", .glo "is_wrong", .glo "needs_of", .glo "near_ones", .glo "first_wrong_log", .glo "end_of", .glo "pair_layers", .glo "leads_to", .glo "good_pairs", .glo "good_layers", .glo "held_kinds", .glo "behind_event", .glo "is_good", .glo "held_step"]
def fcs2 : List He.Fa := [.glo "sent_step", .glo "smallest_order", .glo "unlike_states", .glo "told_by", .glo "find_wrong", .glo "_law_opened", .glo "_law_draw", .glo "_law_one", .glo "_law_kind", .glo "_law_handler", .glo "_law_plan", .glo "_law_log", .glo "_law_lead", .glo "_law_parted_right", .glo "law", .int "MAX_HOLD" 3, .int "MAX_PLACES" 6, .free "enumerate", .free "sorted", .free "tuple"]
def fcs3 : List He.Fa := [.free "list", .free "len", .free "isinstance", .free "int", .free "bool", .free "zip", .free "all", .free "any", .free "range", .free "min", .free "dict", .free "set", .free "abs", .cls "Courier", .mkr "Courier", .noat "Courier" "handler", .noat "Courier" "hold", .noat "Courier" "orderly", .noat "Courier" "kept", .meth "Courier" "led"]
def fcs4 : List He.Fa := [.meth "Courier" "is_free", .meth "Courier" "may_hold", .meth "Courier" "with_one", .meth "Courier" "ready_kinds", .meth "Courier" "come_from", .meth "Courier" "send_from", .meth "Courier" "closed", .meth "Courier" "sent_from", .meth "Courier" "come_at"]
def fcs : List He.Fa := fcs0 ++ fcs1 ++ fcs2 ++ fcs3 ++ fcs4
def nms0 : List Str := ["MAX_HOLD", "MAX_PLACES", "__name__", "ServiceError", "NoHold", "NoKind", "NoState", "is_integer", "require_kind", "require_log", "require_state", "end_from", "state_behind", "first_logs", "reached_states", "first_log", "in_order", "alike_classes", "tell_apart", "with_two"]
def nms1 : List Str := ["least_handler", "require_hold", "is_row", "are_ends", "plan_error", "is_plan", "Courier", "START", "all_moves", "sources", "is_wrong", "needs_of", "near_ones", "first_wrong_log", "end_of", "pair_layers", "leads_to", "good_pairs", "good_layers", "held_kinds"]
def nms2 : List Str := ["behind_event", "is_good", "held_step", "sent_step", "smallest_order", "unlike_states", "told_by", "find_wrong", "_law_opened", "_law_draw", "_law_one", "_law_kind", "_law_handler", "_law_plan", "_law_log", "_law_lead", "_law_parted_right"]
def nms : List Str := nms0 ++ nms1 ++ nms2
/-- a tuple that the top has written -/
def wTup (K : PySem.W.Frag) (a : Addr) (vs : List V) : Bool := match K.lookup a with
  | some ⟨.type c, _, .seq its _, _⟩ => decide (c = "tuple") && (decide (its.size ≤ sizeLine) && He.relAll vs its.toList)
  | _ => false
def itemAt (K : PySem.W.Frag) (a : Addr) (i : Nat) : Addr := match K.lookup a with
  | some ⟨_, _, .seq its _, _⟩ => (match its.toList[i]? with
    | some (.ref b) => b
    | _ => 0)
  | _ => 0
/-- START and the default of kept -/
def moreB (K : PySem.W.Frag) : Bool :=
  wTup K (He.ga K "START") [.int 0, .int 0, .int 0, .ref (itemAt K (He.ga K "START") 3)] && (wTup K (itemAt K (He.ga K "START") 3) [] && wTup K (kwdAt ("find_wrong", none) "kept" K) [])
abbrev AlM : Type := He.AlD × Bool
def obsM (g : Addr → Option Obj) : AlM := (He.obsD fcs dfs (He.frG g (He.asD g 4)), moreB (He.frG g (He.asD g 4)))
def hookM : PySem.W.Hook where
  α := AlM
  obs := fun s => obsM s.heap.get?
  val := fun _ => (He.valD dfs, true)
  says := fun _ h => ∃ K : PySem.W.Frag, K.In h ∧ He.SaysD fcs dfs K ∧ moreB K = true
  of := fun _ _ e => ⟨_, He.frG_in, congrArg Prod.fst e, congrArg Prod.snd e⟩
  keeps := fun _ _ _ ⟨K, hK, c⟩ k => ⟨K, PySem.W.Frag.In.keeps hK k, c⟩
abbrev R : PySem.W.OpenRow := PySem.W.OpenLaw.row PySem.Challenge.rw_twicesafe_k14_whole_least_handlers_answe
def ob (s : PySem.W.SharedT) : AlM := obsM (HandSHeadRun.getT s)
theorem ob_eq (s : PySem.W.SharedT) : ob s = hookM.obs s.abs := by
  show obsM (HandSHeadRun.getT s) = obsM s.abs.heap.get?
  rw [show HandSHeadRun.getT s = s.abs.heap.get? from funext (HandSHeadRun.getT_eq s)]
theorem run (w : World) : HandSHeadRun.RunEq R (PySem.W.view R.prog [64]) hookM ob 6000 nms w := by
  intro os
  kernel_rfl
end K14

/-! HeadC: all defs of the head keep their promises; the statement. -/
namespace K14
open PySem PySem.Spec PyProof.Rows L2
theorem wTup_ok {K : PySem.W.Frag} {a : Addr} {vs : List V} (h : wTup K a vs = true) (H : Hp) : SqT K H a vs := by
  unfold wTup at h
  split at h
  · rename_i c od its n sl q
    simp only [Bool.and_eq_true, decide_eq_true_eq] at h
    exact .inr ⟨_, its, n, q, congrArg Value.type h.1, rfl, h.2.1, He.relAll_ok h.2.2⟩
  · exact nomatch h
theorem dv_nil {K : PySem.W.Frag} {a : Addr} (h : wTup K a [] = true) (H : Hp) : DV K H (lk []) (.ref a) := dv_tup (wTup_ok h H) dvs_nil
theorem dv_START {K : PySem.W.Frag} (h : moreB K = true) (H : Hp) : DV K H (sk start4) (.ref (He.ga K "START")) := by
  obtain ⟨h1, h2⟩ := He.ba h
  obtain ⟨h2, _⟩ := He.ba h2
  exact dv_tup (wTup_ok h1 H) (dvs_cons dv_nk (dvs_cons dv_nk (dvs_cons dv_nk (dvs_cons (dv_nil h2 H) dvs_nil))))
section
variable {P : Program} {w : World} {K : PySem.W.Frag} {mg : Str → Option Value} {base : Heap} {x q : Str} {params : Arguments} {body : List Stmt} {scope : Scope} {f C : Addr} {fd : FuncData} {k : Nat} {ps : List Str} {sp : Sp}
theorem mkOk (F : FunD K x q params body scope [] [] f fd) (hm : mg x = some (.ref f)) (h : FnOk P w K mg base CX0 k f fd ps sp) (b : Binds K fd ps []) : Ok P w K mg base x k ps sp := ⟨f, fd, h, hm, F.kp, b⟩
theorem mkOkM (hm : Meth K C x f) (h : FnOk P w K mg base CX0 k f fd ps sp) (b : Binds K fd ps []) : OkM P w K mg base C x k ps sp := ⟨f, fd, h, hm, b⟩
end
theorem facts {P : Program} {w : World} {K : PySem.W.Frag} {h : Heap} {mg : Str → Option Value} {f : Addr} (X : K.In h) (G : h.Ns mainGlobals mg) (hfa : mg ("law" : Str) = some (.ref f)) (c : He.SaysD fcs dfs K) (mb : moreB K = true) :
    ∃ fd : FuncData, (∀ (s : Shared) (v : Value), BindsTo s fd ⟨[v], []⟩ [("_law_script", v)]) ∧ ∀ base : Heap, K.In base → base.Ns mainGlobals mg → FnOk P w K mg base CX0 8 f fd ["_law_script"] (sp_law K) := by
  obtain ⟨d_s_is_integer, F_s_is_integer⟩ := c.def_ 0 rfl
  obtain ⟨d_s_require_kind, F_s_require_kind⟩ := c.def_ 1 rfl
  obtain ⟨d_s_require_log, F_s_require_log⟩ := c.def_ 2 rfl
  obtain ⟨d_s_require_state, F_s_require_state⟩ := c.def_ 3 rfl
  obtain ⟨d_s_end_from, F_s_end_from⟩ := c.def_ 4 rfl
  obtain ⟨d_s_state_behind, F_s_state_behind⟩ := c.def_ 5 rfl
  obtain ⟨d_s_first_logs, F_s_first_logs⟩ := c.def_ 6 rfl
  obtain ⟨d_s_reached_states, F_s_reached_states⟩ := c.def_ 7 rfl
  obtain ⟨d_s_first_log, F_s_first_log⟩ := c.def_ 8 rfl
  obtain ⟨d_s_in_order, F_s_in_order⟩ := c.def_ 9 rfl
  obtain ⟨d_s_alike_classes, F_s_alike_classes⟩ := c.def_ 10 rfl
  obtain ⟨d_s_tell_apart, F_s_tell_apart⟩ := c.def_ 11 rfl
  obtain ⟨d_s_with_two, F_s_with_two⟩ := c.def_ 12 rfl
  obtain ⟨d_s_least_handler, F_s_least_handler⟩ := c.def_ 13 rfl
  obtain ⟨d_s_require_hold, F_s_require_hold⟩ := c.def_ 14 rfl
  obtain ⟨d_s_is_row, F_s_is_row⟩ := c.def_ 15 rfl
  obtain ⟨d_s_are_ends, F_s_are_ends⟩ := c.def_ 16 rfl
  obtain ⟨d_s_plan_error, F_s_plan_error⟩ := c.def_ 17 rfl
  obtain ⟨d_s_is_plan, F_s_is_plan⟩ := c.def_ 18 rfl
  obtain ⟨d_m_init, F_m_init⟩ := c.def_ 19 rfl
  obtain ⟨d_m_sender_of, F_m_sender_of⟩ := c.def_ 20 rfl
  obtain ⟨d_m_led, F_m_led⟩ := c.def_ 21 rfl
  obtain ⟨d_m_is_free, F_m_is_free⟩ := c.def_ 22 rfl
  obtain ⟨d_m_may_hold, F_m_may_hold⟩ := c.def_ 23 rfl
  obtain ⟨d_m_with_one, F_m_with_one⟩ := c.def_ 24 rfl
  obtain ⟨d_m_ready_kinds, F_m_ready_kinds⟩ := c.def_ 25 rfl
  obtain ⟨d_m_come_from, F_m_come_from⟩ := c.def_ 26 rfl
  obtain ⟨d_m_send_from, F_m_send_from⟩ := c.def_ 27 rfl
  obtain ⟨d_m_closed, F_m_closed⟩ := c.def_ 28 rfl
  obtain ⟨d_m_sent_from, F_m_sent_from⟩ := c.def_ 29 rfl
  obtain ⟨d_m_come_at, F_m_come_at⟩ := c.def_ 30 rfl
  obtain ⟨d_s_all_moves, F_s_all_moves⟩ := c.def_ 31 rfl
  obtain ⟨d_s_sources, F_s_sources⟩ := c.def_ 32 rfl
  obtain ⟨d_s_is_wrong, F_s_is_wrong⟩ := c.def_ 33 rfl
  obtain ⟨d_s_needs_of, F_s_needs_of⟩ := c.def_ 34 rfl
  obtain ⟨d_s_near_ones, F_s_near_ones⟩ := c.def_ 35 rfl
  obtain ⟨d_s_first_wrong_log, F_s_first_wrong_log⟩ := c.def_ 36 rfl
  obtain ⟨d_s_end_of, F_s_end_of⟩ := c.def_ 37 rfl
  obtain ⟨d_s_pair_layers, F_s_pair_layers⟩ := c.def_ 38 rfl
  obtain ⟨d_s_leads_to, F_s_leads_to⟩ := c.def_ 39 rfl
  obtain ⟨d_s_good_pairs, F_s_good_pairs⟩ := c.def_ 40 rfl
  obtain ⟨d_s_good_layers, F_s_good_layers⟩ := c.def_ 41 rfl
  obtain ⟨d_s_held_kinds, F_s_held_kinds⟩ := c.def_ 42 rfl
  obtain ⟨d_s_behind_event, F_s_behind_event⟩ := c.def_ 43 rfl
  obtain ⟨d_s_is_good, F_s_is_good⟩ := c.def_ 44 rfl
  obtain ⟨d_s_held_step, F_s_held_step⟩ := c.def_ 45 rfl
  obtain ⟨d_s_sent_step, F_s_sent_step⟩ := c.def_ 46 rfl
  obtain ⟨d_s_smallest_order, F_s_smallest_order⟩ := c.def_ 47 rfl
  obtain ⟨d_s_unlike_states, F_s_unlike_states⟩ := c.def_ 48 rfl
  obtain ⟨d_s_told_by, F_s_told_by⟩ := c.def_ 49 rfl
  obtain ⟨d_s_find_wrong, F_s_find_wrong⟩ := c.def_ 50 rfl
  obtain ⟨d_s_L_opened, F_s_L_opened⟩ := c.def_ 51 rfl
  obtain ⟨d_s_L_draw, F_s_L_draw⟩ := c.def_ 52 rfl
  obtain ⟨d_s_L_one, F_s_L_one⟩ := c.def_ 53 rfl
  obtain ⟨d_s_L_kind, F_s_L_kind⟩ := c.def_ 54 rfl
  obtain ⟨d_s_L_handler, F_s_L_handler⟩ := c.def_ 55 rfl
  obtain ⟨d_s_L_plan, F_s_L_plan⟩ := c.def_ 56 rfl
  obtain ⟨d_s_L_log, F_s_L_log⟩ := c.def_ 57 rfl
  obtain ⟨d_s_L_lead, F_s_L_lead⟩ := c.def_ 58 rfl
  obtain ⟨d_s_L_parted_right, F_s_L_parted_right⟩ := c.def_ 59 rfl
  obtain ⟨d_s_law, F_s_law⟩ := c.def_ 60 rfl
  obtain ⟨tH, eH⟩ := He.int_ok X G (c.fact 55 (f := .int "MAX_HOLD" 3) rfl)
  obtain ⟨tP, eP⟩ := He.int_ok X G (c.fact 56 (f := .int "MAX_PLACES" 6) rfl)
  have T : Txt K mg (He.ga K "Courier") (He.ga K "START") tH tP := {
    z_len := He.free_ok X G (c.fact 61 (f := .free "len") rfl)
    z_range := He.free_ok X G (c.fact 68 (f := .free "range") rfl)
    z_sorted := He.free_ok X G (c.fact 58 (f := .free "sorted") rfl)
    z_tuple := He.free_ok X G (c.fact 59 (f := .free "tuple") rfl)
    z_list := He.free_ok X G (c.fact 60 (f := .free "list") rfl)
    z_enumerate := He.free_ok X G (c.fact 57 (f := .free "enumerate") rfl)
    z_zip := He.free_ok X G (c.fact 65 (f := .free "zip") rfl)
    z_all := He.free_ok X G (c.fact 66 (f := .free "all") rfl)
    z_any := He.free_ok X G (c.fact 67 (f := .free "any") rfl)
    z_min := He.free_ok X G (c.fact 69 (f := .free "min") rfl)
    z_dict := He.free_ok X G (c.fact 70 (f := .free "dict") rfl)
    z_set := He.free_ok X G (c.fact 71 (f := .free "set") rfl)
    z_isinstance := He.free_ok X G (c.fact 62 (f := .free "isinstance") rfl)
    z_int := He.free_ok X G (c.fact 63 (f := .free "int") rfl)
    z_bool := He.free_ok X G (c.fact 64 (f := .free "bool") rfl)
    z_abs := He.free_ok X G (c.fact 72 (f := .free "abs") rfl)
    cl := He.cls_ok (c.fact 73 (f := .cls "Courier") rfl)
    n_handler := He.noat_ok (c.fact 75 (f := .noat "Courier" "handler") rfl)
    n_hold := He.noat_ok (c.fact 76 (f := .noat "Courier" "hold") rfl)
    n_orderly := He.noat_ok (c.fact 77 (f := .noat "Courier" "orderly") rfl)
    n_kept := He.noat_ok (c.fact 78 (f := .noat "Courier" "kept") rfl)
    g_Courier := He.glo_ok X G (c.fact 23 (f := .glo "Courier") rfl)
    g_START := He.glo_ok X G (c.fact 24 (f := .glo "START") rfl)
    d_START := dv_START mb
    g_MAX_HOLD := eH
    g_MAX_PLACES := eP }
  have dk : ∀ H, DV K H (lk []) (.ref (kwdAt ("find_wrong", none) "kept" K)) := fun H => dv_nil (He.ba (He.ba mb).2).2 H
  have e := hfa.symm.trans (He.glo_ok X G (c.fact 54 (f := .glo "law") rfl))
  cases e
  have bl := FunD.bindsA (ps := ["_law_script"]) F_s_law fun _ _ _ _ _ _ us hl => match us, hl with | [_], _ => rfl
  refine ⟨d_s_law, fun s v => bl s [v] rfl, fun base _ _ => ?_⟩
  have h_is_integer : Ok P w K mg base "is_integer" 1 ["value", "low", "high"] sp_is_integer := mkOk F_s_is_integer (He.glo_ok X G (c.fact 4 (f := .glo "is_integer") rfl)) (ok_is_integer T F_s_is_integer) (F_s_is_integer.bindsN fun _ _ _ _ _ _ us hl => match us, hl with | [_, _, _], _ => rfl)
  have h_require_kind : Ok P w K mg base "require_kind" 2 ["handler", "index"] (sp_require_kind K) := mkOk F_s_require_kind (He.glo_ok X G (c.fact 5 (f := .glo "require_kind") rfl)) (ok_require_kind T F_s_require_kind h_is_integer) (F_s_require_kind.bindsN fun _ _ _ _ _ _ us hl => match us, hl with | [_, _], _ => rfl)
  have h_require_log : Ok P w K mg base "require_log" 3 ["handler", "log"] (sp_require_log K) := mkOk F_s_require_log (He.glo_ok X G (c.fact 6 (f := .glo "require_log") rfl)) (ok_require_log T F_s_require_log h_require_kind) (F_s_require_log.bindsN fun _ _ _ _ _ _ us hl => match us, hl with | [_, _], _ => rfl)
  have h_require_state : Ok P w K mg base "require_state" 2 ["handler", "state"] (sp_require_state K) := mkOk F_s_require_state (He.glo_ok X G (c.fact 7 (f := .glo "require_state") rfl)) (ok_require_state T F_s_require_state h_is_integer) (F_s_require_state.bindsN fun _ _ _ _ _ _ us hl => match us, hl with | [_, _], _ => rfl)
  have h_end_from : Ok P w K mg base "end_from" 1 ["handler", "state", "log"] (sp_end_from K) := mkOk F_s_end_from (He.glo_ok X G (c.fact 8 (f := .glo "end_from") rfl)) (ok_end_from T F_s_end_from) (F_s_end_from.bindsN fun _ _ _ _ _ _ us hl => match us, hl with | [_, _, _], _ => rfl)
  have h_state_behind : Ok P w K mg base "state_behind" 4 ["handler", "log"] (sp_state_behind K) := mkOk F_s_state_behind (He.glo_ok X G (c.fact 9 (f := .glo "state_behind") rfl)) (ok_state_behind T F_s_state_behind h_require_log h_end_from) (F_s_state_behind.bindsN fun _ _ _ _ _ _ us hl => match us, hl with | [_, _], _ => rfl)
  have h_in_order : Ok P w K mg base "in_order" 1 ["marks"] (sp_in_order K) := mkOk F_s_in_order (He.glo_ok X G (c.fact 13 (f := .glo "in_order") rfl)) (ok_in_order T F_s_in_order) (F_s_in_order.bindsN fun _ _ _ _ _ _ us hl => match us, hl with | [_], _ => rfl)
  have h_alike_classes : Ok P w K mg base "alike_classes" 2 ["handler"] (sp_alike_classes K) := mkOk F_s_alike_classes (He.glo_ok X G (c.fact 14 (f := .glo "alike_classes") rfl)) (ok_alike_classes T F_s_alike_classes h_in_order) (F_s_alike_classes.bindsN fun _ _ _ _ _ _ us hl => match us, hl with | [_], _ => rfl)
  have h_first_logs : Ok P w K mg base "first_logs" 1 ["handler"] (sp_first_logs K) := mkOk F_s_first_logs (He.glo_ok X G (c.fact 10 (f := .glo "first_logs") rfl)) (ok_first_logs T F_s_first_logs) (F_s_first_logs.bindsN fun _ _ _ _ _ _ us hl => match us, hl with | [_], _ => rfl)
  have h_reached_states : Ok P w K mg base "reached_states" 2 ["handler"] (sp_reached_states K) := mkOk F_s_reached_states (He.glo_ok X G (c.fact 11 (f := .glo "reached_states") rfl)) (ok_reached_states T F_s_reached_states h_first_logs) (F_s_reached_states.bindsN fun _ _ _ _ _ _ us hl => match us, hl with | [_], _ => rfl)
  have h_first_log : Ok P w K mg base "first_log" 3 ["handler", "state"] (sp_first_log K) := mkOk F_s_first_log (He.glo_ok X G (c.fact 12 (f := .glo "first_log") rfl)) (ok_first_log T F_s_first_log h_first_logs h_require_state) (F_s_first_log.bindsN fun _ _ _ _ _ _ us hl => match us, hl with | [_, _], _ => rfl)
  have h_tell_apart : Ok P w K mg base "tell_apart" 3 ["handler", "one", "other"] (sp_tell_apart K) := mkOk F_s_tell_apart (He.glo_ok X G (c.fact 15 (f := .glo "tell_apart") rfl)) (ok_tell_apart T F_s_tell_apart h_require_state) (F_s_tell_apart.bindsN fun _ _ _ _ _ _ us hl => match us, hl with | [_, _, _], _ => rfl)
  have h_with_two : Ok P w K mg base "with_two" 2 ["labels", "kinds"] (sp_with_two K) := mkOk F_s_with_two (He.glo_ok X G (c.fact 16 (f := .glo "with_two") rfl)) (ok_with_two T F_s_with_two h_in_order) (F_s_with_two.bindsN fun _ _ _ _ _ _ us hl => match us, hl with | [_, _], _ => rfl)
  have h_least_handler : Ok P w K mg base "least_handler" 3 ["handler"] (sp_least_handler K) := mkOk F_s_least_handler (He.glo_ok X G (c.fact 17 (f := .glo "least_handler") rfl)) (ok_least_handler T F_s_least_handler h_alike_classes h_first_logs h_with_two) (F_s_least_handler.bindsN fun _ _ _ _ _ _ us hl => match us, hl with | [_], _ => rfl)
  have h_is_row : Ok P w K mg base "is_row" 2 ["handler", "places", "value"] (sp_is_row K) := mkOk F_s_is_row (He.glo_ok X G (c.fact 19 (f := .glo "is_row") rfl)) (ok_is_row T F_s_is_row h_is_integer) (F_s_is_row.bindsN fun _ _ _ _ _ _ us hl => match us, hl with | [_, _, _], _ => rfl)
  have h_are_ends : Ok P w K mg base "are_ends" 2 ["places", "value"] (sp_are_ends K) := mkOk F_s_are_ends (He.glo_ok X G (c.fact 20 (f := .glo "are_ends") rfl)) (ok_are_ends T F_s_are_ends h_is_integer) (F_s_are_ends.bindsN fun _ _ _ _ _ _ us hl => match us, hl with | [_, _], _ => rfl)
  have h_plan_error : Ok P w K mg base "plan_error" 3 ["handler", "value"] (sp_plan_error K) := mkOk F_s_plan_error (He.glo_ok X G (c.fact 21 (f := .glo "plan_error") rfl)) (ok_plan_error T F_s_plan_error h_is_row h_are_ends) (F_s_plan_error.bindsN fun _ _ _ _ _ _ us hl => match us, hl with | [_, _], _ => rfl)
  have h_is_plan : Ok P w K mg base "is_plan" 4 ["handler", "value"] (sp_is_plan K) := mkOk F_s_is_plan (He.glo_ok X G (c.fact 22 (f := .glo "is_plan") rfl)) (ok_is_plan T F_s_is_plan h_plan_error) (F_s_is_plan.bindsN fun _ _ _ _ _ _ us hl => match us, hl with | [_, _], _ => rfl)
  have hm_led : OkM P w K mg base (He.ga K "Courier") "led" 1 ["self", "state", "index"] (sp_led K (He.ga K "Courier")) := mkOkM (He.meth_ok (c.fact 79 (f := .meth "Courier" "led") rfl)) (ok_led T F_m_led) (F_m_led.bindsN fun _ _ _ _ _ _ us hl => match us, hl with | [_, _, _], _ => rfl)
  have hm_is_free : OkM P w K mg base (He.ga K "Courier") "is_free" 1 ["self", "held", "index"] (sp_is_free K (He.ga K "Courier")) := mkOkM (He.meth_ok (c.fact 80 (f := .meth "Courier" "is_free") rfl)) (ok_is_free T F_m_is_free) (F_m_is_free.bindsN fun _ _ _ _ _ _ us hl => match us, hl with | [_, _, _], _ => rfl)
  have hm_may_hold : OkM P w K mg base (He.ga K "Courier") "may_hold" 1 ["self", "held", "index"] (sp_may_hold K (He.ga K "Courier")) := mkOkM (He.meth_ok (c.fact 81 (f := .meth "Courier" "may_hold") rfl)) (ok_may_hold T F_m_may_hold) (F_m_may_hold.bindsN fun _ _ _ _ _ _ us hl => match us, hl with | [_, _, _], _ => rfl)
  have hm_with_one : OkM P w K mg base (He.ga K "Courier") "with_one" 1 ["self", "held", "index"] (sp_with_one K (He.ga K "Courier")) := mkOkM (He.meth_ok (c.fact 82 (f := .meth "Courier" "with_one") rfl)) (ok_with_one T F_m_with_one) (F_m_with_one.bindsN fun _ _ _ _ _ _ us hl => match us, hl with | [_, _, _], _ => rfl)
  have hm_ready_kinds : OkM P w K mg base (He.ga K "Courier") "ready_kinds" 1 ["self", "held"] (sp_ready_kinds K (He.ga K "Courier")) := mkOkM (He.meth_ok (c.fact 83 (f := .meth "Courier" "ready_kinds") rfl)) (ok_ready_kinds T F_m_ready_kinds) (F_m_ready_kinds.bindsN fun _ _ _ _ _ _ us hl => match us, hl with | [_, _], _ => rfl)
  have hm_come_from : OkM P w K mg base (He.ga K "Courier") "come_from" 2 ["self", "pair"] (sp_come_from K (He.ga K "Courier")) := mkOkM (He.meth_ok (c.fact 84 (f := .meth "Courier" "come_from") rfl)) (ok_come_from T F_m_come_from hm_ready_kinds hm_led) (F_m_come_from.bindsN fun _ _ _ _ _ _ us hl => match us, hl with | [_, _], _ => rfl)
  have hm_send_from : OkM P w K mg base (He.ga K "Courier") "send_from" 2 ["self", "pair", "index"] (sp_send_from K (He.ga K "Courier")) := mkOkM (He.meth_ok (c.fact 85 (f := .meth "Courier" "send_from") rfl)) (ok_send_from T F_m_send_from hm_is_free hm_may_hold hm_with_one hm_led) (F_m_send_from.bindsN fun _ _ _ _ _ _ us hl => match us, hl with | [_, _, _], _ => rfl)
  have hm_come_at : OkM P w K mg base (He.ga K "Courier") "come_at" 3 ["self", "stand"] (sp_come_at K (He.ga K "Courier")) := mkOkM (He.meth_ok (c.fact 88 (f := .meth "Courier" "come_at") rfl)) (ok_come_at T F_m_come_at hm_come_from) (F_m_come_at.bindsN fun _ _ _ _ _ _ us hl => match us, hl with | [_, _], _ => rfl)
  have hm_sent_from : OkM P w K mg base (He.ga K "Courier") "sent_from" 3 ["self", "plan", "stand"] (sp_sent_from K (He.ga K "Courier")) := mkOkM (He.meth_ok (c.fact 87 (f := .meth "Courier" "sent_from") rfl)) (ok_sent_from T F_m_sent_from hm_send_from hm_led) (F_m_sent_from.bindsN fun _ _ _ _ _ _ us hl => match us, hl with | [_, _, _], _ => rfl)
  have hm_closed : OkM P w K mg base (He.ga K "Courier") "closed" 3 ["self", "pairs"] (sp_closed K (He.ga K "Courier")) := mkOkM (He.meth_ok (c.fact 86 (f := .meth "Courier" "closed") rfl)) (ok_closed T F_m_closed hm_come_from) (F_m_closed.bindsN fun _ _ _ _ _ _ us hl => match us, hl with | [_, _], _ => rfl)
  have h_all_moves : Ok P w K mg base "all_moves" 4 ["courier", "plan"] (sp_all_moves P w K (He.ga K "Courier")) := mkOk F_s_all_moves (He.glo_ok X G (c.fact 25 (f := .glo "all_moves") rfl)) (ok_all_moves T F_s_all_moves hm_come_at hm_sent_from) (F_s_all_moves.bindsN fun _ _ _ _ _ _ us hl => match us, hl with | [_, _], _ => rfl)
  have h_is_wrong : Ok P w K mg base "is_wrong" 1 ["plan", "classes", "stand"] (sp_is_wrong K) := mkOk F_s_is_wrong (He.glo_ok X G (c.fact 27 (f := .glo "is_wrong") rfl)) (ok_is_wrong T F_s_is_wrong) (F_s_is_wrong.bindsN fun _ _ _ _ _ _ us hl => match us, hl with | [_, _, _], _ => rfl)
  have h_sources : Ok P w K mg base "sources" 1 ["goals"] (sp_sources P w K) := mkOk F_s_sources (He.glo_ok X G (c.fact 26 (f := .glo "sources") rfl)) (ok_sources T F_s_sources) (F_s_sources.bindsN fun _ _ _ _ _ _ us hl => match us, hl with | [_], _ => rfl)
  have h_needs_of : Ok P w K mg base "needs_of" 2 ["come", "sent", "wrong"] (sp_needs_of P w K) := mkOk F_s_needs_of (He.glo_ok X G (c.fact 28 (f := .glo "needs_of") rfl)) (ok_needs_of T F_s_needs_of h_sources) (F_s_needs_of.bindsN fun _ _ _ _ _ _ us hl => match us, hl with | [_, _, _], _ => rfl)
  have h_near_ones : Ok P w K mg base "near_ones" 1 ["come", "need", "stands", "many"] (sp_near_ones P w K) := mkOk F_s_near_ones (He.glo_ok X G (c.fact 29 (f := .glo "near_ones") rfl)) (ok_near_ones T F_s_near_ones) (F_s_near_ones.bindsN fun _ _ _ _ _ _ us hl => match us, hl with | [_, _, _, _], _ => rfl)
  have h_first_wrong_log : Ok P w K mg base "first_wrong_log" 2 ["come", "sent", "need"] (sp_first_wrong_log P w K) := mkOk F_s_first_wrong_log (He.glo_ok X G (c.fact 30 (f := .glo "first_wrong_log") rfl)) (ok_first_wrong_log T F_s_first_wrong_log h_near_ones) (F_s_first_wrong_log.bindsN fun _ _ _ _ _ _ us hl => match us, hl with | [_, _, _], _ => rfl)
  have h_end_of : Ok P w K mg base "end_of" 1 ["handler", "log"] (sp_end_of K) := mkOk F_s_end_of (He.glo_ok X G (c.fact 31 (f := .glo "end_of") rfl)) (ok_end_of T F_s_end_of) (F_s_end_of.bindsN fun _ _ _ _ _ _ us hl => match us, hl with | [_, _], _ => rfl)
  have h_leads_to : Ok P w K mg base "leads_to" 3 ["courier", "pair", "goals", "index"] (sp_leads_to P w K (He.ga K "Courier")) := mkOk F_s_leads_to (He.glo_ok X G (c.fact 33 (f := .glo "leads_to") rfl)) (ok_leads_to T F_s_leads_to hm_send_from) (F_s_leads_to.bindsN fun _ _ _ _ _ _ us hl => match us, hl with | [_, _, _, _], _ => rfl)
  have h_pair_layers : Ok P w K mg base "pair_layers" 4 ["courier", "log"] (sp_pair_layers K (He.ga K "Courier")) := mkOk F_s_pair_layers (He.glo_ok X G (c.fact 32 (f := .glo "pair_layers") rfl)) (ok_pair_layers T F_s_pair_layers hm_closed hm_send_from) (F_s_pair_layers.bindsN fun _ _ _ _ _ _ us hl => match us, hl with | [_, _], _ => rfl)
  have h_good_pairs : Ok P w K mg base "good_pairs" 3 ["courier", "pairs", "goals"] (sp_good_pairs P w K (He.ga K "Courier")) := mkOk F_s_good_pairs (He.glo_ok X G (c.fact 34 (f := .glo "good_pairs") rfl)) (ok_good_pairs T F_s_good_pairs hm_come_from) (F_s_good_pairs.bindsN fun _ _ _ _ _ _ us hl => match us, hl with | [_, _, _], _ => rfl)
  have h_good_layers : Ok P w K mg base "good_layers" 5 ["courier", "log", "states"] (sp_good_layers P w K (He.ga K "Courier")) := mkOk F_s_good_layers (He.glo_ok X G (c.fact 35 (f := .glo "good_layers") rfl)) (ok_good_layers T F_s_good_layers h_pair_layers h_good_pairs h_leads_to) (F_s_good_layers.bindsN fun _ _ _ _ _ _ us hl => match us, hl with | [_, _, _], _ => rfl)
  have h_held_kinds : Ok P w K mg base "held_kinds" 2 ["courier", "log", "places"] (sp_held_kinds K (He.ga K "Courier")) := mkOk F_s_held_kinds (He.glo_ok X G (c.fact 36 (f := .glo "held_kinds") rfl)) (ok_held_kinds T F_s_held_kinds hm_with_one) (F_s_held_kinds.bindsN fun _ _ _ _ _ _ us hl => match us, hl with | [_, _, _], _ => rfl)
  have h_behind_event : Ok P w K mg base "behind_event" 2 ["courier", "log", "here", "sent", "places", "place"] (sp_behind_event K (He.ga K "Courier")) := mkOk F_s_behind_event (He.glo_ok X G (c.fact 37 (f := .glo "behind_event") rfl)) (ok_behind_event T F_s_behind_event hm_is_free hm_led) (F_s_behind_event.bindsN fun _ _ _ _ _ _ us hl => match us, hl with | [_, _, _, _, _, _], _ => rfl)
  have h_is_good : Ok P w K mg base "is_good" 3 ["courier", "log", "good", "here"] (sp_is_good P w K (He.ga K "Courier")) := mkOk F_s_is_good (He.glo_ok X G (c.fact 38 (f := .glo "is_good") rfl)) (ok_is_good T F_s_is_good h_held_kinds) (F_s_is_good.bindsN fun _ _ _ _ _ _ us hl => match us, hl with | [_, _, _, _], _ => rfl)
  have h_held_step : Ok P w K mg base "held_step" 4 ["courier", "log", "good", "here"] (sp_held_step P w K (He.ga K "Courier")) := mkOk F_s_held_step (He.glo_ok X G (c.fact 39 (f := .glo "held_step") rfl)) (ok_held_step T F_s_held_step h_behind_event h_is_good) (F_s_held_step.bindsN fun _ _ _ _ _ _ us hl => match us, hl with | [_, _, _, _], _ => rfl)
  have h_sent_step : Ok P w K mg base "sent_step" 4 ["courier", "log", "good", "here"] (sp_sent_step P w K (He.ga K "Courier")) := mkOk F_s_sent_step (He.glo_ok X G (c.fact 40 (f := .glo "sent_step") rfl)) (ok_sent_step T F_s_sent_step h_behind_event h_is_good) (F_s_sent_step.bindsN fun _ _ _ _ _ _ us hl => match us, hl with | [_, _, _, _], _ => rfl)
  have h_smallest_order : Ok P w K mg base "smallest_order" 6 ["courier", "log", "states"] (sp_smallest_order P w K (He.ga K "Courier")) := mkOk F_s_smallest_order (He.glo_ok X G (c.fact 41 (f := .glo "smallest_order") rfl)) (ok_smallest_order T F_s_smallest_order h_good_layers h_is_good h_held_step h_sent_step) (F_s_smallest_order.bindsN fun _ _ _ _ _ _ us hl => match us, hl with | [_, _, _], _ => rfl)
  have h_unlike_states : Ok P w K mg base "unlike_states" 3 ["handler", "state"] (sp_unlike_states K) := mkOk F_s_unlike_states (He.glo_ok X G (c.fact 42 (f := .glo "unlike_states") rfl)) (ok_unlike_states T F_s_unlike_states h_alike_classes) (F_s_unlike_states.bindsN fun _ _ _ _ _ _ us hl => match us, hl with | [_, _], _ => rfl)
  have h_told_by : Ok P w K mg base "told_by" 5 ["courier", "plan"] (sp_told_by P w K (He.ga K "Courier")) := mkOk F_s_told_by (He.glo_ok X G (c.fact 43 (f := .glo "told_by") rfl)) (ok_told_by T F_s_told_by h_alike_classes h_all_moves h_is_wrong h_needs_of h_first_wrong_log) (F_s_told_by.bindsN fun _ _ _ _ _ _ us hl => match us, hl with | [_, _], _ => rfl)
  have h_require_hold : Ok P w K mg base "require_hold" 2 ["hold"] sp_require_hold := mkOk F_s_require_hold (He.glo_ok X G (c.fact 18 (f := .glo "require_hold") rfl)) (ok_require_hold T F_s_require_hold h_is_integer) (F_s_require_hold.bindsN fun _ _ _ _ _ _ us hl => match us, hl with | [_], _ => rfl)
  have hk_Courier : OkK P w K mg base (He.ga K "Courier") "Courier" 1 ["self", "handler", "hold", "orderly", "kept"] (sp_init K (He.ga K "Courier")) := ⟨_, _, He.mkr_ok (c.fact 74 (f := .mkr "Courier") rfl), ok_init T F_m_init, He.glo_ok X G (c.fact 23 (f := .glo "Courier") rfl), F_m_init.bindsN fun _ _ _ _ _ _ us hl => match us, hl with | [_, _, _, _, _], _ => rfl⟩
  obtain ⟨ds, vds, bds⟩ := FunD.binds0 (ps := ["handler", "plan", "hold", "orderly", "kept"]) F_s_find_wrong 3 (List.cons_ne_nil _ _) rfl fun D doc pm an cdv ct us ks hl hk => match us, hl, ks, hk with | [_, _, _], _, [_, _], _ => ⟨_, _, _, _, _, _, rfl, rfl, _, _, _, _, _, _, rfl, rfl, rfl⟩
  have hd_find_wrong : OkD P w K mg base "find_wrong" 7 ["handler", "plan", "hold", "orderly", "kept"] [.bl false, .ref (kwdAt ("find_wrong", none) "kept" K)] (sp_find_wrong K) := ⟨_, _, ds, ok_find_wrong T F_s_find_wrong h_require_hold hk_Courier h_told_by h_smallest_order h_unlike_states h_end_of, He.glo_ok X G (c.fact 44 (f := .glo "find_wrong") rfl), F_s_find_wrong.kp, vds, bds⟩
  have h__law_opened : Ok P w K mg base "_law_opened" 1 ["_law_script"] (sp_opened K) := mkOk F_s_L_opened (He.glo_ok X G (c.fact 45 (f := .glo "_law_opened") rfl)) (ok_opened T F_s_L_opened) (F_s_L_opened.bindsN fun _ _ _ _ _ _ us hl => match us, hl with | [_], _ => rfl)
  have h__law_draw : Ok P w K mg base "_law_draw" 1 ["_law_box", "_law_many"] (sp_draw K) := mkOk F_s_L_draw (He.glo_ok X G (c.fact 46 (f := .glo "_law_draw") rfl)) (ok_draw T F_s_L_draw) (F_s_L_draw.bindsN fun _ _ _ _ _ _ us hl => match us, hl with | [_, _], _ => rfl)
  have h__law_one : Ok P w K mg base "_law_one" 2 ["_law_box", "_law_items"] (sp_one K) := mkOk F_s_L_one (He.glo_ok X G (c.fact 47 (f := .glo "_law_one") rfl)) (ok_one T F_s_L_one h__law_draw) (F_s_L_one.bindsN fun _ _ _ _ _ _ us hl => match us, hl with | [_, _], _ => rfl)
  have h__law_kind : Ok P w K mg base "_law_kind" 2 ["_law_box", "_law_states"] (sp_lkind K) := mkOk F_s_L_kind (He.glo_ok X G (c.fact 48 (f := .glo "_law_kind") rfl)) (ok_lkind T F_s_L_kind h__law_draw) (F_s_L_kind.bindsN fun _ _ _ _ _ _ us hl => match us, hl with | [_, _], _ => rfl)
  have h__law_handler : Ok P w K mg base "_law_handler" 3 ["_law_box", "_law_most", "_law_many"] (sp_lhandler K) := mkOk F_s_L_handler (He.glo_ok X G (c.fact 49 (f := .glo "_law_handler") rfl)) (ok_lhandler T F_s_L_handler h__law_draw h__law_one h__law_kind) (F_s_L_handler.bindsN fun _ _ _ _ _ _ us hl => match us, hl with | [_, _, _], _ => rfl)
  have h__law_log : Ok P w K mg base "_law_log" 2 ["_law_box", "_law_handler_here", "_law_most"] (sp_llog K) := mkOk F_s_L_log (He.glo_ok X G (c.fact 51 (f := .glo "_law_log") rfl)) (ok_llog T F_s_L_log h__law_draw) (F_s_L_log.bindsN fun _ _ _ _ _ _ us hl => match us, hl with | [_, _, _], _ => rfl)
  have h__law_lead : Ok P w K mg base "_law_lead" 1 ["_law_handler_here", "_law_state", "_law_log_here"] (sp_lead K) := mkOk F_s_L_lead (He.glo_ok X G (c.fact 52 (f := .glo "_law_lead") rfl)) (ok_lead T F_s_L_lead) (F_s_L_lead.bindsN fun _ _ _ _ _ _ us hl => match us, hl with | [_, _, _], _ => rfl)
  have h__law_parted_right : Ok P w K mg base "_law_parted_right" 4 ["_law_handler_here", "_law_one_here", "_law_other"] (sp_parted K) := mkOk F_s_L_parted_right (He.glo_ok X G (c.fact 53 (f := .glo "_law_parted_right") rfl)) (ok_parted T F_s_L_parted_right h_alike_classes h_tell_apart h__law_lead) (F_s_L_parted_right.bindsN fun _ _ _ _ _ _ us hl => match us, hl with | [_, _, _], _ => rfl)
  have h__law_plan : Ok P w K mg base "_law_plan" 3 ["_law_box", "_law_handler_here", "_law_most"] (sp_lplan K) := mkOk F_s_L_plan (He.glo_ok X G (c.fact 50 (f := .glo "_law_plan") rfl)) (ok_lplan T F_s_L_plan h__law_draw h__law_one) (F_s_L_plan.bindsN fun _ _ _ _ _ _ us hl => match us, hl with | [_, _, _], _ => rfl)
  exact ok_law T F_s_law dk h__law_opened h__law_draw h__law_handler h__law_plan h__law_log h__law_parted_right h_least_handler h_alike_classes h_state_behind h_reached_states h_first_log h_is_plan hd_find_wrong
end K14
open PySem PySem.W PySem.Calls PyProof.Rows
theorem PySem.Challenge.cw_twicesafe_k14_whole_least_handlers_answe_holds : PySem.Challenge.rw_twicesafe_k14_whole_least_handlers_answe.Holds := by
  w_on; o_law
  refine HandSHeadRun.head_any (r := OpenLaw.row PySem.Challenge.rw_twicesafe_k14_whole_least_handlers_answe) (q := view (OpenLaw.row PySem.Challenge.rw_twicesafe_k14_whole_least_handlers_answe).prog [64]) (H := K14.hookM) (ob := K14.ob) (M := 6000) (loose := K14.nms) (d := HandSHeadRun.topDef (OpenLaw.row PySem.Challenge.rw_twicesafe_k14_whole_least_handlers_answe).prog 64) (kwd := []) K14.ob_eq
    (by kernel_rfl) (fun s => by kernel_rfl) K14.run (by kernel_rfl) (by kernel_rfl) (by kernel_rfl) (by rfl) (by first | assumption | decide +kernel) (by decide +kernel) ⟨rfl, rfl, rfl, rfl, rfl, by decide +kernel⟩ ?hw ?hc
  case hw => w_witness2
  case hc =>
    refine L2.walk_ofE (l := PySem.Challenge.rw_twicesafe_k14_whole_least_handlers_answe) (n := 63) (k := 8) (x := "_law_script") (CX := L2.CX0) rfl (by decide) (by kernel_rfl) ⟨rfl, by decide, by decide⟩ ?F (fun _ _ _ _ z => z)
    intro w mg fa h Y G hmg0
    obtain ⟨K, KX, c, mb⟩ := Y
    have hmg : mg ("law" : PySem.Str) = some (.ref fa) := by
      have e : (HandSHeadRun.topDef (OpenLaw.row PySem.Challenge.rw_twicesafe_k14_whole_least_handlers_answe).prog 64).name = ("law" : PySem.Str) := by kernel_rfl
      rw [← e]
      exact hmg0
    obtain ⟨fd, hb, hF⟩ := K14.facts (P := (PySem.Challenge.rw_twicesafe_k14_whole_least_handlers_answe).prog) (w := w) KX G hmg c mb
    exact ⟨K, fd, K14.sp_law K, KX, hb, fun H a ns hl _ hS => ⟨a, ns, rfl, hS, Nat.le_trans hl (by decide), fun _ => rfl⟩, hF⟩
