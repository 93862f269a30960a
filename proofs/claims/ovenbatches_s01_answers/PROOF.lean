import PyProof.Rows.All
import Wide.All
import OpenK.AllK
import Wide.FinOn
import PySr99
import PyFlatLaws
import PyProof.EqAt
import PyProof.EqKinds
import PyProof.TupleCall
import KE.KLam
import KE.SortKeyHeap
import HandS.ForSpec
import HandS.ForMost
import HandS.Walk
import HandS.Conv
import HandS.SortInts
import HandS.SortKw
import HandS.Style
import HandS.Lambda
import HandS.EndTab
import PySem.Challenge.RW_ovenbatches_s01_answers
import Open.SpecLaws
import KE.OsGo
import KE.OsRun
namespace Ov
open Sr99 (Product Oven Batch)

/-! ### lists of whole numbers -/
theorem foldl_add (l : List Nat) : ∀ a : Nat, l.foldl (· + ·) a = a + l.sum := by
  induction l with
  | nil => intro a; rfl
  | cons x r ih =>
    intro a
    rw [List.foldl_cons, ih, List.sum_cons]
    omega
theorem sum_eq (l : List Nat) : SrCommon.sum l = l.sum := by
  unfold SrCommon.sum
  rw [foldl_add]
  omega
/-- each number of the one at most its like of the other; of one length -/
def LeL : List Nat → List Nat → Prop
  | [], [] => True
  | a :: r, b :: s => a ≤ b ∧ LeL r s
  | _, _ => False
theorem LeL.len : ∀ {a b : List Nat}, LeL a b → a.length = b.length
  | [], [], _ => rfl
  | [], _ :: _, h => h.elim
  | _ :: _, [], h => h.elim
  | _ :: r, _ :: s, h => congrArg (· + 1) (LeL.len (a := r) (b := s) h.2)
theorem LeL.of : ∀ {a b : List Nat}, a.length = b.length → (∀ i, a.getD i 0 ≤ b.getD i 0) → LeL a b
  | [], [], _, _ => True.intro
  | [], _ :: _, h, _ => by simp at h
  | _ :: _, [], h, _ => by simp at h
  | x :: r, y :: s, h, q => ⟨q 0, LeL.of (by simpa using h) fun i => by simpa using q (i + 1)⟩
theorem LeL.get : ∀ {a b : List Nat}, LeL a b → ∀ i, a.getD i 0 ≤ b.getD i 0
  | [], [], _, i => by simp
  | [], _ :: _, h, _ => h.elim
  | _ :: _, [], h, _ => h.elim
  | x :: r, y :: s, h, 0 => h.1
  | x :: r, y :: s, h, i + 1 => by simpa using LeL.get (a := r) (b := s) h.2 i
theorem sub_cons (x y : Nat) (r s : List Nat) : Sr99.subtract (x :: r) (y :: s) = (x - y) :: Sr99.subtract r s := rfl
theorem sub_len : ∀ {a b : List Nat}, a.length = b.length → (Sr99.subtract b a).length = b.length := fun {a b} h => by
  unfold Sr99.subtract
  rw [List.length_map, List.length_zip, h, Nat.min_self]
theorem sub_sum : ∀ {a b : List Nat}, LeL a b → (Sr99.subtract b a).sum + a.sum = b.sum
  | [], [], _ => rfl
  | [], _ :: _, h => h.elim
  | _ :: _, [], h => h.elim
  | x :: r, y :: s, h => by
    have ih := sub_sum (a := r) (b := s) h.2
    have h1 := h.1
    rw [sub_cons, List.sum_cons, List.sum_cons, List.sum_cons]
    omega
theorem sum_zero_iff : ∀ (l : List Nat), l.sum = 0 ↔ ∀ i, l.getD i 0 = 0
  | [] => by simp
  | x :: r => by
    rw [List.sum_cons]
    constructor
    · intro h i
      have h0 : r.sum = 0 := by omega
      cases i with
      | zero => show x = 0; omega
      | succ i => simpa using (sum_zero_iff r).mp h0 i
    · intro h
      have h0 := h 0
      have h1 := (sum_zero_iff r).mpr fun i => by simpa using h (i + 1)
      have h0' : x = 0 := h0
      omega
theorem getD_le_sum : ∀ (l : List Nat) (i : Nat), l.getD i 0 ≤ l.sum
  | [], i => by simp
  | x :: r, 0 => by
    rw [List.sum_cons]
    show x ≤ _
    omega
  | x :: r, i + 1 => by
    have := getD_le_sum r i
    rw [List.sum_cons]
    have e : (x :: r).getD (i + 1) 0 = r.getD i 0 := rfl
    omega
theorem getD_set (l : List Nat) (i j k : Nat) : (l.set i k).getD j 0 = if i = j ∧ i < l.length then k else l.getD j 0 := by
  simp only [List.getD_eq_getElem?_getD, List.getElem?_set]
  by_cases h : i = j
  · subst h
    by_cases h2 : i < l.length
    · simp [h2]
    · simp [h2]
  · simp [h]

/-! ### a sorted list is one -/
section
variable {R : Nat → Nat → Prop}
theorem sorted_one (as : ∀ a b, R a b → R b a → False) : ∀ {l m : List Nat}, l.Pairwise R → m.Pairwise R → (∀ x, x ∈ l ↔ x ∈ m) → l = m
  | [], [], _, _, _ => rfl
  | [], y :: m, _, _, h => absurd ((h y).mpr (List.mem_cons_self ..)) (by simp)
  | x :: l, [], _, _, h => absurd ((h x).mp (List.mem_cons_self ..)) (by simp)
  | x :: l, y :: m, hl, hm, h => by
    have hl' := List.pairwise_cons.mp hl
    have hm' := List.pairwise_cons.mp hm
    have e : x = y := by
      rcases List.mem_cons.mp ((h x).mp (List.mem_cons_self ..)) with e | e
      · exact e
      · rcases List.mem_cons.mp ((h y).mpr (List.mem_cons_self ..)) with q | q
        · exact q.symm
        · exact (as _ _ (hl'.1 _ q) (hm'.1 _ e)).elim
    subst e
    refine congrArg _ (sorted_one as hl'.2 hm'.2 fun z => ?_)
    constructor
    · intro hz
      rcases List.mem_cons.mp ((h z).mp (List.mem_cons_of_mem _ hz)) with e | e
      · subst e
        exact (as _ _ (hl'.1 _ hz) (hl'.1 _ hz)).elim
      · exact e
    · intro hz
      rcases List.mem_cons.mp ((h z).mpr (List.mem_cons_of_mem _ hz)) with e | e
      · subst e
        exact (as _ _ (hm'.1 _ hz) (hm'.1 _ hz)).elim
      · exact e
end
theorem two_ways {a b : Nat} (hab : a ≠ b) : ∀ {l : List Nat}, l.Nodup → [a, b].Sublist l → [b, a].Sublist l → False
  | [], _, h, _ => by simp at h
  | x :: l, nd, h1, h2 => by
    have nd' := List.nodup_cons.mp nd
    cases h1 with
    | cons _ h1 =>
      cases h2 with
      | cons _ h2 => exact two_ways hab nd'.2 h1 h2
      | cons_cons _ h2 => exact nd'.1 (h1.subset (by simp))
    | cons_cons _ h1 =>
      cases h2 with
      | cons _ h2 => exact nd'.1 (h2.subset (by simp))
      | cons_cons _ h2 => exact hab rfl

/-! ### the baking order -/
def pAt (ps : List Product) (i : Nat) : Product := ps.getD i ⟨0, 0, 0⟩
def order (ps : List Product) : List Nat := (List.range ps.length).mergeSort fun i j => decide ((pAt ps i).maxTemperature ≤ (pAt ps j).maxTemperature)
theorem order_perm (ps : List Product) : (order ps).Perm (List.range ps.length) := List.mergeSort_perm _ _
theorem order_len (ps : List Product) : (order ps).length = ps.length := by
  rw [(order_perm ps).length_eq, List.length_range]
theorem order_lt (ps : List Product) {i : Nat} (h : i ∈ order ps) : i < ps.length := List.mem_range.mp ((order_perm ps).mem_iff.mp h)
theorem order_nodup (ps : List Product) : (order ps).Nodup := (order_perm ps).nodup_iff.mpr List.nodup_range
def lx (ps : List Product) (i j : Nat) : Prop := (pAt ps i).maxTemperature < (pAt ps j).maxTemperature ∨ ((pAt ps i).maxTemperature = (pAt ps j).maxTemperature ∧ i < j)
theorem lx_as (ps : List Product) (a b : Nat) (h1 : lx ps a b) (h2 : lx ps b a) : False := by
  unfold lx at h1 h2
  omega
theorem range_pair : ∀ {n a b : Nat}, a < b → b < n → [a, b].Sublist (List.range n)
  | 0, _, _, _, h => absurd h (Nat.not_lt_zero _)
  | n + 1, a, b, hab, hb => by
    rw [List.range_succ]
    by_cases e : b = n
    · subst e
      show ([a] ++ [b]).Sublist (List.range b ++ [b])
      exact (List.singleton_sublist.mpr (List.mem_range.mpr hab)).append (List.Sublist.refl _)
    · exact (range_pair hab (by omega)).trans (List.sublist_append_left _ _)
theorem order_sorted (ps : List Product) : (order ps).Pairwise (lx ps) := by
  rw [List.pairwise_iff_forall_sublist]
  intro a b h
  have hle : (order ps).Pairwise fun i j => decide ((pAt ps i).maxTemperature ≤ (pAt ps j).maxTemperature) = true :=
    List.pairwise_mergeSort (fun a b c h1 h2 => by simp only [decide_eq_true_eq] at *; omega) (fun a b => by simp only [Bool.or_eq_true, decide_eq_true_eq]; omega) _
  have h1 := of_decide_eq_true (List.pairwise_iff_forall_sublist.mp hle h)
  have ne : a ≠ b := fun e => by
    subst e
    have := (order_nodup ps).sublist h
    simp at this
  by_cases e : (pAt ps a).maxTemperature = (pAt ps b).maxTemperature
  · refine .inr ⟨e, ?_⟩
    rcases Nat.lt_or_ge a b with q | q
    · exact q
    · have hb : b < a := by omega
      have hm : a < ps.length := order_lt ps (h.subset (by simp))
      have z := List.pair_sublist_mergeSort (le := fun i j => decide ((pAt ps i).maxTemperature ≤ (pAt ps j).maxTemperature)) (fun a b c h1 h2 => by simp only [decide_eq_true_eq] at *; omega) (fun a b => by simp only [Bool.or_eq_true, decide_eq_true_eq]; omega)
        (a := b) (b := a) (by simp only [decide_eq_true_eq]; omega) (range_pair hb hm)
      exact (two_ways ne (order_nodup ps) h z).elim
  · exact .inl (by omega)

/-! ### the specification's candidates -/
section
variable (o : Oven)
theorem pAt_eq (i : Nat) : Sr99.productAt o i = pAt o.products i := rfl
theorem ins_mem (x z : Nat) : ∀ l : List Nat, z ∈ Sr99.insertByMaximum o x l ↔ z = x ∨ z ∈ l
  | [] => by simp [Sr99.insertByMaximum]
  | y :: r => by
    unfold Sr99.insertByMaximum
    split
    · simp
    · rw [List.mem_cons, ins_mem x z r, List.mem_cons]
      constructor
      · rintro (h | h | h)
        · exact .inr (.inl h)
        · exact .inl h
        · exact .inr (.inr h)
      · rintro (h | h | h)
        · exact .inr (.inl h)
        · exact .inl h
        · exact .inr (.inr h)
theorem ins_sorted (x : Nat) : ∀ l : List Nat, l.Pairwise (lx o.products) → (∀ y ∈ l, y < x) → (Sr99.insertByMaximum o x l).Pairwise (lx o.products)
  | [], _, _ => by simp [Sr99.insertByMaximum]
  | y :: r, h, hx => by
    have h' := List.pairwise_cons.mp h
    unfold Sr99.insertByMaximum
    split
    · rename_i c
      refine List.pairwise_cons.mpr ⟨fun z hz => ?_, h⟩
      have c' : (pAt o.products x).maxTemperature < (pAt o.products y).maxTemperature := c
      rcases List.mem_cons.mp hz with e | e
      · subst e
        exact .inl c'
      · have := h'.1 z e
        unfold lx at this ⊢
        omega
    · rename_i c
      have c' : ¬ (pAt o.products x).maxTemperature < (pAt o.products y).maxTemperature := c
      refine List.pairwise_cons.mpr ⟨fun z hz => ?_, ins_sorted x r h'.2 fun y hy => hx y (List.mem_cons_of_mem _ hy)⟩
      rcases (ins_mem o x z r).mp hz with e | e
      · subst e
        have := hx y (List.mem_cons_self ..)
        unfold lx
        omega
      · exact h'.1 z e
theorem foldl_ins : ∀ (l acc : List Nat), l.Pairwise (· < ·) → (∀ y ∈ acc, ∀ x ∈ l, y < x) → acc.Pairwise (lx o.products) →
    (l.foldl (fun sorted i => Sr99.insertByMaximum o i sorted) acc).Pairwise (lx o.products) ∧ ∀ z, z ∈ l.foldl (fun sorted i => Sr99.insertByMaximum o i sorted) acc ↔ z ∈ l ∨ z ∈ acc
  | [], acc, _, _, h => ⟨h, fun z => by simp⟩
  | x :: r, acc, h1, h2, h3 => by
    have h1' := List.pairwise_cons.mp h1
    have ih := foldl_ins r (Sr99.insertByMaximum o x acc) h1'.2 (fun y hy z hz => by
      rcases (ins_mem o x y acc).mp hy with e | e
      · subst e
        exact h1'.1 z hz
      · exact h2 y e z (List.mem_cons_of_mem _ hz)) (ins_sorted o x acc h3 fun y hy => h2 y hy x (List.mem_cons_self ..))
    refine ⟨ih.1, fun z => ?_⟩
    rw [List.foldl_cons, ih.2 z, ins_mem, List.mem_cons]
    constructor
    · rintro (h | h | h)
      · exact .inl (.inr h)
      · exact .inl (.inl h)
      · exact .inr h
    · rintro ((h | h) | h)
      · exact .inr (.inl h)
      · exact .inl h
      · exact .inr (.inr h)
/-- is a candidate -/
def isC (rem : List Nat) (t i : Nat) : Bool := decide (0 < rem.getD i 0) && (decide ((Sr99.productAt o i).minTemperature ≤ t) && decide (t ≤ (Sr99.productAt o i).maxTemperature))
theorem range_lt (n : Nat) : (List.range n).Pairwise (· < ·) := List.pairwise_lt_range
theorem cands_is (rem : List Nat) (t : Nat) : Sr99.candidates o rem t = (order o.products).filter (isC o rem t) := by
  have h := foldl_ins o ((List.range o.products.length).filter (isC o rem t)) [] ((range_lt _).filter _) (fun y hy => absurd hy (by simp)) List.Pairwise.nil
  refine sorted_one (R := lx o.products) (lx_as o.products) h.1 ((order_sorted o.products).filter _) fun x => ?_
  show x ∈ List.foldl (fun sorted i => Sr99.insertByMaximum o i sorted) [] ((List.range o.products.length).filter (isC o rem t)) ↔ _
  rw [h.2 x, List.mem_filter, List.mem_filter, (order_perm o.products).mem_iff]
  simp
end

/-! ### filling -/
def put1 (p : Product) (tins t room : Nat) : Nat := if p.minTemperature ≤ t ∧ t ≤ p.maxTemperature then min tins room else 0
/-- the mirror of filled's loop: the rest of the baking order, the room, what is found -/
def fillL (ps : List Product) (rem : List Nat) (t : Nat) : List Nat → Nat → List Nat → List Nat
  | [], _, found => found
  | i :: r, room, found => fillL ps rem t r (room - put1 (pAt ps i) (rem.getD i 0) t room) (found.set i (put1 (pAt ps i) (rem.getD i 0) t room))
def filledM (ps : List Product) (rem : List Nat) (cap t : Nat) : List Nat := fillL ps rem t (order ps) cap (List.replicate ps.length 0)
theorem put1_le (p : Product) (a t room : Nat) : put1 p a t room ≤ room ∧ put1 p a t room ≤ a := by
  unfold put1
  split <;> omega
theorem set_zero (l : List Nat) (i : Nat) (h : l.getD i 0 = 0) : l.set i 0 = l := by
  apply List.ext_getElem
  · simp
  · intro j h1 h2
    rw [List.getElem_set]
    split
    · rename_i e
      subst e
      rw [List.getD_eq_getElem?_getD, List.getElem?_eq_getElem h2] at h
      exact h.symm
    · rfl
theorem fill_filter (o : Oven) (rem : List Nat) (t : Nat) : ∀ (L : List Nat) (room : Nat) (found : List Nat), L.Nodup → (∀ i ∈ L, found.getD i 0 = 0) →
    fillL o.products rem t L room found = Sr99.fillFrom rem (L.filter (isC o rem t)) room found
  | [], _, _, _, _ => rfl
  | i :: r, room, found, nd, hz => by
    have nd' := List.nodup_cons.mp nd
    by_cases c : isC o rem t i = true
    · rw [List.filter_cons_of_pos c]
      have c' := c
      unfold isC at c'
      simp only [Bool.and_eq_true, decide_eq_true_eq] at c'
      have e : put1 (pAt o.products i) (rem.getD i 0) t room = min room (rem.getD i 0) := by
        unfold put1
        rw [if_pos (show (pAt o.products i).minTemperature ≤ t ∧ t ≤ (pAt o.products i).maxTemperature from c'.2)]
        omega
      show fillL o.products rem t r (room - put1 _ _ t room) (found.set i (put1 _ _ t room)) = Sr99.fillFrom rem (r.filter (isC o rem t)) (room - min room (rem.getD i 0)) (found.set i (min room (rem.getD i 0)))
      rw [e]
      refine fill_filter o rem t r _ _ nd'.2 fun j hj => ?_
      have nij : ¬ (i = j ∧ i < found.length) := fun q => nd'.1 (q.1 ▸ hj)
      rw [getD_set, if_neg nij]
      exact hz j (List.mem_cons_of_mem _ hj)
    · rw [List.filter_cons_of_neg c]
      have e : put1 (pAt o.products i) (rem.getD i 0) t room = 0 := by
        unfold put1
        split
        · rename_i h
          have h0 : ¬ 0 < rem.getD i 0 := fun q => c (by
            unfold isC
            simp only [Bool.and_eq_true, decide_eq_true_eq]
            exact ⟨q, show (pAt o.products i).minTemperature ≤ t ∧ t ≤ (pAt o.products i).maxTemperature from h⟩)
          omega
        · rfl
      show fillL o.products rem t r (room - put1 _ _ t room) (found.set i (put1 _ _ t room)) = _
      rw [e, Nat.sub_zero, set_zero _ _ (hz i (List.mem_cons_self ..))]
      exact fill_filter o rem t r _ _ nd'.2 fun j hj => hz j (List.mem_cons_of_mem _ hj)
theorem replicate_zero (n i : Nat) : (List.replicate n 0).getD i 0 = 0 := by
  rw [List.getD_eq_getElem?_getD, List.getElem?_replicate]
  split <;> rfl
theorem map_zero (ps : List Product) : (ps.map fun _ => 0) = List.replicate ps.length 0 := by
  induction ps with
  | nil => rfl
  | cons p r ih =>
    rw [List.map_cons, ih, List.length_cons, List.replicate_succ]
theorem filled_is (o : Oven) (rem : List Nat) (t : Nat) : filledM o.products rem o.capacity t = Sr99.fill o rem t := by
  unfold filledM Sr99.fill
  rw [cands_is, map_zero]
  exact fill_filter o rem t _ _ _ (order_nodup _) fun i _ => replicate_zero _ _
theorem fillL_len (ps : List Product) (rem : List Nat) (t : Nat) : ∀ (L : List Nat) (room : Nat) (found : List Nat), (fillL ps rem t L room found).length = found.length
  | [], _, _ => rfl
  | i :: r, room, found => by
    show (fillL ps rem t r _ _).length = _
    rw [fillL_len ps rem t r, List.length_set]
theorem filledM_len (ps : List Product) (rem : List Nat) (cap t : Nat) : (filledM ps rem cap t).length = ps.length := by
  unfold filledM
  rw [fillL_len, List.length_replicate]
theorem fill_len (o : Oven) (rem : List Nat) (t : Nat) : (Sr99.fill o rem t).length = o.products.length := by
  rw [← filled_is, filledM_len]
theorem fillL_le (ps : List Product) (rem : List Nat) (t : Nat) : ∀ (L : List Nat) (room : Nat) (found : List Nat), (∀ j, found.getD j 0 ≤ rem.getD j 0) → ∀ j, (fillL ps rem t L room found).getD j 0 ≤ rem.getD j 0
  | [], _, _, h, j => h j
  | i :: r, room, found, h, j => by
    refine fillL_le ps rem t r _ _ (fun k => ?_) j
    rw [getD_set]
    split
    · rename_i q
      rw [← q.1]
      exact (put1_le _ _ _ _).2
    · exact h k
theorem fill_le (o : Oven) (rem : List Nat) (t : Nat) (hl : rem.length = o.products.length) : LeL (Sr99.fill o rem t) rem := by
  refine LeL.of (by rw [fill_len, hl]) fun j => ?_
  rw [← filled_is]
  exact fillL_le _ _ _ _ _ _ (fun k => by rw [replicate_zero]; exact Nat.zero_le _) j
/-- what is put stays put -/
theorem fillFrom_keeps (rem : List Nat) : ∀ (L : List Nat) (room : Nat) (found : List Nat) (j : Nat), j ∉ L → (Sr99.fillFrom rem L room found).getD j 0 = found.getD j 0
  | [], _, _, _, _ => rfl
  | i :: r, room, found, j, h => by
    show (Sr99.fillFrom rem r _ _).getD j 0 = _
    rw [fillFrom_keeps rem r _ _ j fun q => h (List.mem_cons_of_mem _ q), getD_set, if_neg]
    exact fun q => h (q.1 ▸ List.mem_cons_self ..)
/-- a batch at a product's own highest temperature is not empty -/
theorem fill_pos (o : Oven) (rem : List Nat) (t i : Nat) (hi : i < o.products.length) (hr : 0 < rem.getD i 0) (h1 : (Sr99.productAt o i).minTemperature ≤ t) (h2 : t ≤ (Sr99.productAt o i).maxTemperature) (hc : 1 ≤ o.capacity) :
    0 < (Sr99.fill o rem t).sum := by
  have hm : i ∈ Sr99.candidates o rem t := by
    rw [cands_is, List.mem_filter, (order_perm o.products).mem_iff]
    exact ⟨List.mem_range.mpr hi, by unfold isC; simp only [Bool.and_eq_true, decide_eq_true_eq]; exact ⟨hr, h1, h2⟩⟩
  have nd : (Sr99.candidates o rem t).Nodup := by
    rw [cands_is]
    exact (order_nodup _).filter _
  have each : ∀ j ∈ Sr99.candidates o rem t, 0 < rem.getD j 0 ∧ j < o.products.length := fun j hj => by
    rw [cands_is, List.mem_filter] at hj
    refine ⟨?_, order_lt _ hj.1⟩
    have := hj.2
    unfold isC at this
    simp only [Bool.and_eq_true, decide_eq_true_eq] at this
    exact this.1
  unfold Sr99.fill
  cases e : Sr99.candidates o rem t with
  | nil => rw [e] at hm; simp at hm
  | cons j r =>
    rw [e] at nd each
    have nd' := List.nodup_cons.mp nd
    have hj := each j (List.mem_cons_self ..)
    have z := fillFrom_keeps rem r (o.capacity - min o.capacity (rem.getD j 0)) ((o.products.map fun _ => 0).set j (min o.capacity (rem.getD j 0))) j nd'.1
    rw [getD_set, if_pos ⟨rfl, by rw [List.length_map]; exact hj.2⟩] at z
    refine Nat.lt_of_lt_of_le ?_ (getD_le_sum _ j)
    show 0 < (Sr99.fillFrom rem r _ _).getD j 0
    rw [z]
    omega

/-! ### the planned batches -/
/-- valid -/
structure OkP (p : Product) : Prop where
  le : p.minTemperature ≤ p.maxTemperature
  top : p.maxTemperature ≤ 400
  tins : p.tins ≤ 9
structure OkO (o : Oven) : Prop where
  few : o.products.length ≤ 6
  each : ∀ p ∈ o.products, OkP p
  cap1 : 1 ≤ o.capacity
  cap2 : o.capacity ≤ 20
theorem OkO.at {o : Oven} (k : OkO o) {i : Nat} (h : i < o.products.length) : OkP (Sr99.productAt o i) := by
  have e : Sr99.productAt o i = o.products[i] := by
    unfold Sr99.productAt
    rw [List.getD_eq_getElem?_getD, List.getElem?_eq_getElem h] <;> rfl
  rw [e]
  exact k.each _ (List.getElem_mem h)
/-- one more product looked at -/
def urg (o : Oven) (best : Option Nat) (i : Nat) : Option Nat := match best with
  | none => some i
  | some j => if (Sr99.productAt o i).maxTemperature < (Sr99.productAt o j).maxTemperature then some i else some j
theorem urg_fold (o : Oven) : ∀ (l : List Nat) (b : Nat), ∃ j, l.foldl (urg o) (some b) = some j ∧ (j = b ∨ j ∈ l) ∧ (Sr99.productAt o j).maxTemperature ≤ (Sr99.productAt o b).maxTemperature ∧ ∀ x ∈ l, (Sr99.productAt o j).maxTemperature ≤ (Sr99.productAt o x).maxTemperature
  | [], b => ⟨b, rfl, .inl rfl, Nat.le_refl _, fun x h => absurd h (by simp)⟩
  | i :: r, b => by
    rw [List.foldl_cons]
    show ∃ j, r.foldl (urg o) (if (Sr99.productAt o i).maxTemperature < (Sr99.productAt o b).maxTemperature then some i else some b) = some j ∧ _
    split
    · rename_i c
      obtain ⟨j, e, m, h1, h2⟩ := urg_fold o r i
      refine ⟨j, e, ?_, by omega, fun x hx => ?_⟩
      · rcases m with m | m
        · exact .inr (m ▸ List.mem_cons_self ..)
        · exact .inr (List.mem_cons_of_mem _ m)
      · rcases List.mem_cons.mp hx with q | q
        · rw [q]; exact h1
        · exact h2 x q
    · rename_i c
      obtain ⟨j, e, m, h1, h2⟩ := urg_fold o r b
      refine ⟨j, e, ?_, h1, fun x hx => ?_⟩
      · rcases m with m | m
        · exact .inl m
        · exact .inr (List.mem_cons_of_mem _ m)
      · rcases List.mem_cons.mp hx with q | q
        · rw [q]; omega
        · exact h2 x q
theorem urgent_is (o : Oven) (rem : List Nat) : Sr99.mostUrgent o rem = ((List.range o.products.length).filter fun i => decide (0 < rem.getD i 0)).foldl (urg o) none := rfl
theorem urgent_some (o : Oven) (rem : List Nat) (hl : rem.length = o.products.length) (h : 0 < rem.sum) : ∃ i, Sr99.mostUrgent o rem = some i ∧ i < o.products.length ∧ 0 < rem.getD i 0 ∧
    ∀ j, j < o.products.length → 0 < rem.getD j 0 → (Sr99.productAt o i).maxTemperature ≤ (Sr99.productAt o j).maxTemperature := by
  rw [urgent_is]
  cases e : (List.range o.products.length).filter fun i => decide (0 < rem.getD i 0) with
  | nil =>
    have z : rem.sum = 0 := (sum_zero_iff rem).mpr fun i => by
      rcases Nat.lt_or_ge i o.products.length with q | q
      · have := List.filter_eq_nil_iff.mp e i (List.mem_range.mpr q)
        simp only [decide_eq_true_eq] at this
        omega
      · rw [List.getD_eq_getElem?_getD, List.getElem?_eq_none (by omega)] <;> rfl
    omega
  | cons b r =>
    obtain ⟨j, q, m, h1, h2⟩ := urg_fold o r b
    have mem : ∀ x, x ∈ (List.range o.products.length).filter (fun i => decide (0 < rem.getD i 0)) ↔ x < o.products.length ∧ 0 < rem.getD x 0 := fun x => by
      rw [List.mem_filter, List.mem_range, decide_eq_true_eq]
    rw [e] at mem
    have mj : j ∈ b :: r := by
      rcases m with m | m
      · rw [m]; exact List.mem_cons_self ..
      · exact List.mem_cons_of_mem _ m
    refine ⟨j, q, ((mem j).mp mj).1, ((mem j).mp mj).2, fun x hx hp => ?_⟩
    rcases List.mem_cons.mp ((mem x).mpr ⟨hx, hp⟩) with z | z
    · rw [z]; exact h1
    · exact h2 x z
theorem urgent_none (o : Oven) (rem : List Nat) (h : rem.sum = 0) : Sr99.mostUrgent o rem = none := by
  have e : ((List.range o.products.length).filter fun i => decide (0 < rem.getD i 0)) = [] := List.filter_eq_nil_iff.mpr fun i _ => by
    have := (sum_zero_iff rem).mp h i
    simp only [decide_eq_true_eq]
    omega
  rw [urgent_is, e]
  rfl
theorem batches_end (o : Oven) (rem : List Nat) (h : rem.sum = 0) : ∀ fuel, Sr99.batchesFrom o fuel rem = []
  | 0 => rfl
  | fuel + 1 => by
    unfold Sr99.batchesFrom
    rw [urgent_none o rem h]
theorem batches_turn (o : Oven) (rem : List Nat) (fuel i : Nat) (h : Sr99.mostUrgent o rem = some i) : Sr99.batchesFrom o (fuel + 1) rem =
    ⟨(Sr99.productAt o i).maxTemperature, Sr99.fill o rem (Sr99.productAt o i).maxTemperature⟩ :: Sr99.batchesFrom o fuel (Sr99.subtract rem (Sr99.fill o rem (Sr99.productAt o i).maxTemperature)) := by
  rw [Sr99.batchesFrom, h]
/-- a turn of planned's loop -/
theorem plan_turn (o : Oven) (k : OkO o) (rem : List Nat) (hl : rem.length = o.products.length) (h : 0 < rem.sum) : ∃ i, i < o.products.length ∧ 0 < rem.getD i 0 ∧ (∀ j, j < o.products.length → 0 < rem.getD j 0 → (pAt o.products i).maxTemperature ≤ (pAt o.products j).maxTemperature) ∧
    (∀ fuel, Sr99.batchesFrom o (fuel + 1) rem = ⟨(pAt o.products i).maxTemperature, Sr99.fill o rem (pAt o.products i).maxTemperature⟩ :: Sr99.batchesFrom o fuel (Sr99.subtract rem (Sr99.fill o rem (pAt o.products i).maxTemperature))) ∧
    LeL (Sr99.fill o rem (pAt o.products i).maxTemperature) rem ∧ (Sr99.subtract rem (Sr99.fill o rem (pAt o.products i).maxTemperature)).length = o.products.length ∧ (Sr99.subtract rem (Sr99.fill o rem (pAt o.products i).maxTemperature)).sum < rem.sum := by
  obtain ⟨i, e, h1, h2, h3⟩ := urgent_some o rem hl h
  have le := fill_le o rem (pAt o.products i).maxTemperature hl
  have pos := fill_pos o rem (pAt o.products i).maxTemperature i h1 h2 (k.at h1).le (Nat.le_refl _) k.cap1
  have sm := sub_sum le
  refine ⟨i, h1, h2, h3, fun fuel => batches_turn o rem fuel i e, le, ?_, by omega⟩
  rw [sub_len le.len, hl]
theorem tins_sum : ∀ (ps : List Product), (∀ p ∈ ps, OkP p) → ps.length ≤ 6 → (ps.map fun p => p.tins).sum ≤ 54 := by
  have go : ∀ (ps : List Product), (∀ p ∈ ps, OkP p) → (ps.map fun p => p.tins).sum ≤ 9 * ps.length := by
    intro ps
    induction ps with
    | nil => intro _; exact Nat.le_refl _
    | cons p r ih =>
      intro h
      have := ih fun q hq => h q (List.mem_cons_of_mem _ hq)
      have := (h p (List.mem_cons_self ..)).tins
      rw [List.map_cons, List.sum_cons, List.length_cons]
      omega
  intro ps h hl
  have := go ps h
  omega
end Ov

namespace Ov
open Sr99 (Product Oven Batch)
/-! ### total change -/
def absI (i : Int) : Int := if i < 0 then -i else i
/-- the mirror of total_change -/
def tcI (start : Int) (l : List Int) : Int := (l.foldl (fun (s : Int × Int) t => (s.1 + absI (t - s.2), t)) (0, start)).1
def tcN (start : Nat) : List Nat → Nat
  | [] => 0
  | t :: r => Sr99.difference t start + tcN t r
theorem tc_fold (l : List Nat) : ∀ (a h : Nat), (l.foldl (fun (acc : Nat × Nat) t => (acc.1 + Sr99.difference t acc.2, t)) (a, h)).1 = a + tcN h l := by
  induction l with
  | nil => intro a h; rfl
  | cons t r ih =>
    intro a h
    rw [List.foldl_cons, ih]
    show a + Sr99.difference t h + tcN t r = a + (Sr99.difference t h + tcN t r)
    omega
theorem total_eq (start : Nat) (l : List Nat) : Sr99.totalChange start l = tcN start l := by
  unfold Sr99.totalChange
  rw [tc_fold]
  omega
theorem abs_diff (a b : Nat) : absI ((a : Int) - (b : Int)) = ((Sr99.difference a b : Nat) : Int) := by
  unfold absI Sr99.difference
  split <;> omega
theorem tcI_fold (l : List Nat) : ∀ (a h : Nat), ((l.map fun (x : Nat) => (x : Int)).foldl (fun (s : Int × Int) t => (s.1 + absI (t - s.2), t)) ((a : Int), (h : Int))).1 = ((a + tcN h l : Nat) : Int) := by
  induction l with
  | nil => intro a h; rfl
  | cons t r ih =>
    intro a h
    rw [List.map_cons, List.foldl_cons]
    show ((r.map fun (x : Nat) => (x : Int)).foldl (fun (s : Int × Int) t => (s.1 + absI (t - s.2), t)) ((a : Int) + absI ((t : Int) - (h : Int)), (t : Int))).1 = _
    rw [abs_diff]
    have e : (a : Int) + ((Sr99.difference t h : Nat) : Int) = ((a + Sr99.difference t h : Nat) : Int) := by omega
    rw [e, ih]
    show ((a + Sr99.difference t h + tcN t r : Nat) : Int) = ((a + (Sr99.difference t h + tcN t r) : Nat) : Int)
    omega
theorem tcI_eq (start : Nat) (l : List Nat) : tcI (start : Int) (SrCommon.natsToInts l) = ((Sr99.totalChange start l : Nat) : Int) := by
  rw [total_eq]
  have := tcI_fold l 0 start
  unfold tcI SrCommon.natsToInts
  rw [Nat.zero_add] at this
  exact this

/-! ### sorted temperatures -/
theorem insT_perm (x : Batch) : ∀ l : List Batch, (Sr99.insertByTemperature x l).Perm (x :: l)
  | [] => List.Perm.refl _
  | y :: r => by
    unfold Sr99.insertByTemperature
    split
    · exact List.Perm.refl _
    · exact ((insT_perm x r).cons y).trans (List.Perm.swap x y r)
theorem sortT_fold : ∀ (l acc : List Batch), (l.foldl (fun sorted x => Sr99.insertByTemperature x sorted) acc).Perm (l ++ acc)
  | [], acc => List.Perm.refl _
  | x :: r, acc => by
    rw [List.foldl_cons]
    refine (sortT_fold r _).trans ?_
    refine ((insT_perm x acc).append_left r).trans ?_
    show (r ++ x :: acc).Perm (x :: r ++ acc)
    exact List.perm_middle
theorem sortT_perm (l : List Batch) : (Sr99.sortBatches l).Perm l := by
  have := sortT_fold l []
  rw [List.append_nil] at this
  exact this
theorem insT_sorted (x : Batch) : ∀ l : List Batch, l.Pairwise (fun a b => a.temperature ≤ b.temperature) → (Sr99.insertByTemperature x l).Pairwise (fun a b => a.temperature ≤ b.temperature)
  | [], _ => by simp [Sr99.insertByTemperature]
  | y :: r, h => by
    have h' := List.pairwise_cons.mp h
    unfold Sr99.insertByTemperature
    split
    · rename_i c
      refine List.pairwise_cons.mpr ⟨fun z hz => ?_, h⟩
      rcases List.mem_cons.mp hz with e | e
      · subst e; omega
      · have := h'.1 z e; omega
    · rename_i c
      refine List.pairwise_cons.mpr ⟨fun z hz => ?_, insT_sorted x r h'.2⟩
      rcases List.mem_cons.mp ((insT_perm x r).mem_iff.mp hz) with e | e
      · subst e; omega
      · exact h'.1 z e
theorem sortT_sorted (l : List Batch) : (Sr99.sortBatches l).Pairwise (fun a b => a.temperature ≤ b.temperature) := by
  have go : ∀ (l acc : List Batch), acc.Pairwise (fun a b => a.temperature ≤ b.temperature) → (l.foldl (fun sorted x => Sr99.insertByTemperature x sorted) acc).Pairwise (fun a b => a.temperature ≤ b.temperature) := by
    intro l
    induction l with
    | nil => intro acc h; exact h
    | cons x r ih => intro acc h; exact ih _ (insT_sorted x acc h)
  exact go l [] List.Pairwise.nil
/-- two ascending arrangements are one -/
theorem asc_one : ∀ {l m : List Int}, l.Pairwise (· ≤ ·) → m.Pairwise (· ≤ ·) → l.Perm m → l = m
  | [], m, _, _, p => (List.Perm.nil_eq p)
  | x :: l, [], _, _, p => by
    have := p.length_eq
    simp at this
  | x :: l, y :: m, hl, hm, p => by
    have hl' := List.pairwise_cons.mp hl
    have hm' := List.pairwise_cons.mp hm
    have e : x = y := by
      have h1 : x ≤ y := by
        rcases List.mem_cons.mp (p.mem_iff.mpr (List.mem_cons_self (a := y) (l := m))) with q | q
        · omega
        · exact hl'.1 _ q
      have h2 : y ≤ x := by
        rcases List.mem_cons.mp (p.mem_iff.mp (List.mem_cons_self (a := x) (l := l))) with q | q
        · omega
        · exact hm'.1 _ q
      omega
    subst e
    rw [asc_one hl'.2 hm'.2 ((List.perm_cons x).mp p)]
def tempsN (l : List Batch) : List Nat := Sr99.temperaturesOf l
theorem ints_asc (l : List Nat) (h : l.Pairwise (· ≤ ·)) : (SrCommon.natsToInts l).Pairwise (· ≤ ·) := by
  unfold SrCommon.natsToInts
  rw [List.pairwise_map]
  exact h.imp fun h => by omega
theorem asc_temps (l : List Batch) : (Sr99.temperaturesOf (Sr99.sortBatches l)).Pairwise (· ≤ ·) := by
  unfold Sr99.temperaturesOf
  rw [List.pairwise_map]
  exact sortT_sorted l
/-- what sorted hands over -/
theorem rising_is (bs : List Batch) {ns : List Int} (p : ns.Perm (SrCommon.natsToInts (Sr99.temperaturesOf bs))) (h : ns.Pairwise (· ≤ ·)) : ns = SrCommon.natsToInts (Sr99.temperaturesOf (Sr99.sortBatches bs)) :=
  asc_one h (ints_asc _ (asc_temps bs)) (p.trans (((sortT_perm bs).symm.map _).map _))
/-- the mirror of best_ordered, behind sorted -/
def bestI (start : Int) (rising : List Int) : List Int := if tcI start rising.reverse < tcI start rising then rising.reverse else rising
theorem ints_rev (l : List Nat) : (SrCommon.natsToInts l).reverse = SrCommon.natsToInts l.reverse := by
  unfold SrCommon.natsToInts
  rw [List.map_reverse]
theorem temps_rev (l : List Batch) : Sr99.temperaturesOf l.reverse = (Sr99.temperaturesOf l).reverse := by
  unfold Sr99.temperaturesOf
  rw [List.map_reverse]
theorem best_is (start : Nat) (bs : List Batch) : bestI (start : Int) (SrCommon.natsToInts (Sr99.temperaturesOf (Sr99.sortBatches bs))) = SrCommon.natsToInts (Sr99.temperaturesOf (Sr99.orderBatches start bs)) := by
  unfold bestI Sr99.orderBatches
  rw [ints_rev, ← temps_rev, tcI_eq, tcI_eq]
  by_cases c : Sr99.totalChange start (Sr99.temperaturesOf (Sr99.sortBatches bs).reverse) < Sr99.totalChange start (Sr99.temperaturesOf (Sr99.sortBatches bs))
  · rw [if_pos (by omega)]
    show _ = SrCommon.natsToInts (Sr99.temperaturesOf (if _ then _ else _))
    rw [if_pos c]
  · rw [if_neg (by omega)]
    show _ = SrCommon.natsToInts (Sr99.temperaturesOf (if _ then _ else _))
    rw [if_neg c]

/-! ### the smallest change -/
/-- an ascending list, from a start at most its first -/
theorem tc_up : ∀ (l : List Nat) (a : Nat), (a :: l).Pairwise (· ≤ ·) → tcN a l = (a :: l).getLast (List.cons_ne_nil _ _) - a ∧ a ≤ (a :: l).getLast (List.cons_ne_nil _ _)
  | [], a, _ => by
    show 0 = a - a ∧ a ≤ a
    omega
  | t :: r, a, h => by
    have h' := List.pairwise_cons.mp h
    have ih := tc_up r t h'.2
    have h1 := h'.1 t (List.mem_cons_self ..)
    rw [List.getLast_cons (List.cons_ne_nil t r)]
    show Sr99.difference t a + tcN t r = _ ∧ _
    rw [ih.1]
    have h2 := ih.2
    unfold Sr99.difference
    omega
theorem tc_down : ∀ (l : List Nat) (a : Nat), (a :: l).Pairwise (fun x y => y ≤ x) → tcN a l = a - (a :: l).getLast (List.cons_ne_nil _ _) ∧ (a :: l).getLast (List.cons_ne_nil _ _) ≤ a
  | [], a, _ => by
    show 0 = a - a ∧ a ≤ a
    omega
  | t :: r, a, h => by
    have h' := List.pairwise_cons.mp h
    have ih := tc_down r t h'.2
    have h1 := h'.1 t (List.mem_cons_self ..)
    rw [List.getLast_cons (List.cons_ne_nil t r)]
    show Sr99.difference t a + tcN t r = _ ∧ _
    rw [ih.1]
    have h2 := ih.2
    unfold Sr99.difference
    omega
theorem fold_min (l : List Nat) : ∀ a : Nat, (l.foldl min a = a ∨ l.foldl min a ∈ l) ∧ l.foldl min a ≤ a ∧ ∀ x ∈ l, l.foldl min a ≤ x := by
  induction l with
  | nil => intro a; exact ⟨.inl rfl, Nat.le_refl _, fun x h => absurd h (by simp)⟩
  | cons t r ih =>
    intro a
    rw [List.foldl_cons]
    obtain ⟨h1, h2, h3⟩ := ih (min a t)
    refine ⟨?_, by omega, fun x hx => ?_⟩
    · rcases h1 with h1 | h1
      · rw [h1]
        rcases Nat.le_total a t with q | q
        · left; omega
        · right; rw [Nat.min_eq_right q]; exact List.mem_cons_self ..
      · exact .inr (List.mem_cons_of_mem _ h1)
    · rcases List.mem_cons.mp hx with e | e
      · subst e; omega
      · exact h3 x e
theorem fold_max (l : List Nat) : ∀ a : Nat, (l.foldl max a = a ∨ l.foldl max a ∈ l) ∧ a ≤ l.foldl max a ∧ ∀ x ∈ l, x ≤ l.foldl max a := by
  induction l with
  | nil => intro a; exact ⟨.inl rfl, Nat.le_refl _, fun x h => absurd h (by simp)⟩
  | cons t r ih =>
    intro a
    rw [List.foldl_cons]
    obtain ⟨h1, h2, h3⟩ := ih (max a t)
    refine ⟨?_, by omega, fun x hx => ?_⟩
    · rcases h1 with h1 | h1
      · rw [h1]
        rcases Nat.le_total a t with q | q
        · right; rw [Nat.max_eq_right q]; exact List.mem_cons_self ..
        · left; omega
      · exact .inr (List.mem_cons_of_mem _ h1)
    · rcases List.mem_cons.mp hx with e | e
      · subst e; omega
      · exact h3 x e
theorem mem_le_last : ∀ {l : List Nat} (hn : l ≠ []), l.Pairwise (· ≤ ·) → ∀ x ∈ l, x ≤ l.getLast hn
  | [], hn, _, _, _ => absurd rfl hn
  | [a], _, _, x, hx => by
    have : x = a := by simpa using hx
    subst this
    exact Nat.le_refl _
  | a :: b :: r, _, h, x, hx => by
    have h' := List.pairwise_cons.mp h
    rw [List.getLast_cons (List.cons_ne_nil b r)]
    rcases List.mem_cons.mp hx with e | e
    · subst e
      exact h'.1 _ (List.getLast_mem _)
    · exact mem_le_last _ h'.2 x e
theorem min_change_is (start : Nat) (bs : List Batch) : Sr99.totalChange start (Sr99.temperaturesOf (Sr99.orderBatches start bs)) = Sr99.minChange start (Sr99.temperaturesOf bs) := by
  have e0 : Sr99.totalChange start (Sr99.temperaturesOf (Sr99.orderBatches start bs)) = min (Sr99.totalChange start (Sr99.temperaturesOf (Sr99.sortBatches bs)).reverse) (Sr99.totalChange start (Sr99.temperaturesOf (Sr99.sortBatches bs))) := by
    show Sr99.totalChange start (Sr99.temperaturesOf (if _ then _ else _)) = _
    split
    · rename_i c
      rw [temps_rev] at c ⊢
      omega
    · rename_i c
      rw [temps_rev] at c
      omega
  rw [e0]
  have pm : (Sr99.temperaturesOf (Sr99.sortBatches bs)).Perm (Sr99.temperaturesOf bs) := (sortT_perm bs).map _
  have so := asc_temps bs
  generalize Sr99.temperaturesOf (Sr99.sortBatches bs) = l at pm so
  generalize Sr99.temperaturesOf bs = ts at pm
  rw [total_eq, total_eq]
  cases ts with
  | nil =>
    have := List.Perm.eq_nil pm
    subst this
    rfl
  | cons x rest =>
    cases l with
    | nil =>
      have := pm.length_eq
      simp at this
    | cons a r =>
      have so' := List.pairwise_cons.mp so
      have up := tc_up r a so
      -- low, high
      obtain ⟨m1, m2, m3⟩ := fold_min rest x
      obtain ⟨M1, M2, M3⟩ := fold_max rest x
      have lowmem : rest.foldl min x ∈ x :: rest := by
        rcases m1 with e | e
        · rw [e]; exact List.mem_cons_self ..
        · exact List.mem_cons_of_mem _ e
      have highmem : rest.foldl max x ∈ x :: rest := by
        rcases M1 with e | e
        · rw [e]; exact List.mem_cons_self ..
        · exact List.mem_cons_of_mem _ e
      have low : rest.foldl min x = a := by
        have h1 : rest.foldl min x ≤ a := by
          rcases List.mem_cons.mp (pm.mem_iff.mp (List.mem_cons_self (a := a) (l := r))) with e | e
          · rw [e]; exact m2
          · exact m3 _ e
        have h2 : a ≤ rest.foldl min x := by
          rcases List.mem_cons.mp (pm.mem_iff.mpr lowmem) with e | e
          · rw [e]; exact Nat.le_refl _
          · exact so'.1 _ e
        omega
      have high : rest.foldl max x = (a :: r).getLast (List.cons_ne_nil _ _) := by
        have h1 : (a :: r).getLast (List.cons_ne_nil _ _) ≤ rest.foldl max x := by
          rcases List.mem_cons.mp (pm.mem_iff.mp (List.getLast_mem (List.cons_ne_nil a r))) with e | e
          · rw [e]; exact M2
          · exact M3 _ e
        have h2 := mem_le_last (List.cons_ne_nil a r) so _ (pm.mem_iff.mpr highmem)
        omega
      -- the falling order
      have rne : (a :: r).reverse ≠ [] := by simp
      obtain ⟨b, q, hb⟩ : ∃ b q, (a :: r).reverse = b :: q := by
        cases e : (a :: r).reverse with
        | nil => exact absurd e rne
        | cons b q => exact ⟨b, q, rfl⟩
      have dn : (b :: q).Pairwise (fun x y => y ≤ x) := by
        rw [← hb, List.pairwise_reverse]
        exact so
      have down := tc_down q b dn
      have lastq : (b :: q).getLast (List.cons_ne_nil _ _) = a := by
        have : (b :: q).getLast? = some a := by
          rw [← hb, List.getLast?_reverse] <;> rfl
        rw [List.getLast?_eq_some_getLast (List.cons_ne_nil b q)] at this
        exact Option.some.inj this
      have headq : b = (a :: r).getLast (List.cons_ne_nil _ _) := by
        have h1 : (a :: r).reverse.head? = (a :: r).getLast? := List.head?_reverse
        rw [hb, List.getLast?_eq_some_getLast (List.cons_ne_nil a r)] at h1
        exact Option.some.inj h1
      rw [hb]
      show min (Sr99.difference b start + tcN b q) (Sr99.difference a start + tcN a r) = (rest.foldl max x - rest.foldl min x) + min (Sr99.difference (rest.foldl min x) start) (Sr99.difference (rest.foldl max x) start)
      rw [down.1, up.1, low, high, lastq, ← headq]
      omega
end Ov

namespace Ov
open Sr99 (Product Oven Batch)
/-! ### batches that are handed in -/
def sumI (l : List Int) : Int := l.sum
def bakes (p : Product) (t : Int) : Bool := decide ((p.minTemperature : Int) ≤ t) && decide (t ≤ (p.maxTemperature : Int))
/-- the mirror of is_batch -/
def batchOk (ps : List Product) (cap : Int) (g : List Int) : Bool :=
  decide ((g.drop 1).sum ≤ cap) && (List.range ps.length).all fun i => !(decide (0 < (g.drop 1).getD i 0) && !bakes (pAt ps i) (g.getD 0 0))
/-- the mirror of is_solution -/
def solOk (ps : List Product) (cap : Int) (groups : List (List Int)) : Bool :=
  groups.all (batchOk ps cap) && decide (((List.range ps.length).map fun (i : Nat) => (groups.map fun g => g.getD (1 + i) 0).sum) = ps.map fun p => (p.tins : Int))
def chunks (rows : List Int) (size k : Nat) : List (List Int) := (List.range k).map fun i => (rows.drop (i * size)).take size
def toB (g : List Int) : Batch := ⟨(g.getD 0 0).toNat, SrCommon.intsToNats (g.drop 1)⟩
def negAny (rows : List Int) : Bool := rows.any fun x => decide (x < 0)

theorem chunks_succ (rows : List Int) (size k : Nat) : chunks rows size (k + 1) = rows.take size :: chunks (rows.drop size) size k := by
  unfold chunks
  rw [List.range_succ_eq_map, List.map_cons, List.map_map]
  refine congr (congrArg List.cons ?_) ?_
  · rw [Nat.zero_mul, List.drop_zero]
  · refine List.map_congr_left fun i _ => ?_
    show (rows.drop ((i + 1) * size)).take size = ((rows.drop size).drop (i * size)).take size
    rw [List.drop_drop, Nat.add_mul, Nat.one_mul, Nat.add_comm]
theorem decode_ok (n : Nat) : ∀ (k fuel : Nat) (rows : List Int), rows.length = k * (n + 1) → negAny rows = false → k ≤ fuel → Sr99.decodeBatches n rows fuel = some ((chunks rows (n + 1) k).map toB)
  | 0, fuel, rows, hl, _, _ => by
    have e : rows = [] := List.length_eq_zero_iff.mp (by omega)
    subst e
    unfold Sr99.decodeBatches
    rfl
  | k + 1, 0, rows, _, _, h => absurd h (Nat.not_succ_le_zero _)
  | k + 1, fuel + 1, [], hl, _, _ => by
    rw [Nat.add_mul] at hl
    simp at hl
  | k + 1, fuel + 1, t :: rest, hl, hn, h => by
    rw [Nat.add_mul, Nat.one_mul, List.length_cons] at hl
    have hlen : ¬ rest.length < n := by omega
    unfold negAny at hn
    rw [List.any_cons, Bool.or_eq_false_iff, decide_eq_false_iff_not] at hn
    have h2 : ¬ (rest.take n).any (fun x => decide (x < 0)) = true := fun q => by
      rw [List.any_eq_true] at q
      obtain ⟨x, m, hx⟩ := q
      have := List.any_eq_false.mp hn.2 x (List.mem_of_mem_take m)
      exact this hx
    have h3 : negAny (rest.drop n) = false := by
      unfold negAny
      rw [List.any_eq_false]
      intro x m
      exact List.any_eq_false.mp hn.2 x (List.mem_of_mem_drop m)
    rw [Sr99.decodeBatches, if_neg (fun q => by
      rcases q with q | q | q
      · exact hlen q
      · exact hn.1 q
      · exact h2 q)]
    rw [decode_ok n k fuel (rest.drop n) (by rw [List.length_drop]; omega) h3 (by omega), chunks_succ]
    rfl
theorem decode_bad (n : Nat) : ∀ (fuel : Nat) (rows : List Int), rows.length % (n + 1) ≠ 0 ∨ negAny rows = true → Sr99.decodeBatches n rows fuel = none
  | _, [], h => by
    rcases h with h | h
    · simp at h
    · simp [negAny] at h
  | 0, t :: rest, _ => by
    rw [Sr99.decodeBatches]
    · exact fun q => by cases q
  | fuel + 1, t :: rest, h => by
    rw [Sr99.decodeBatches]
    split
    · rfl
    · rename_i c
      have c1 : ¬ rest.length < n := fun q => c (.inl q)
      have c2 : ¬ t < 0 := fun q => c (.inr (.inl q))
      have c3 : ¬ (rest.take n).any (fun x => decide (x < 0)) = true := fun q => c (.inr (.inr q))
      have ih : Sr99.decodeBatches n (rest.drop n) fuel = none := by
        refine decode_bad n fuel (rest.drop n) ?_
        rcases h with h | h
        · left
          rw [List.length_drop]
          rw [List.length_cons] at h
          intro q
          apply h
          have : rest.length + 1 = (rest.length - n) + (n + 1) := by omega
          rw [this, Nat.add_mod_right]
          exact q
        · right
          unfold negAny at h ⊢
          rw [List.any_cons, Bool.or_eq_true, decide_eq_true_eq] at h
          rcases h with h | h
          · exact absurd h c2
          · rw [← List.take_append_drop n rest, List.any_append, Bool.or_eq_true] at h
            rcases h with h | h
            · exact absurd h c3
            · exact h
      rw [ih]
      rfl

theorem toNats_sum : ∀ (l : List Int), (∀ x ∈ l, 0 ≤ x) → ((SrCommon.intsToNats l).sum : Int) = l.sum
  | [], _ => rfl
  | x :: r, h => by
    have ih := toNats_sum r fun y hy => h y (List.mem_cons_of_mem _ hy)
    have h0 := h x (List.mem_cons_self ..)
    show ((x.toNat + (SrCommon.intsToNats r).sum : Nat) : Int) = (x :: r).sum
    rw [List.sum_cons, ← ih]
    omega
theorem toNats_getD (l : List Int) (i : Nat) : (SrCommon.intsToNats l).getD i 0 = (l.getD i 0).toNat := by
  unfold SrCommon.intsToNats
  rw [List.getD_eq_getElem?_getD, List.getD_eq_getElem?_getD, List.getElem?_map]
  cases l[i]? <;> rfl
theorem getD_nonneg {l : List Int} (h : ∀ x ∈ l, 0 ≤ x) (i : Nat) : 0 ≤ l.getD i 0 := by
  rw [List.getD_eq_getElem?_getD]
  cases e : l[i]? with
  | none => exact Int.le_refl 0
  | some x => exact h x (List.mem_of_getElem? e)
theorem batch_is (o : Oven) (g : List Int) (hl : g.length = o.products.length + 1) (h : ∀ x ∈ g, 0 ≤ x) : batchOk o.products (o.capacity : Int) g = Sr99.isBatch o (toB g) := by
  have hd : ∀ x ∈ g.drop 1, 0 ≤ x := fun x m => h x (List.mem_of_mem_drop m)
  have e1 : (toB g).tins.length = o.products.length := by
    show (SrCommon.intsToNats (g.drop 1)).length = _
    unfold SrCommon.intsToNats
    rw [List.length_map, List.length_drop]
    omega
  have e2 : decide ((g.drop 1).sum ≤ (o.capacity : Int)) = decide (SrCommon.sum (toB g).tins ≤ o.capacity) := by
    have := toNats_sum (g.drop 1) hd
    rw [sum_eq]
    show decide ((g.drop 1).sum ≤ (o.capacity : Int)) = decide ((SrCommon.intsToNats (g.drop 1)).sum ≤ o.capacity)
    refine decide_eq_decide.mpr ?_
    omega
  unfold batchOk Sr99.isBatch
  rw [decide_eq_true e1, Bool.true_and, e2]
  refine congrArg _ ?_
  refine congrArg (fun f => (List.range o.products.length).all f) ?_
  funext i
  have h0 := getD_nonneg h 0
  have hi := getD_nonneg hd i
  show (!(decide (0 < (g.drop 1).getD i 0) && !(decide (((pAt o.products i).minTemperature : Int) ≤ g.getD 0 0) && decide (g.getD 0 0 ≤ ((pAt o.products i).maxTemperature : Int))))) =
    ((SrCommon.intsToNats (g.drop 1)).getD i 0 == 0 || (decide ((pAt o.products i).minTemperature ≤ (g.getD 0 0).toNat) && decide ((g.getD 0 0).toNat ≤ (pAt o.products i).maxTemperature)))
  rw [toNats_getD]
  rw [Bool.eq_iff_iff]
  simp only [Bool.not_eq_true', Bool.and_eq_false_iff, decide_eq_false_iff_not, Bool.not_eq_false', Bool.and_eq_true, decide_eq_true_eq, Bool.or_eq_true, beq_iff_eq]
  omega
theorem range_all_eq {α : Type} [DecidableEq α] (f g : Nat → α) (n : Nat) : decide ((List.range n).map f = (List.range n).map g) = (List.range n).all fun i => decide (f i = g i) := by
  rw [Bool.eq_iff_iff, decide_eq_true_eq, List.all_eq_true]
  rw [List.map_inj_left]
  simp
theorem map_range (ps : List Product) : (ps.map fun p => (p.tins : Int)) = (List.range ps.length).map fun (i : Nat) => ((pAt ps i).tins : Int) := by
  apply List.ext_getElem
  · simp
  · intro i h1 h2
    rw [List.length_map] at h1
    simp only [List.getElem_map, List.getElem_range]
    unfold pAt
    rw [List.getD_eq_getElem?_getD, List.getElem?_eq_getElem h1] <;> rfl
theorem sums_is (o : Oven) (groups : List (List Int)) (h : ∀ g ∈ groups, ∀ x ∈ g, 0 ≤ x) (i : Nat) :
    ((SrCommon.sum ((groups.map toB).map fun b => b.tins.getD i 0) : Nat) : Int) = (groups.map fun g => g.getD (1 + i) 0).sum := by
  rw [sum_eq]
  induction groups with
  | nil => rfl
  | cons g r ih =>
    have ih' := ih fun q hq => h q (List.mem_cons_of_mem _ hq)
    have hg := h g (List.mem_cons_self ..)
    rw [List.map_cons, List.map_cons, List.sum_cons, List.map_cons, List.sum_cons, ← ih']
    have e : (toB g).tins.getD i 0 = ((g.drop 1).getD i 0).toNat := toNats_getD _ _
    have e2 : (g.drop 1).getD i 0 = g.getD (1 + i) 0 := by
      rw [List.getD_eq_getElem?_getD, List.getD_eq_getElem?_getD, List.getElem?_drop]
    rw [e, e2]
    have := getD_nonneg hg (1 + i)
    omega
theorem sol_is (o : Oven) (groups : List (List Int)) (hl : ∀ g ∈ groups, g.length = o.products.length + 1) (h : ∀ g ∈ groups, ∀ x ∈ g, 0 ≤ x) :
    solOk o.products (o.capacity : Int) groups = Sr99.isSolution o (groups.map toB) := by
  unfold solOk Sr99.isSolution
  have e1 : groups.all (batchOk o.products (o.capacity : Int)) = (groups.map toB).all (Sr99.isBatch o) := by
    rw [List.all_map]
    rw [Bool.eq_iff_iff, List.all_eq_true, List.all_eq_true]
    constructor
    · intro q g hg
      have := q g hg
      rw [batch_is o g (hl g hg) (h g hg)] at this
      exact this
    · intro q g hg
      have := q g hg
      rw [batch_is o g (hl g hg) (h g hg)]
      exact this
  rw [e1, map_range, range_all_eq]
  refine congrArg _ (congrArg (fun f => (List.range o.products.length).all f) ?_)
  funext i
  have := sums_is o groups h i
  rw [Bool.eq_iff_iff, decide_eq_true_eq, beq_iff_eq]
  rw [← this]
  show _ = ((Sr99.productAt o i).tins : Int) ↔ _
  omega
theorem chunks_mem {rows : List Int} {size k : Nat} (hl : rows.length = k * size) {g : List Int} (hg : g ∈ chunks rows size k) : g.length = size ∧ ∀ x ∈ g, x ∈ rows := by
  unfold chunks at hg
  obtain ⟨i, hi, rfl⟩ := List.mem_map.mp hg
  have hi' := List.mem_range.mp hi
  refine ⟨?_, fun x hx => List.mem_of_mem_drop (List.mem_of_mem_take hx)⟩
  rw [List.length_take, List.length_drop, hl]
  have h2 : (i + 1) * size ≤ k * size := Nat.mul_le_mul_right _ hi'
  rw [Nat.add_mul, Nat.one_mul] at h2
  omega
end Ov

namespace Ov
open Sr99 (Product Oven Batch)
/-! ### the calls in one list -/
def cnt : List Nat := [1, 3, 2, 3, 1, 1, 0, 1, 0, 1, 1, 2, 1, 2, 1, 0, 0]
theorem shape_cases {p : Int} {n k : Nat} (h : PySr99.shape p = some (n, k)) : (p = 15 ∧ n = 0 ∧ k = 1) ∨ (0 ≤ p ∧ p ≤ 16 ∧ p ≠ 15 ∧ k = 0 ∧ cnt[p.toNat]? = some n) := by
  unfold PySr99.shape at h
  by_cases e0 : p = 0
  · rw [if_pos e0] at h
    have q := Prod.mk.inj (Option.some.inj h)
    subst e0
    rw [← q.1, ← q.2]
    exact .inr ⟨by decide, by decide, by decide, rfl, rfl⟩
  rw [if_neg e0] at h
  by_cases e1 : p = 1
  · rw [if_pos e1] at h
    have q := Prod.mk.inj (Option.some.inj h)
    subst e1
    rw [← q.1, ← q.2]
    exact .inr ⟨by decide, by decide, by decide, rfl, rfl⟩
  rw [if_neg e1] at h
  by_cases e2 : p = 2
  · rw [if_pos e2] at h
    have q := Prod.mk.inj (Option.some.inj h)
    subst e2
    rw [← q.1, ← q.2]
    exact .inr ⟨by decide, by decide, by decide, rfl, rfl⟩
  rw [if_neg e2] at h
  by_cases e3 : p = 3
  · rw [if_pos e3] at h
    have q := Prod.mk.inj (Option.some.inj h)
    subst e3
    rw [← q.1, ← q.2]
    exact .inr ⟨by decide, by decide, by decide, rfl, rfl⟩
  rw [if_neg e3] at h
  by_cases e4 : p = 4
  · rw [if_pos e4] at h
    have q := Prod.mk.inj (Option.some.inj h)
    subst e4
    rw [← q.1, ← q.2]
    exact .inr ⟨by decide, by decide, by decide, rfl, rfl⟩
  rw [if_neg e4] at h
  by_cases e5 : p = 5
  · rw [if_pos e5] at h
    have q := Prod.mk.inj (Option.some.inj h)
    subst e5
    rw [← q.1, ← q.2]
    exact .inr ⟨by decide, by decide, by decide, rfl, rfl⟩
  rw [if_neg e5] at h
  by_cases e6 : p = 6
  · rw [if_pos e6] at h
    have q := Prod.mk.inj (Option.some.inj h)
    subst e6
    rw [← q.1, ← q.2]
    exact .inr ⟨by decide, by decide, by decide, rfl, rfl⟩
  rw [if_neg e6] at h
  by_cases e7 : p = 7
  · rw [if_pos e7] at h
    have q := Prod.mk.inj (Option.some.inj h)
    subst e7
    rw [← q.1, ← q.2]
    exact .inr ⟨by decide, by decide, by decide, rfl, rfl⟩
  rw [if_neg e7] at h
  by_cases e8 : p = 8
  · rw [if_pos e8] at h
    have q := Prod.mk.inj (Option.some.inj h)
    subst e8
    rw [← q.1, ← q.2]
    exact .inr ⟨by decide, by decide, by decide, rfl, rfl⟩
  rw [if_neg e8] at h
  by_cases e9 : p = 9
  · rw [if_pos e9] at h
    have q := Prod.mk.inj (Option.some.inj h)
    subst e9
    rw [← q.1, ← q.2]
    exact .inr ⟨by decide, by decide, by decide, rfl, rfl⟩
  rw [if_neg e9] at h
  by_cases e10 : p = 10
  · rw [if_pos e10] at h
    have q := Prod.mk.inj (Option.some.inj h)
    subst e10
    rw [← q.1, ← q.2]
    exact .inr ⟨by decide, by decide, by decide, rfl, rfl⟩
  rw [if_neg e10] at h
  by_cases e11 : p = 11
  · rw [if_pos e11] at h
    have q := Prod.mk.inj (Option.some.inj h)
    subst e11
    rw [← q.1, ← q.2]
    exact .inr ⟨by decide, by decide, by decide, rfl, rfl⟩
  rw [if_neg e11] at h
  by_cases e12 : p = 12
  · rw [if_pos e12] at h
    have q := Prod.mk.inj (Option.some.inj h)
    subst e12
    rw [← q.1, ← q.2]
    exact .inr ⟨by decide, by decide, by decide, rfl, rfl⟩
  rw [if_neg e12] at h
  by_cases e13 : p = 13
  · rw [if_pos e13] at h
    have q := Prod.mk.inj (Option.some.inj h)
    subst e13
    rw [← q.1, ← q.2]
    exact .inr ⟨by decide, by decide, by decide, rfl, rfl⟩
  rw [if_neg e13] at h
  by_cases e14 : p = 14
  · rw [if_pos e14] at h
    have q := Prod.mk.inj (Option.some.inj h)
    subst e14
    rw [← q.1, ← q.2]
    exact .inr ⟨by decide, by decide, by decide, rfl, rfl⟩
  rw [if_neg e14] at h
  by_cases e15 : p = 15
  · rw [if_pos e15] at h
    have q := Prod.mk.inj (Option.some.inj h)
    subst e15
    rw [← q.1, ← q.2]
    exact .inl ⟨rfl, rfl, rfl⟩
  rw [if_neg e15] at h
  by_cases e16 : p = 16
  · rw [if_pos e16] at h
    have q := Prod.mk.inj (Option.some.inj h)
    subst e16
    rw [← q.1, ← q.2]
    exact .inr ⟨by decide, by decide, by decide, rfl, rfl⟩
  rw [if_neg e16] at h
  cases h
theorem whole_id (c : List (List Int)) : PySr99.whole c = c := by
  unfold PySr99.whole
  split <;> rfl
/-- a call on the state: its number, its numbers -/
def stepM (s : Sr99.State) (p : Int) (ns : List Int) : Sr99.State × List Int := Sr99Neutral.step s (if p = 15 then [[15], ns] else [p :: ns])
def pack (x : Sr99.State × SrCommon.Result) : Sr99.State × List Int := (x.1, x.2.code :: x.2.values)
/-- the numbers of a call are as many as its number wants -/
def okNs (p : Int) (ns : List Int) : Prop := (p = 15 ∧ ns.length ≤ 70) ∨ (0 ≤ p ∧ p ≤ 16 ∧ p ≠ 15 ∧ cnt[p.toNat]? = some ns.length)
/-- how a call stands in the list -/
def putM (p : Int) (ns : List Int) : List Int := if p = 15 then 15 :: (ns.length : Int) :: ns else p :: ns
theorem call_form {c : List (List Int)} (h : PyFlat.okCall PySr99.shape c) (hb : PyInside.call PySr99.bound c = true) : ∃ p ns, okNs p ns ∧ PyFlat.put1 c = putM p ns ∧ ∀ s, Sr99Neutral.step s (PySr99.whole c) = stepM s p ns := by
  obtain ⟨p, a, xs, rfl, hs⟩ := h
  rcases shape_cases hs with ⟨rfl, h1, h2⟩ | ⟨h0, h16, h15, h2, h3⟩
  · have ea : a = [] := List.length_eq_zero_iff.mp h1
    subst ea
    match xs, h2 with
    | [r], _ =>
      have hr : r.length ≤ 70 := by
        have h1 : (PyInside.each [] [] && (decide (0 ≤ r.length) && decide (r.length ≤ 70) && r.all (PyInside.within (-2147483648) 2147483647) && PyInside.lists [] [])) = true := hb
        simp only [Bool.and_eq_true, decide_eq_true_eq] at h1
        exact h1.2.1.1.2
      refine ⟨15, r, .inl ⟨rfl, hr⟩, ?_, fun s => ?_⟩
      · show [15] ++ ((r.length : Int) :: r ++ []) = putM 15 r
        unfold putM
        rw [if_pos rfl, List.append_nil] <;> rfl
      · rw [whole_id]
        unfold stepM
        rw [if_pos rfl]
  · have ex : xs = [] := List.length_eq_zero_iff.mp h2
    subst ex
    refine ⟨p, a, .inr ⟨h0, h16, h15, h3⟩, ?_, fun s => ?_⟩
    · show (p :: a) ++ [] = putM p a
      unfold putM
      rw [if_neg h15, List.append_nil]
    · rw [whole_id]
      unfold stepM
      rw [if_neg h15]
/-- the calls that are left, at a place of the list: what the rest of the list is, what is still to be told -/
def Left (l : List Int) (at_ : Nat) (out : List Int) (s : Sr99.State) (cs : List (List (List Int))) : Prop :=
  at_ ≤ l.length ∧ l.drop at_ = PyFlat.put cs ∧ (∀ c ∈ cs, PyFlat.okCall PySr99.shape c ∧ PyInside.call PySr99.bound c = true) ∧ out ++ PyFlat.told (PyFlat.played Sr99Neutral.step s (cs.map PySr99.whole)) = PySr99.answers l
theorem left_start {l : List Int} (h : PySr99.answers_asked l = true) : (∃ cs, Left l 0 [] Sr99Neutral.start cs) ∧ (PySr99.answers l).length ≤ 10000000 := by
  unfold PySr99.answers_asked at h
  cases e : PyFlat.calls PySr99.shape l.length l with
  | none => rw [e] at h; cases h
  | some raw =>
    rw [e] at h
    simp only [Bool.and_eq_true] at h
    have q := PyFlat.put_calls _ _ _ e
    refine ⟨⟨raw, Nat.zero_le _, by rw [List.drop_zero]; exact q.1, fun c hc => ⟨q.2 c hc, List.all_eq_true.mp h.1.1.2 c hc⟩, ?_⟩, of_decide_eq_true h.2⟩
    unfold PySr99.answers PySr99.calls
    rw [e]
    rfl
theorem left_end {l : List Int} {at_ : Nat} {out : List Int} {s : Sr99.State} {cs : List (List (List Int))} (h : Left l at_ out s cs) (ha : l.length ≤ at_) : out = PySr99.answers l := by
  obtain ⟨h1, h2, h3, h4⟩ := h
  cases cs with
  | nil =>
    have h4' : out ++ [] = PySr99.answers l := h4
    rw [List.append_nil] at h4'
    exact h4'
  | cons c r =>
    have z : l.drop at_ = [] := List.drop_eq_nil_of_le ha
    rw [z] at h2
    obtain ⟨p, ns, _, hp, _⟩ := call_form (h3 c (List.mem_cons_self ..)).1 (h3 c (List.mem_cons_self ..)).2
    have e : PyFlat.put (c :: r) = putM p ns ++ PyFlat.put r := by rw [← hp]; rfl
    rw [e] at h2
    unfold putM at h2
    split at h2 <;> simp at h2
theorem left_turn {l : List Int} {at_ : Nat} {out : List Int} {s : Sr99.State} {cs : List (List (List Int))} (h : Left l at_ out s cs) (ha : at_ < l.length) : ∃ (p : Int) (ns : List Int) (cs' : List (List (List Int))), okNs p ns ∧ cs'.length < cs.length ∧
    l[at_]? = some p ∧ (p = 15 → l[at_ + 1]? = some (ns.length : Int) ∧ (l.drop (at_ + 2)).take ns.length = ns ∧ at_ + 2 + ns.length ≤ l.length) ∧ (p ≠ 15 → (l.drop (at_ + 1)).take ns.length = ns ∧ at_ + 1 + ns.length ≤ l.length) ∧
    (out ++ ((stepM s p ns).2.length : Int) :: (stepM s p ns).2).length ≤ (PySr99.answers l).length ∧
    Left l (if p = 15 then at_ + 2 + ns.length else at_ + 1 + ns.length) (out ++ ((stepM s p ns).2.length : Int) :: (stepM s p ns).2) (stepM s p ns).1 cs' := by
  obtain ⟨h1, h2, h3, h4⟩ := h
  cases cs with
  | nil =>
    have := List.drop_eq_nil_iff.mp (show l.drop at_ = [] from h2)
    omega
  | cons c r =>
    obtain ⟨p, ns, hok, hp, hs⟩ := call_form (h3 c (List.mem_cons_self ..)).1 (h3 c (List.mem_cons_self ..)).2
    have e : l.drop at_ = putM p ns ++ PyFlat.put r := by rw [h2, ← hp]; rfl
    have a : ∀ k, l[at_ + k]? = (putM p ns ++ PyFlat.put r)[k]? := fun k => by rw [← e, List.getElem?_drop]
    have b : ∀ k, l.drop (at_ + k) = (putM p ns ++ PyFlat.put r).drop k := fun k => by rw [← e, List.drop_drop]
    have len : at_ + (putM p ns).length ≤ l.length := by
      have := congrArg List.length e
      rw [List.length_drop, List.length_append] at this
      omega
    have p1 : out ++ ((stepM s p ns).2.length : Int) :: (stepM s p ns).2 ++ PyFlat.told (PyFlat.played Sr99Neutral.step (stepM s p ns).1 (r.map PySr99.whole)) = PySr99.answers l := by
      rw [← h4, ← hs]
      rw [List.append_assoc]
      rfl
    have hlen := congrArg List.length p1
    rw [List.length_append] at hlen
    refine ⟨p, ns, r, hok, Nat.lt_succ_self _, ?_, fun e15 => ?_, fun n15 => ?_, by omega, ?_, ?_, fun d hd => h3 d (List.mem_cons_of_mem _ hd), p1⟩
    · have := a 0
      rw [Nat.add_zero] at this
      rw [this]
      unfold putM
      split
      · rename_i q; rw [q]; rfl
      · rfl
    · subst e15
      refine ⟨by rw [a 1]; rfl, ?_, ?_⟩
      · rw [b 2]
        show (ns ++ PyFlat.put r).take ns.length = ns
        exact PyFlat.take_len _ _
      · have : (putM 15 ns).length = ns.length + 2 := rfl
        omega
    · have e1 : putM p ns = p :: ns := if_neg n15
      refine ⟨?_, ?_⟩
      · rw [b 1, e1]
        show (ns ++ PyFlat.put r).take ns.length = ns
        exact PyFlat.take_len _ _
      · rw [e1, List.length_cons] at len
        omega
    · split
      · rename_i q
        subst q
        have : (putM 15 ns).length = ns.length + 2 := rfl
        omega
      · rename_i q
        have e1 : putM p ns = p :: ns := if_neg q
        rw [e1, List.length_cons] at len
        omega
    · split
      · rename_i q
        subst q
        rw [Nat.add_assoc, b (2 + ns.length), Nat.add_comm 2]
        show (ns ++ PyFlat.put r).drop ns.length = _
        exact PyFlat.drop_len _ _
      · rename_i q
        have e1 : putM p ns = p :: ns := if_neg q
        rw [Nat.add_assoc, b (1 + ns.length), Nat.add_comm 1, e1]
        show (ns ++ PyFlat.put r).drop ns.length = _
        exact PyFlat.drop_len _ _
end Ov

namespace Ov
open Sr99 (Product Oven Batch)
/-! ### the specification's steps, call by call -/
def OkS (s : Sr99.State) : Prop := ∀ o, s = some o → OkO o
theorem st_eq (s : Sr99.State) (p : Int) (ns : List Int) (c : Sr99.Call) (h : Sr99Neutral.parseCall (if p = 15 then [[15], ns] else [p :: ns]) = some c) : stepM s p ns = pack (Sr99.step s c) := by
  unfold stepM Sr99Neutral.step
  rw [h]
  rfl
theorem step_none (p : Int) (ns : List Int) (c : Sr99.Call) (h : Sr99Neutral.parseCall (if p = 15 then [[15], ns] else [p :: ns]) = some c) (hc : ∀ n, c ≠ .create n) : stepM none p ns = (none, [-11]) := by
  rw [st_eq none p ns c h]
  cases c <;> first
    | exact absurd rfl (hc _)
    | rfl
theorem step_create_ok (s : Sr99.State) (n : Int) (h : Sr99.isCapacity n = true) : stepM s 0 [n] = (some ⟨[], n.toNat⟩, [0]) := by
  rw [st_eq s 0 [n] (.create n) rfl]
  show pack (if Sr99.isCapacity n = false then (s, .ofCode SrCommon.invalidArgument) else (some ⟨[], n.toNat⟩, .ofCode 0)) = _
  rw [h]
  rfl
theorem step_create_bad (s : Sr99.State) (n : Int) (h : Sr99.isCapacity n = false) : stepM s 0 [n] = (s, [-22]) := by
  rw [st_eq s 0 [n] (.create n) rfl]
  show pack (if Sr99.isCapacity n = false then (s, .ofCode SrCommon.invalidArgument) else (some ⟨[], n.toNat⟩, .ofCode 0)) = _
  rw [h]
  rfl
section
variable (o : Oven)
theorem step_add (a b c : Int) : stepM (some o) 1 [a, b, c] = if Sr99.isRange a b = false ∨ Sr99.isTinCount c = false then (some o, [-22]) else if 6 ≤ o.products.length then (some o, [-28]) else
    (some { o with products := o.products ++ [⟨a.toNat, b.toNat, c.toNat⟩] }, [(o.products.length : Int)]) := by
  rw [st_eq (some o) 1 [a, b, c] (.addProduct a b c) rfl]
  show pack (match Sr99.perform o (.addProduct a b c) with | (some changed, result) => (some changed, result) | (none, result) => (some o, result)) = _
  unfold Sr99.perform
  by_cases h1 : Sr99.isRange a b = false ∨ Sr99.isTinCount c = false
  · rw [if_pos h1]
    simp only [if_pos h1]
    rfl
  · rw [if_neg h1]
    simp only [if_neg h1]
    by_cases h2 : 6 ≤ o.products.length
    · rw [if_pos h2]
      have h2' : Sr99.maxProducts ≤ o.products.length := h2
      simp only [if_pos h2']
      rfl
    · rw [if_neg h2]
      have h2' : ¬ Sr99.maxProducts ≤ o.products.length := h2
      simp only [if_neg h2']
      rfl
theorem step_setTins (i t : Int) : stepM (some o) 2 [i, t] = if Sr99.isProduct o i = false then (some o, [-2]) else if Sr99.isTinCount t = false then (some o, [-22]) else
    (some (Sr99.withProduct o i.toNat { Sr99.productAt o i.toNat with tins := t.toNat }), [((Sr99.productAt o i.toNat).tins : Int)]) := by
  rw [st_eq (some o) 2 [i, t] (.setTins i t) rfl]
  show pack (match Sr99.perform o (.setTins i t) with | (some changed, result) => (some changed, result) | (none, result) => (some o, result)) = _
  unfold Sr99.perform
  by_cases h1 : Sr99.isProduct o i = false
  · simp only [if_pos h1]
    rfl
  · simp only [if_neg h1]
    by_cases h2 : Sr99.isTinCount t = false
    · simp only [if_pos h2]
      rfl
    · simp only [if_neg h2]
      rfl
theorem step_setTemp (i a b : Int) : stepM (some o) 3 [i, a, b] = if Sr99.isProduct o i = false then (some o, [-2]) else if Sr99.isRange a b = false then (some o, [-22]) else
    (some (Sr99.withProduct o i.toNat { Sr99.productAt o i.toNat with minTemperature := a.toNat, maxTemperature := b.toNat }), [0, ((Sr99.productAt o i.toNat).minTemperature : Int), ((Sr99.productAt o i.toNat).maxTemperature : Int)]) := by
  rw [st_eq (some o) 3 [i, a, b] (.setTemperatures i a b) rfl]
  show pack (match Sr99.perform o (.setTemperatures i a b) with | (some changed, result) => (some changed, result) | (none, result) => (some o, result)) = _
  unfold Sr99.perform
  by_cases h1 : Sr99.isProduct o i = false
  · simp only [if_pos h1]
    rfl
  · simp only [if_neg h1]
    by_cases h2 : Sr99.isRange a b = false
    · simp only [if_pos h2]
      rfl
    · simp only [if_neg h2]
      rfl
theorem step_remove (i : Int) : stepM (some o) 4 [i] = if Sr99.isProduct o i = false then (some o, [-2]) else (some { o with products := o.products.eraseIdx i.toNat }, [((o.products.length - 1 : Nat) : Int)]) := by
  rw [st_eq (some o) 4 [i] (.removeProduct i) rfl]
  show pack (match Sr99.perform o (.removeProduct i) with | (some changed, result) => (some changed, result) | (none, result) => (some o, result)) = _
  unfold Sr99.perform
  by_cases h1 : Sr99.isProduct o i = false
  · simp only [if_pos h1]
    rfl
  · simp only [if_neg h1]
    rfl
theorem step_setCap (n : Int) : stepM (some o) 5 [n] = if Sr99.isCapacity n = false then (some o, [-22]) else (some { o with capacity := n.toNat }, [(o.capacity : Int)]) := by
  rw [st_eq (some o) 5 [n] (.setCapacity n) rfl]
  show pack (match Sr99.perform o (.setCapacity n) with | (some changed, result) => (some changed, result) | (none, result) => (some o, result)) = _
  unfold Sr99.perform
  by_cases h1 : Sr99.isCapacity n = false
  · simp only [if_pos h1]
    rfl
  · simp only [if_neg h1]
    rfl
/-- a query leaves the state; its answer -/
def ans (r : SrCommon.Result) : List Int := r.code :: r.values
theorem step_query (p : Int) (ns : List Int) (c : Sr99.Call) (h : Sr99Neutral.parseCall (if p = 15 then [[15], ns] else [p :: ns]) = some c) (r : SrCommon.Result) (hp : Sr99.perform o c = (none, r)) (hc : ∀ n, c ≠ .create n) : stepM (some o) p ns = (some o, ans r) := by
  rw [st_eq (some o) p ns c h]
  have e : Sr99.step (some o) c = match Sr99.perform o c with | (some changed, result) => (some changed, result) | (none, result) => (some o, result) := by
    cases c <;> first
      | exact absurd rfl (hc _)
      | rfl
  rw [e, hp]
  rfl
theorem step_min : stepM (some o) 6 [] = (some o, [((Sr99.batches o).length : Int)]) := step_query o 6 [] .minBatches rfl _ rfl (fun _ z => by cases z)
theorem step_batch (k : Int) : stepM (some o) 7 [k] = (some o, if k < 0 then [-2] else match (Sr99.batches o)[k.toNat]? with | none => [-2] | some b => (b.temperature : Int) :: SrCommon.natsToInts b.tins) := by
  rw [step_query o 7 [k] (.batch k) rfl _ rfl (fun _ z => by cases z)]
  refine congrArg (Prod.mk (some o)) ?_
  by_cases h : k < 0
  · rw [if_pos h]
    simp only [if_pos h]
    rfl
  · rw [if_neg h]
    simp only [if_neg h]
    cases (Sr99.batches o)[k.toNat]? <;> rfl
theorem step_temps : stepM (some o) 8 [] = (some o, ((Sr99.batches o).length : Int) :: SrCommon.natsToInts (Sr99.temperaturesOf (Sr99.batches o))) := by
  rw [step_query o 8 [] .temperatures rfl _ rfl (fun _ z => by cases z)]
  refine congrArg (Prod.mk (some o)) ?_
  show ((Sr99.temperaturesOf (Sr99.batches o)).length : Int) :: _ = _
  unfold Sr99.temperaturesOf
  rw [List.length_map]
  rfl
theorem step_best (t : Int) : stepM (some o) 9 [t] = (some o, if Sr99.isTemperature t = false then [-22] else
    ((Sr99.totalChange t.toNat (Sr99.temperaturesOf (Sr99.orderBatches t.toNat (Sr99.batches o))) : Nat) : Int) :: SrCommon.natsToInts (Sr99.temperaturesOf (Sr99.orderBatches t.toNat (Sr99.batches o)))) := by
  rw [step_query o 9 [t] (.bestOrder t) rfl _ rfl (fun _ z => by cases z)]
  refine congrArg (Prod.mk (some o)) ?_
  by_cases h : Sr99.isTemperature t = false
  · simp only [if_pos h]
    rfl
  · simp only [if_neg h]
    rfl
theorem step_minch (t : Int) : stepM (some o) 10 [t] = (some o, if Sr99.isTemperature t = false then [-22] else
    [((Sr99.totalChange t.toNat (Sr99.temperaturesOf (Sr99.orderBatches t.toNat (Sr99.batches o))) : Nat) : Int)]) := by
  rw [step_query o 10 [t] (.minChange t) rfl _ rfl (fun _ z => by cases z), min_change_is]
  refine congrArg (Prod.mk (some o)) ?_
  by_cases h : Sr99.isTemperature t = false
  · simp only [if_pos h]
    rfl
  · simp only [if_neg h]
    rfl
theorem step_comp (i j : Int) : stepM (some o) 11 [i, j] = (some o, if Sr99.isProduct o i = false ∨ Sr99.isProduct o j = false then [-2] else
    [if max (Sr99.productAt o i.toNat).minTemperature (Sr99.productAt o j.toNat).minTemperature ≤ min (Sr99.productAt o i.toNat).maxTemperature (Sr99.productAt o j.toNat).maxTemperature then 1 else 0]) := by
  rw [step_query o 11 [i, j] (.areCompatible i j) rfl _ rfl (fun _ z => by cases z)]
  refine congrArg (Prod.mk (some o)) ?_
  by_cases h : Sr99.isProduct o i = false ∨ Sr99.isProduct o j = false
  · simp only [if_pos h]
    rfl
  · simp only [if_neg h]
    show [SrCommon.boolToInt (decide _)] = _
    unfold SrCommon.boolToInt
    by_cases h2 : max (Sr99.productAt o i.toNat).minTemperature (Sr99.productAt o j.toNat).minTemperature ≤ min (Sr99.productAt o i.toNat).maxTemperature (Sr99.productAt o j.toNat).maxTemperature
    · rw [if_pos h2, decide_eq_true h2] <;> rfl
    · rw [if_neg h2, decide_eq_false h2] <;> rfl
theorem step_fill (t : Int) : stepM (some o) 12 [t] = (some o, if Sr99.isTemperature t = false then [-22] else
    ((Sr99.fill o (Sr99.allTins o) t.toNat).sum : Int) :: SrCommon.natsToInts (Sr99.fill o (Sr99.allTins o) t.toNat)) := by
  rw [step_query o 12 [t] (.fillBatch t) rfl _ rfl (fun _ z => by cases z)]
  refine congrArg (Prod.mk (some o)) ?_
  by_cases h : Sr99.isTemperature t = false
  · simp only [if_pos h]
    rfl
  · simp only [if_neg h]
    rw [sum_eq]
    rfl
theorem step_ifTins (i t : Int) : stepM (some o) 13 [i, t] = (some o, if Sr99.isProduct o i = false then [-2] else if Sr99.isTinCount t = false then [-22] else
    [((Sr99.batches (Sr99.withProduct o i.toNat { Sr99.productAt o i.toNat with tins := t.toNat })).length : Int)]) := by
  rw [step_query o 13 [i, t] (.minBatchesIfTins i t) rfl _ rfl (fun _ z => by cases z)]
  refine congrArg (Prod.mk (some o)) ?_
  by_cases h1 : Sr99.isProduct o i = false
  · simp only [if_pos h1]
    rfl
  · simp only [if_neg h1]
    by_cases h2 : Sr99.isTinCount t = false
    · simp only [if_pos h2]
      rfl
    · simp only [if_neg h2]
      rfl
theorem step_ifCap (n : Int) : stepM (some o) 14 [n] = (some o, if Sr99.isCapacity n = false then [-22] else [((Sr99.batches { o with capacity := n.toNat }).length : Int)]) := by
  rw [step_query o 14 [n] (.minBatchesIfCapacity n) rfl _ rfl (fun _ z => by cases z)]
  refine congrArg (Prod.mk (some o)) ?_
  by_cases h1 : Sr99.isCapacity n = false
  · simp only [if_pos h1]
    rfl
  · simp only [if_neg h1]
    rfl
theorem step_check (ns : List Int) : stepM (some o) 15 ns = (some o, if ns.length % (1 + o.products.length) ≠ 0 ∨ negAny ns = true then [-22] else
    [if solOk o.products (o.capacity : Int) (chunks ns (1 + o.products.length) (ns.length / (1 + o.products.length))) = true then 1 else 0, ((ns.length / (1 + o.products.length) : Nat) : Int)]) := by
  rw [step_query o 15 ns (.checkBatches ns) rfl _ rfl (fun _ z => by cases z)]
  refine congrArg (Prod.mk (some o)) ?_
  rw [Nat.add_comm 1]
  by_cases h : ns.length % (o.products.length + 1) ≠ 0 ∨ negAny ns = true
  · rw [if_pos h]
    show ans (match Sr99.decodeBatches o.products.length ns ns.length with | none => .ofCode SrCommon.invalidArgument | some l => ⟨SrCommon.boolToInt (Sr99.isSolution o l), [(l.length : Int)]⟩) = _
    rw [decode_bad o.products.length ns.length ns h]
    rfl
  · rw [if_neg h]
    have h1 : ns.length % (o.products.length + 1) = 0 := Classical.byContradiction fun q => h (.inl q)
    have h2 : negAny ns = false := (Bool.not_eq_true _).mp fun q => h (.inr q)
    have hl : ns.length = (ns.length / (o.products.length + 1)) * (o.products.length + 1) := by
      have := Nat.div_add_mod ns.length (o.products.length + 1)
      rw [h1, Nat.add_zero, Nat.mul_comm] at this
      exact this.symm
    have nn : ∀ x ∈ ns, 0 ≤ x := fun x hx => by
      have := List.any_eq_false.mp h2 x hx
      simp only [decide_eq_true_eq] at this
      omega
    show ans (match Sr99.decodeBatches o.products.length ns ns.length with | none => .ofCode SrCommon.invalidArgument | some l => ⟨SrCommon.boolToInt (Sr99.isSolution o l), [(l.length : Int)]⟩) = _
    rw [decode_ok o.products.length (ns.length / (o.products.length + 1)) ns.length ns hl h2 (Nat.div_le_self ..)]
    show [SrCommon.boolToInt (Sr99.isSolution o ((chunks ns (o.products.length + 1) (ns.length / (o.products.length + 1))).map toB)), (((chunks ns (o.products.length + 1) (ns.length / (o.products.length + 1))).map toB).length : Int)] = _
    rw [← sol_is o _ (fun g hg => (chunks_mem hl hg).1) (fun g hg x hx => nn x ((chunks_mem hl hg).2 x hx))]
    rw [List.length_map]
    have hc : (chunks ns (o.products.length + 1) (ns.length / (o.products.length + 1))).length = ns.length / (o.products.length + 1) := by
      unfold chunks
      rw [List.length_map, List.length_range]
    rw [hc]
    rfl
theorem step_desc : stepM (some o) 16 [] = (some o, (o.capacity : Int) :: (o.products.length : Int) :: o.products.flatMap fun p => [(p.minTemperature : Int), (p.maxTemperature : Int), (p.tins : Int)]) := step_query o 16 [] .describe rfl _ rfl (fun _ z => by cases z)
end
/-! ### valid states stay valid -/
theorem range_true {a b : Int} (h : Sr99.isRange a b = true) : 0 ≤ a ∧ a ≤ b ∧ b ≤ 400 := by
  have h' : (decide (0 ≤ a) && (decide (a ≤ b) && decide (b ≤ 400))) = true := h
  simp only [Bool.and_eq_true, decide_eq_true_eq] at h'
  omega
theorem tins_true {a : Int} (h : Sr99.isTinCount a = true) : 0 ≤ a ∧ a ≤ 9 := by
  have h' : (decide (0 ≤ a) && decide (a ≤ 9)) = true := h
  simp only [Bool.and_eq_true, decide_eq_true_eq] at h'
  omega
theorem cap_true {a : Int} (h : Sr99.isCapacity a = true) : 1 ≤ a ∧ a ≤ 20 := by
  have h' : (decide (1 ≤ a) && decide (a ≤ 20)) = true := h
  simp only [Bool.and_eq_true, decide_eq_true_eq] at h'
  omega
theorem temp_true {a : Int} (h : Sr99.isTemperature a = true) : 0 ≤ a ∧ a ≤ 400 := by
  have h' : (decide (0 ≤ a) && decide (a ≤ 400)) = true := h
  simp only [Bool.and_eq_true, decide_eq_true_eq] at h'
  omega
theorem prod_true {o : Oven} {i : Int} (h : Sr99.isProduct o i = true) : 0 ≤ i ∧ i < o.products.length := by
  have h' : (decide (0 ≤ i) && decide (i < (o.products.length : Int))) = true := h
  simp only [Bool.and_eq_true, decide_eq_true_eq] at h'
  omega
theorem OkO.with {o : Oven} (k : OkO o) (i : Nat) {p : Product} (hp : OkP p) : OkO (Sr99.withProduct o i p) := by
  refine ⟨?_, fun q hq => ?_, k.cap1, k.cap2⟩
  · show (o.products.set i p).length ≤ 6
    rw [List.length_set]
    exact k.few
  · rcases List.mem_or_eq_of_mem_set hq with h | h
    · exact k.each q h
    · rw [h]
      exact hp
theorem OkO.cap {o : Oven} (k : OkO o) {n : Int} (h : Sr99.isCapacity n = true) : OkO { o with capacity := n.toNat } := by
  have := cap_true h
  exact ⟨k.few, k.each, by show 1 ≤ n.toNat; omega, by show n.toNat ≤ 20; omega⟩
theorem OkO.tins {o : Oven} (k : OkO o) {i t : Int} (hi : Sr99.isProduct o i = true) (h : Sr99.isTinCount t = true) : OkO (Sr99.withProduct o i.toNat { Sr99.productAt o i.toNat with tins := t.toNat }) := by
  have h1 := prod_true hi
  have h2 := tins_true h
  have z := k.at (i := i.toNat) (by omega)
  exact k.with _ ⟨z.le, z.top, by show t.toNat ≤ 9; omega⟩
theorem step_ok (s : Sr99.State) (p : Int) (ns : List Int) (hs : OkS s) (hn : okNs p ns) : OkS (stepM s p ns).1 := by
  have keep : ∀ {o : Oven} {a : List Int}, s = some o → stepM s p ns = (some o, a) → OkS (stepM s p ns).1 := fun {o a} e q => by
    rw [q, ← e]
    exact hs
  have lens : p ≠ 15 → ∃ n, cnt[p.toNat]? = some n ∧ n = ns.length := fun h => by
    rcases hn with e | ⟨_, _, _, e⟩
    · exact absurd e.1 h
    · exact ⟨_, e, rfl⟩
  have h0 : 0 ≤ p ∧ p ≤ 16 := by
    rcases hn with e | ⟨h1, h2, _, _⟩
    · omega
    · exact ⟨h1, h2⟩
  obtain ⟨k, hk⟩ : ∃ k : Nat, p = (k : Int) := ⟨p.toNat, by omega⟩
  subst hk
  have hk : k ≤ 16 := by omega
  cases s with
  | none =>
    by_cases hz : k = 0
    · subst hz
      obtain ⟨n, e1, e2⟩ := lens (by decide)
      have e1' : 1 = n := Option.some.inj e1
      match ns, (show ns.length = 1 by omega) with
      | [x], _ =>
        cases h : Sr99.isCapacity x with
        | true =>
          show OkS (stepM none 0 [x]).1
          rw [step_create_ok none x h]
          intro o e
          cases e
          have := cap_true h
          exact ⟨Nat.zero_le _, fun q hq => absurd hq (by simp), by show 1 ≤ x.toNat; omega, by show x.toNat ≤ 20; omega⟩
        | false =>
          show OkS (stepM none 0 [x]).1
          rw [step_create_bad none x h]
          exact hs
    · have : (stepM none (k : Int) ns).1 = none := by
        unfold stepM Sr99Neutral.step
        cases e : Sr99Neutral.parseCall (if (k : Int) = 15 then [[15], ns] else [(k : Int) :: ns]) with
        | none => rfl
        | some c =>
          show (Sr99.step none c).1 = none
          cases c with
          | create n =>
            exfalso
            unfold Sr99Neutral.parseCall at e
            split at e <;> first
              | (cases e; done)
              | skip
            rename_i hh
            split at hh
            · cases hh
            · have q := List.cons.inj (List.cons.inj hh).1
              omega
          | _ => rfl
      rw [this]
      intro o e
      cases e
  | some o =>
    have ok := hs o rfl
    have hk' : k = 0 ∨ k = 1 ∨ k = 2 ∨ k = 3 ∨ k = 4 ∨ k = 5 ∨ k = 6 ∨ k = 7 ∨ k = 8 ∨ k = 9 ∨ k = 10 ∨ k = 11 ∨ k = 12 ∨ k = 13 ∨ k = 14 ∨ k = 15 ∨ k = 16 := by omega
    rcases hk' with e | e | e | e | e | e | e | e | e | e | e | e | e | e | e | e | e <;> subst e
    · obtain ⟨n, e1, e2⟩ := lens (by decide)
      have e1' : 1 = n := Option.some.inj e1
      match ns, (show ns.length = 1 by omega) with
      | [x], _ =>
        cases h : Sr99.isCapacity x with
        | true =>
          show OkS (stepM (some o) 0 [x]).1
          rw [step_create_ok (some o) x h]
          intro o e
          cases e
          have := cap_true h
          exact ⟨Nat.zero_le _, fun q hq => absurd hq (by simp), by show 1 ≤ x.toNat; omega, by show x.toNat ≤ 20; omega⟩
        | false =>
          show OkS (stepM (some o) 0 [x]).1
          rw [step_create_bad (some o) x h]
          exact hs
    · obtain ⟨n, e1, e2⟩ := lens (by decide)
      have e1' : 3 = n := Option.some.inj e1
      match ns, (show ns.length = 3 by omega) with
      | [a, b, c], _ =>
        show OkS (stepM (some o) 1 [a, b, c]).1
        rw [step_add]
        split
        · exact hs
        · rename_i h1
          split
          · exact hs
          · rename_i h2
            intro o' e
            cases e
            have r := range_true ((Bool.not_eq_false _).mp fun q => h1 (.inl q))
            have t := tins_true ((Bool.not_eq_false _).mp fun q => h1 (.inr q))
            refine ⟨?_, fun q hq => ?_, ok.cap1, ok.cap2⟩
            · show (o.products ++ [_]).length ≤ 6
              rw [List.length_append]
              show o.products.length + 1 ≤ 6
              omega
            · rcases List.mem_append.mp hq with z | z
              · exact ok.each q z
              · have z' : q = ⟨a.toNat, b.toNat, c.toNat⟩ := by simpa using z
                rw [z']
                exact ⟨by show a.toNat ≤ b.toNat; omega, by show b.toNat ≤ 400; omega, by show c.toNat ≤ 9; omega⟩
    · obtain ⟨n, e1, e2⟩ := lens (by decide)
      have e1' : 2 = n := Option.some.inj e1
      match ns, (show ns.length = 2 by omega) with
      | [i, t], _ =>
        show OkS (stepM (some o) 2 [i, t]).1
        rw [step_setTins]
        split
        · exact hs
        · rename_i h1
          split
          · exact hs
          · rename_i h2
            intro o' e
            cases e
            exact ok.tins ((Bool.not_eq_false _).mp h1) ((Bool.not_eq_false _).mp h2)
    · obtain ⟨n, e1, e2⟩ := lens (by decide)
      have e1' : 3 = n := Option.some.inj e1
      match ns, (show ns.length = 3 by omega) with
      | [i, a, b], _ =>
        show OkS (stepM (some o) 3 [i, a, b]).1
        rw [step_setTemp]
        split
        · exact hs
        · rename_i h1
          split
          · exact hs
          · rename_i h2
            intro o' e
            cases e
            have r := range_true ((Bool.not_eq_false _).mp h2)
            have h3 := prod_true ((Bool.not_eq_false _).mp h1)
            have z := ok.at (i := i.toNat) (by omega)
            exact ok.with _ ⟨by show a.toNat ≤ b.toNat; omega, by show b.toNat ≤ 400; omega, z.tins⟩
    · obtain ⟨n, e1, e2⟩ := lens (by decide)
      have e1' : 1 = n := Option.some.inj e1
      match ns, (show ns.length = 1 by omega) with
      | [i], _ =>
        show OkS (stepM (some o) 4 [i]).1
        rw [step_remove]
        split
        · exact hs
        · intro o' e
          cases e
          refine ⟨?_, fun q hq => ok.each q (List.mem_of_mem_eraseIdx hq), ok.cap1, ok.cap2⟩
          show (o.products.eraseIdx i.toNat).length ≤ 6
          have := ok.few
          have := List.length_eraseIdx_le o.products i.toNat
          omega
    · obtain ⟨n, e1, e2⟩ := lens (by decide)
      have e1' : 1 = n := Option.some.inj e1
      match ns, (show ns.length = 1 by omega) with
      | [x], _ =>
        show OkS (stepM (some o) 5 [x]).1
        rw [step_setCap]
        split
        · exact hs
        · rename_i h
          intro o' e
          cases e
          exact ok.cap ((Bool.not_eq_false _).mp h)
    · obtain ⟨n, e1, e2⟩ := lens (by decide)
      have e1' : 0 = n := Option.some.inj e1
      match ns, (show ns.length = 0 by omega) with
      | [], _ => exact keep rfl (step_min o)
    · obtain ⟨n, e1, e2⟩ := lens (by decide)
      have e1' : 1 = n := Option.some.inj e1
      match ns, (show ns.length = 1 by omega) with
      | [x], _ => exact keep rfl (step_batch o x)
    · obtain ⟨n, e1, e2⟩ := lens (by decide)
      have e1' : 0 = n := Option.some.inj e1
      match ns, (show ns.length = 0 by omega) with
      | [], _ => exact keep rfl (step_temps o)
    · obtain ⟨n, e1, e2⟩ := lens (by decide)
      have e1' : 1 = n := Option.some.inj e1
      match ns, (show ns.length = 1 by omega) with
      | [x], _ => exact keep rfl (step_best o x)
    · obtain ⟨n, e1, e2⟩ := lens (by decide)
      have e1' : 1 = n := Option.some.inj e1
      match ns, (show ns.length = 1 by omega) with
      | [x], _ => exact keep rfl (step_minch o x)
    · obtain ⟨n, e1, e2⟩ := lens (by decide)
      have e1' : 2 = n := Option.some.inj e1
      match ns, (show ns.length = 2 by omega) with
      | [x, y], _ => exact keep rfl (step_comp o x y)
    · obtain ⟨n, e1, e2⟩ := lens (by decide)
      have e1' : 1 = n := Option.some.inj e1
      match ns, (show ns.length = 1 by omega) with
      | [x], _ => exact keep rfl (step_fill o x)
    · obtain ⟨n, e1, e2⟩ := lens (by decide)
      have e1' : 2 = n := Option.some.inj e1
      match ns, (show ns.length = 2 by omega) with
      | [x, y], _ => exact keep rfl (step_ifTins o x y)
    · obtain ⟨n, e1, e2⟩ := lens (by decide)
      have e1' : 1 = n := Option.some.inj e1
      match ns, (show ns.length = 1 by omega) with
      | [x], _ => exact keep rfl (step_ifCap o x)
    · exact keep rfl (step_check o ns)
    · obtain ⟨n, e1, e2⟩ := lens (by decide)
      have e1' : 0 = n := Option.some.inj e1
      match ns, (show ns.length = 0 by omega) with
      | [], _ => exact keep rfl (step_desc o)
end Ov

set_option Elab.async false
set_option linter.all false
set_option maxRecDepth 100000
set_option maxHeartbeats 2000000
namespace OvE
open PySem PySem.Calls PyProof.Rows
open PySem.W (KeepsBut KeyPure keyH_tree keyH_turns EachIs AllAlike Sortable dataLe keyedOut_each alike)
section
variable {prog : Program} {w : World} {A : Around} {E : Value → Shared → Prop} {s : Shared}
/-- sorted(range(n), key=f): a new list, the numbers below n sorted by their keys; f's calls keep all that was there -/
theorem sorted_range_key {r : Addr} {n : Nat} {t u v : Tok} {f : Value} {kw : List (Str × Value)} {Q : Value → Shared → Prop} (k : Nat → Int) (hh : A.handled = none) (hr : IsRange s.heap r 0 n 1 t u v) (hn : n ≤ 1000)
    (hu : A.units + 20 < cLine) (ha1 : argsOk "sorted" ⟨[.ref r], kw⟩) (ha2 : ∀ x, argsOk "list.sort" ⟨[.ref x], kw⟩) (ht : ∀ x, Builtin.«list.sort» ⟨[.ref x], kw⟩ = ksk_tree x f false)
    (turn : ∀ (i : Nat) (z : Tok), i < n → ∀ (h : Heap) (tk : Nat), (∀ b o, s.heap.get? b = some o → h.get? b = some o) →
      wpAny (model prog w) A.in1.in1 (call f [.int i z]) (KeyPure (.int (k i)) { s with heap := h, toks := tk }) (fun _ _ => False) { s with heap := h, toks := tk })
    (h : ∀ (h1 : Heap) (tk1 : Nat) (out : List Value) (c : Nat) (h' : Heap) (tk : Nat), (∀ b o, s.heap.get? b = some o → h1.get? b = some o) → (∀ b o, h1.get? b = some o → h'.get? b = some o) → h'.get? h1.objs.size = some (seqObj "list" (List.toArray out) c) →
      EachIs (fun (v : Value) (i : Nat) => ∃ z, v = .int i z) out ((List.range n).mergeSort fun i j => decide (k i ≤ k j)) → Q (.ref h1.objs.size) { s with heap := h', toks := tk }) :
    wpAny (model prog w) A (call (.builtin "sorted") [.ref r] kw) Q E s := by
  have hL : sizeLine = 16777216 := sizeLine_eq
  refine call_function_entry_kw kind_sorted plain_sorted entry_sorted ha1 ?_
  unfold Builtin.«sorted»
  refine wpAny_bind (m := checkCount "sorted" 1 1 _) (wpAny_pure ?_)
  refine wpAny_bind (L2.collect_range (A := A.in1) (n := n) hh hr (small_one (by decide) (by decide) (by omega) (by omega)) (by rw [rangeSize_one]; split <;> omega) (by omega) fun h1 tk1 acc hk hacc => ?_)
  have hlen : acc.toList.length = n := by rw [Array.length_toList]; exact hacc.1
  refine wpAny_bind (wpAny_newList ?_ (by rw [hlen]; omega))
  have hoL : (h1.push (seqObj "list" acc.toList.toArray 0)).get? h1.objs.size = some (seqObj "list" acc.toList.toArray 0) := Heap.get?_push_size _ rfl
  have old : ∀ b o, s.heap.get? b = some o → (h1.push (seqObj "list" acc.toList.toArray 0)).get? b = some o := fun b o e => Heap.get?_push_of_some _ (hk b o e)
  have up1 : ∀ {g : Heap}, KeepsBut h1.objs.size (h1.push (seqObj "list" acc.toList.toArray 0)) g → ∀ b o, h1.get? b = some o → g.get? b = some o := fun {g} kp b o q =>
    kp b o (Nat.ne_of_lt (Heap.lt_size q)) (Heap.get?_push_of_some _ q)
  have up : ∀ {g : Heap}, KeepsBut h1.objs.size (h1.push (seqObj "list" acc.toList.toArray 0)) g → ∀ b o, s.heap.get? b = some o → g.get? b = some o := fun {g} kp b o q => up1 kp b o (hk b o q)
  have hE : EachIs (fun (v : Value) (i : Nat) => ∃ z, v = .int i z) acc.toList (List.range n) := by
    refine EachIs.of_zip (by rw [hlen, List.length_range]) fun p hp => ?_
    obtain ⟨j, hj⟩ := List.getElem?_of_mem hp
    rw [List.getElem?_zip_eq_some] at hj
    have h2 : p.2 = j := by
      have q := hj.2
      have hl := (List.getElem?_eq_some_iff.mp q).1
      rw [List.length_range] at hl
      rw [List.getElem?_range hl] at q
      exact (Option.some.inj q).symm
    have h1 : acc[j]? = some p.1 := by
      have q := hj.1
      rw [Array.getElem?_toList] at q
      exact q
    obtain ⟨z, e⟩ := hacc.2 j p.1 h1
    refine ⟨z, ?_⟩
    rw [e, h2]
    simp
  refine wpAny_bind (wpAny_holding (wpAny_call_entry_kw slot_list_sort ⟨_, hoL, rfl⟩ entry_list_sort ?body (ha2 _)))
  case body =>
    rw [ht]
    have al : ∀ a b : Int, alike (.int a) (.int b) = true := fun _ _ => rfl
    refine keyH_tree (A := A.in1.in1) (b := false) (kz := (List.range n).map fun i => .int (k i)) (vs := acc.toList) (s := { s with heap := h1.push (seqObj "list" acc.toList.toArray 0), toks := tk1 }) hoL (by rw [List.length_map, List.length_range, hlen]) (by rw [hlen]; omega)
      (fun d hd d' hd' => by
        obtain ⟨i, _, rfl⟩ := List.mem_map.mp hd
        obtain ⟨j, _, rfl⟩ := List.mem_map.mp hd'
        exact al _ _)
      (.inr fun d hd => by
        obtain ⟨i, _, rfl⟩ := List.mem_map.mp hd
        exact ⟨fun z => (by cases z), fun xs z => (by cases z)⟩)
      (fun d hd => by
        obtain ⟨i, _, rfl⟩ := List.mem_map.mp hd
        show A.units + 1 + 1 + 0 < cLine
        omega)
      (keyH_turns (s := { s with heap := h1.push (seqObj "list" acc.toList.toArray 0), toks := tk1 }) hE fun v i hv hi g tk kp => by
        obtain ⟨z, rfl⟩ := hv
        exact turn i z (List.mem_range.mp hi) g tk (up kp))
      fun h' tk out c kp hD ko => ?_
    have fin := keyedOut_each (fun i : Nat => PyData.int (k i)) ko hE
    rw [PySem.W.dataLe_int] at fin
    exact ⟨_, rfl, wpAny_pure ⟨_, rfl, h h1 tk1 out c h' tk hk (up1 kp) hD fin⟩⟩
end
end OvE

set_option Elab.async false
set_option linter.all false
set_option maxRecDepth 100000
set_option maxHeartbeats 2000000
namespace OvE
open PySem PySem.Calls PyProof.Rows
open PySem.W (KeyPure)
/-! ### lambda place: products[place][1] -/
def lamScope : Scope := { kind := .function, names := [(Str.ofString "place", .local), (Str.ofString "products", .free)], isGenerator := false, isCoroutine := false, more := [] }
def lamArgs (p : Pos) : Arguments := { posonlyargs := [], args := [{ arg := "place", annotation := none, pos := p }], vararg := none, kwonlyargs := [], kw_defaults := [], kwarg := none, defaults := [] }
def lamBody (p1 p2 p3 p4 p5 : Pos) : Expr := .Subscript (.Subscript (.Name "products" p1) (.Name "place" p2) p3) (.Constant (.int 1) 0 p4) p5
section
variable {prog : Program} {w : World} {A : Around} {E : Value → Shared → Prop} {s : Shared}
theorem lam_key {f pl ta c' cc : Addr} {q : Str} {p p1 p2 p3 p4 p5 : Pos} {pm ctv : Value} {clos : List (Str × Addr)} {its tits : List Value} {i : Nat} {z tz : Tok} {hi : Int} (hroom : A.depth < recursionLimit)
    (hf : s.heap.get? f = some (PySem.W.kla_obj "<lambda>" q (lamArgs p) (lamBody p1 p2 p3 p4 p5) lamScope clos pm c' ctv)) (hcd : s.heap.CodeRec (.ref c') q) (lim : s.heap.NoLimit)
    (hcl : clos.lookup (Str.ofString "products") = some cc) (hcell : s.heap.IsCell cc (some (.ref pl))) (hl : s.heap.IsList pl its.toArray) (hi1 : its[i]? = some (.ref ta)) (hib : i < 1000) (ht : IsTup s.heap ta tits.toArray) (ht1 : tits[1]? = some (.int hi tz)) (ht2 : tits.length = 3) :
    wpAny (model prog w) A (call (.ref f) [.int i z]) (KeyPure (.int hi) s) (fun _ _ => False) s := by
  refine wpAny_call (PySem.W.kla_callFunE hroom hf rfl rfl rfl rfl hcd ?_)
  have hb : bindArgs (PySem.W.kla_fn "<lambda>" q (lamArgs p) (lamBody p1 p2 p3 p4 p5) lamScope clos pm (.ref c') ctv) ⟨[.int i z], []⟩ = pure [((Str.ofString "place" : Str), Value.int i z)] := rfl
  rw [hb]
  refine wpAny_pure (wpAny_newFunctionEnv (show ∀ x ∈ lamScope.names, x.2 ≠ .cell by decide) (fun y hy => ?_) (fun h₁ hns hsb => ⟨lim.fresh _ hsb, ?_⟩) rfl)
  · have e : y = ((Str.ofString "place" : Str), Value.int i z) := by simpa using hy
    rw [e]
    rfl
  have kp : ∀ b o, s.heap.get? b = some o → h₁.get? b = some o := fun b o e => hsb.extBut b o (Nat.ne_of_lt (Heap.lt_size e)) (Heap.get?_push_of_some _ e)
  refine PySem.W.kla_codeExpr ?_
  refine Subscript_ (Subscript_ ?_)
  refine wpAny_Name (wpAny_loadName_free (c := cc) rfl rfl hcl (hcell.keeps kp) ?_)
  refine wpAny_Name (wpAny_loadName_local (m := fun x => ([(Str.ofString "place", Value.int (i : Int) z)] : List (Str × Value)).reverse.lookup x) rfl rfl hns rfl ?_)
  have hl' : h₁.IsList pl its.toArray := let ⟨o, e, c⟩ := hl; ⟨o, kp _ _ e, c⟩
  have hx : its.toArray[((i : Nat) : Int).toNat]? = some (.ref ta) := by simpa using hi1
  have hlt : ((i : Nat) : Int) < 2 ^ 63 := by omega
  refine item_listR hl' (by omega) hlt hx ?_ (by with_unfolding_all rfl)
  refine wpAny_Constant_int ?_
  have ht' : IsTup h₁ ta tits.toArray := let ⟨o, e, c⟩ := ht; ⟨o, kp _ _ e, c⟩
  refine subscriptTail_builtinR (x := .int hi tz) ht'.typeIs slot_tuple_getitem.lookup (PyProof.Rows.getItem_tuple (j := 1) (Q := fun r s' => r = .int hi tz ∧ KeyPure (.int hi) s r s') ht' (by decide) (by decide) ?_ (by simpa using ht1) ⟨rfl, ?_⟩) (by with_unfolding_all rfl)
  · rw [List.size_toArray, ht2]
    rfl
  · exact ⟨h₁, _, rfl, kp, Reads.int hi tz⟩
end
end OvE

set_option Elab.async false
set_option linter.all false
set_option maxRecDepth 100000
set_option maxHeartbeats 2000000
namespace Ov
open PySem PySem.Spec PyProof.Rows L2 LamX
open Sr99 (Product Oven Batch)
/-! ### what stays -/
/-- nothing but a table may stand at p -/
def New (H : Hp) (p : Addr) : Prop := ∀ o, H p = some o → ∃ ps, o = .tbl ps
/-- the field products names the list at pl -/
def PIn (fs : List (Str × V)) (pl : Addr) : Prop := (("products" : Str), V.ref pl) ∈ fs
/-- all that was tracked but the tables and what stands at the addresses of A is as it was; the tables stay tables; an instance at an address of A stays one, its products' list is the old one or a new one -/
structure StayB (T : List (Addr × Str)) (A : List Addr) (H H' : Hp) : Prop where
  keep : ∀ b o, H b = some o → (∀ ps, o ≠ .tbl ps) → b ∉ A → H' b = some o
  tabs : Tabs T H → Tabs T H'
  insK : ∀ a ∈ A, ∀ C dx fs, H a = some (.ins C dx fs) → ∃ C' dx' fs', H' a = some (.ins C' dx' fs') ∧ ∀ pl : Addr, PIn fs' pl → PIn fs pl ∨ New H pl ∨ pl ∈ A
abbrev Stay (T : List (Addr × Str)) (H H' : Hp) : Prop := StayB T [] H H'
section
variable {T : List (Addr × Str)} {A : List Addr} {K : PySem.W.Frag} {H H1 H2 : Hp}
theorem StayB.refl : StayB T A H H := ⟨fun _ _ e _ _ => e, fun t => t, fun _ _ C dx fs e => ⟨C, dx, fs, e, fun _ h => .inl h⟩⟩
theorem StayB.trans (a : StayB T A H H1) (b : StayB T A H1 H2) : StayB T A H H2 := by
  refine ⟨fun c o e n h => b.keep c o (a.keep c o e n h) n h, fun t => b.tabs (a.tabs t), fun x hx C dx fs e => ?_⟩
  obtain ⟨C1, d1, f1, e1, q1⟩ := a.insK x hx C dx fs e
  obtain ⟨C2, d2, f2, e2, q2⟩ := b.insK x hx C1 d1 f1 e1
  refine ⟨C2, d2, f2, e2, fun pl h => ?_⟩
  rcases q2 pl h with z | z | z
  · exact q1 pl z
  · by_cases m : pl ∈ A
    · exact .inr (.inr m)
    · refine .inr (.inl fun o eo => ?_)
      by_cases ht : ∀ ps, o ≠ .tbl ps
      · exact z o (a.keep pl o eo ht m)
      · exact Classical.byContradiction fun y => ht fun ps q => y ⟨ps, q⟩
  · exact .inr (.inr z)
theorem StayB.b (a : Stay T H H1) : StayB T A H H1 := ⟨fun c o e n _ => a.keep c o e n (by simp), a.tabs, fun x _ C dx fs e => ⟨C, dx, fs, a.keep x _ e (fun ps z => by cases z) (by simp), fun _ h => .inl h⟩⟩
theorem StayB.new {p : Addr} {o : HO} (n : H p = none) : StayB T A H (upd H p o) := ⟨fun b u e _ _ => by rw [upd_ne (ne_of_none e n)]; exact e, fun t => t.ext fun b u e => by rw [upd_ne (ne_of_none e n)]; exact e,
  fun x _ C dx fs e => ⟨C, dx, fs, by rw [upd_ne (ne_of_none e n)]; exact e, fun _ h => .inl h⟩⟩
theorem obj_tbl {u : HO} (h : isObj u = true) (ps : Array Value) : u ≠ .tbl ps := fun z => by
  rw [z] at h
  exact Bool.false_ne_true h
theorem obj_code {u : HO} (h : isObj u = true) (c : Addr) (q : Str) : u ≠ CodeO c q := fun z => by
  rw [z] at h
  exact Bool.false_ne_true h
/-- the tables stay where another thing is written -/
theorem wr_tabs {p : Addr} {o u : HO} (e : H p = some u) (n : isObj u = true) (t : Tabs T H) : Tabs T (upd H p o) := fun q hq => by
  obtain ⟨ps, h1, h2, h3⟩ := t q hq
  have nq : q.1 ≠ p := fun z => by
    rw [z, e] at h1
    exact obj_tbl n ps (Option.some.inj h1)
  refine ⟨ps, by rw [upd_ne nq]; exact h1, h2, fun pos cv hc => ?_⟩
  obtain ⟨c, e1, e2⟩ := h3 pos cv hc
  have nc : c ≠ p := fun z => by
    rw [z, e] at e2
    exact obj_code n _ _ (Option.some.inj e2)
  exact ⟨c, e1, by rw [upd_ne nc]; exact e2⟩
/-- the list (or the instance) at p is another thing from here on -/
theorem StayB.wr {p : Addr} {o u : HO} (s : StayB T A H H1) (hp : p ∈ A) (e : H1 p = some u) (n : isObj u = true)
    (hI : ∀ C dx fs, H p = some (.ins C dx fs) → ∃ C' dx' fs', o = .ins C' dx' fs' ∧ ∀ pl : Addr, PIn fs' pl → PIn fs pl ∨ New H pl ∨ pl ∈ A) : StayB T A H (upd H1 p o) := by
  refine ⟨fun b v e2 h2 h => ?_, fun t => wr_tabs e n (s.tabs t), fun x hx C dx fs ex => ?_⟩
  · have nb : b ≠ p := fun z => by
      rw [z] at h
      exact h hp
    rw [upd_ne nb]
    exact s.keep b v e2 h2 h
  · by_cases c : x = p
    · rw [c] at ex ⊢
      obtain ⟨C', dx', fs', e1, e2⟩ := hI C dx fs ex
      exact ⟨C', dx', fs', by rw [upd_same, e1], e2⟩
    · obtain ⟨C', dx', fs', e1, e2⟩ := s.insK x hx C dx fs ex
      exact ⟨C', dx', fs', by rw [upd_ne c]; exact e1, e2⟩
/-- what stands at p is new since H -/
theorem StayB.wrN {p : Addr} {o u : HO} (s : StayB T A H H1) (hp : H p = none) (e : H1 p = some u) (n : isObj u = true := by rfl) : StayB T A H (upd H1 p o) := by
  refine ⟨fun b v e2 h2 h => ?_, fun t => wr_tabs e n (s.tabs t), fun x hx C dx fs ex => ?_⟩
  · have nb : b ≠ p := ne_of_none e2 hp
    rw [upd_ne nb]
    exact s.keep b v e2 h2 h
  · obtain ⟨C', dx', fs', e1, e2⟩ := s.insK x hx C dx fs ex
    exact ⟨C', dx', fs', by rw [upd_ne (ne_of_none ex hp)]; exact e1, e2⟩
theorem New.of {p : Addr} (h : H p = none) : New H p := fun o e => by rw [h] at e; cases e
theorem New.lst {a p : Addr} {xs : List V} (n : New H p) (h : H a = some (.lst xs)) : a ≠ p := fun z => by
  rw [z] at h
  obtain ⟨ps, e⟩ := n _ h
  cases e
theorem New.ins {a p C dx : Addr} {fs : List (Str × V)} (n : New H p) (h : H a = some (.ins C dx fs)) : a ≠ p := fun z => by
  rw [z] at h
  obtain ⟨ps, e⟩ := n _ h
  cases e
theorem New.back {p : Addr} (s : Stay T H H1) (n : New H1 p) : New H p := fun o e => by
  by_cases h : ∀ ps, o ≠ .tbl ps
  · exact n o (s.keep p o e h (by simp))
  · exact Classical.byContradiction fun z => h fun ps q => z ⟨ps, q⟩
theorem StayB.lst {a : Addr} {xs : List V} (s : StayB T A H H1) (h : H a = some (.lst xs)) (n : a ∉ A) : H1 a = some (.lst xs) := s.keep a _ h (fun ps z => by cases z) n
theorem StayB.ins {a C dx : Addr} {fs : List (Str × V)} (s : StayB T A H H1) (h : H a = some (.ins C dx fs)) (n : a ∉ A) : H1 a = some (.ins C dx fs) := s.keep a _ h (fun ps z => by cases z) n
theorem Stay.lst {a : Addr} {xs : List V} (s : Stay T H H1) (h : H a = some (.lst xs)) : H1 a = some (.lst xs) := StayB.lst s h (by simp)
theorem Stay.ins {a C dx : Addr} {fs : List (Str × V)} (s : Stay T H H1) (h : H a = some (.ins C dx fs)) : H1 a = some (.ins C dx fs) := StayB.ins s h (by simp)
/-- what is frozen, and tuples, stay even where A names them (nothing that A names is one) -/
theorem Stay.seq {a : Addr} {xs : List V} (s : Stay T H H1) (h : SqL K H a xs) : SqL K H1 a xs := by
  rcases h with (h | ⟨o, h⟩) | h
  · exact .inl (.inl (s.keep _ _ h (fun ps z => by cases z) (by simp)))
  · exact .inl (.inr ⟨o, s.keep _ _ h (fun ps z => by cases z) (by simp)⟩)
  · exact .inr h
theorem Stay.tup {a : Addr} {xs : List V} (s : Stay T H H1) (h : SqT K H a xs) : SqT K H1 a xs := by
  rcases h with (h | ⟨o, h⟩) | h
  · exact .inl (.inl (s.keep _ _ h (fun ps z => by cases z) (by simp)))
  · exact .inl (.inr ⟨o, s.keep _ _ h (fun ps z => by cases z) (by simp)⟩)
  · exact .inr h
theorem SqL.upd_ne {a p : Addr} {o : HO} {xs : List V} (h : SqL K H a xs) (n : a ≠ p) : SqL K (upd H p o) a xs := by
  rcases h with (h | ⟨q, h⟩) | h
  · exact .inl (.inl (by rw [L2.upd_ne n]; exact h))
  · exact .inl (.inr ⟨q, by rw [L2.upd_ne n]; exact h⟩)
  · exact .inr h
end
/-- a value that reads as an int stands for the int -/
def iv (l : List Int) : List V := l.map V.int
theorem iv_len (l : List Int) : (iv l).length = l.length := List.length_map ..
theorem iv_get {l : List Int} {i : Nat} {z : Int} (h : l[i]? = some z) : (iv l)[i]? = some (.int z) := by
  unfold iv
  rw [List.getElem?_map, h] <;> rfl
theorem iv_inv {l : List Int} {i : Nat} {v : V} (h : (iv l)[i]? = some v) : ∃ z, l[i]? = some z ∧ v = .int z := by
  unfold iv at h
  rw [List.getElem?_map] at h
  cases e : l[i]? with
  | none => rw [e] at h; cases h
  | some z => rw [e] at h; exact ⟨z, rfl, (Option.some.inj h).symm⟩
theorem iv_append (a b : List Int) : iv (a ++ b) = iv a ++ iv b := List.map_append
/-! ### products -/
def pV (p : Product) : List V := [.int p.minTemperature, .int p.maxTemperature, .int p.tins]
def PrAt (K : PySem.W.Frag) (H : Hp) (v : V) (p : Product) : Prop := ∃ a, v = .ref a ∧ SqT K H a (pV p)
structure PsL (K : PySem.W.Frag) (H : Hp) (vs : List V) (ps : List Product) : Prop where
  len : vs.length = ps.length
  at_ : ∀ (i : Nat) (p : Product), ps[i]? = some p → ∃ v, vs[i]? = some v ∧ PrAt K H v p
def PsAt (K : PySem.W.Frag) (H : Hp) (pl : Addr) (ps : List Product) : Prop := ∃ vs, H pl = some (.lst vs) ∧ PsL K H vs ps
section
variable {T : List (Addr × Str)} {A : List Addr} {K : PySem.W.Frag} {H H1 H2 : Hp}
theorem pr_keep {v : V} {p : Product} (s : ∀ b o, H b = some o → (∀ ps, o ≠ .tbl ps) → b ∉ A → H1 b = some o) (h : PrAt K H v p) (n : ∀ a ∈ A, ∃ u, H a = some u ∧ isObj u = true) : PrAt K H1 v p := by
  obtain ⟨a, e, h⟩ := h
  have na : ∀ o, H a = some o → isObj o = false → a ∉ A := fun o e1 e2 z => by
    obtain ⟨u, h1, h2⟩ := n a z
    rw [h1] at e1
    cases e1
    rw [e2] at h2
    cases h2
  refine ⟨a, e, ?_⟩
  rcases h with (h | ⟨o, h⟩) | h
  · exact .inl (.inl (s _ _ h (fun ps z => by cases z) (na _ h rfl)))
  · exact .inl (.inr ⟨o, s _ _ h (fun ps z => by cases z) (na _ h rfl)⟩)
  · exact .inr h
theorem psl_keep {vs : List V} {ps : List Product} (s : ∀ b o, H b = some o → (∀ ps, o ≠ .tbl ps) → b ∉ A → H1 b = some o) (h : PsL K H vs ps) (n : ∀ a ∈ A, ∃ u, H a = some u ∧ isObj u = true) : PsL K H1 vs ps := ⟨h.len, fun i p e => by
  obtain ⟨v, h1, h2⟩ := h.at_ i p e
  exact ⟨v, h1, pr_keep s h2 n⟩⟩
theorem StayB.pr {v : V} {p : Product} (s : StayB T A H H1) (h : PrAt K H v p) (n : ∀ a ∈ A, ∃ u, H a = some u ∧ isObj u = true) : PrAt K H1 v p := pr_keep s.keep h n
theorem StayB.psl {vs : List V} {ps : List Product} (s : StayB T A H H1) (h : PsL K H vs ps) (n : ∀ a ∈ A, ∃ u, H a = some u ∧ isObj u = true) : PsL K H1 vs ps := psl_keep s.keep h n
theorem Stay.pr {v : V} {p : Product} (s : Stay T H H1) (h : PrAt K H v p) : PrAt K H1 v p := StayB.pr s h (fun a h => absurd h (by simp))
theorem Stay.psl {vs : List V} {ps : List Product} (s : Stay T H H1) (h : PsL K H vs ps) : PsL K H1 vs ps := StayB.psl s h (fun a h => absurd h (by simp))
theorem Stay.ps {pl : Addr} {ps : List Product} (s : Stay T H H1) (h : PsAt K H pl ps) : PsAt K H1 pl ps := by
  obtain ⟨vs, h1, h2⟩ := h
  exact ⟨vs, s.lst h1, Stay.psl s h2⟩
theorem PsL.get {vs : List V} {ps : List Product} (h : PsL K H vs ps) {i : Nat} (hi : i < ps.length) : ∃ v, vs[i]? = some v ∧ PrAt K H v (pAt ps i) := by
  obtain ⟨v, h1, h2⟩ := h.at_ i ps[i] (List.getElem?_eq_getElem hi)
  refine ⟨v, h1, ?_⟩
  have e : pAt ps i = ps[i] := by
    unfold pAt
    rw [List.getD_eq_getElem?_getD, List.getElem?_eq_getElem hi] <;> rfl
  rw [e]
  exact h2
theorem PsL.inv {vs : List V} {ps : List Product} (h : PsL K H vs ps) {i : Nat} {v : V} (e : vs[i]? = some v) : i < ps.length ∧ PrAt K H v (pAt ps i) := by
  have hi : i < ps.length := by
    have := (List.getElem?_eq_some_iff.mp e).1
    rw [h.len] at this
    exact this
  obtain ⟨v', h1, h2⟩ := h.get hi
  rw [e] at h1
  cases h1
  exact ⟨hi, h2⟩
theorem PsL.nil : PsL K H [] [] := ⟨rfl, fun i p e => by simp at e⟩
theorem PsL.snoc {vs : List V} {ps : List Product} {v : V} {p : Product} (h : PsL K H vs ps) (hv : PrAt K H v p) : PsL K H (vs ++ [v]) (ps ++ [p]) := by
  refine ⟨by rw [List.length_append, List.length_append, h.len] <;> rfl, fun i q e => ?_⟩
  by_cases hi : i < ps.length
  · rw [List.getElem?_append_left hi] at e
    obtain ⟨u, h1, h2⟩ := h.at_ i q e
    exact ⟨u, by rw [List.getElem?_append_left (by rw [h.len]; exact hi)]; exact h1, h2⟩
  · rw [List.getElem?_append_right (by omega)] at e
    have hz : i - ps.length = 0 := by
      have := (List.getElem?_eq_some_iff.mp e).1
      simp at this
      omega
    rw [hz] at e
    cases e
    exact ⟨v, by rw [List.getElem?_append_right (by rw [h.len]; omega), h.len, hz]; rfl, hv⟩
theorem PsL.set {vs : List V} {ps : List Product} {v : V} {p : Product} (h : PsL K H vs ps) (i : Nat) (hv : PrAt K H v p) : PsL K H (vs.set i v) (ps.set i p) := by
  refine ⟨by rw [List.length_set, List.length_set, h.len], fun j q e => ?_⟩
  rw [List.getElem?_set] at e ⊢
  by_cases c : i = j
  · subst c
    rw [if_pos rfl] at e ⊢
    by_cases hi : i < ps.length
    · rw [if_pos hi] at e
      cases e
      exact ⟨v, by rw [if_pos (by rw [h.len]; exact hi)], hv⟩
    · rw [if_neg hi] at e
      cases e
  · rw [if_neg c] at e ⊢
    exact h.at_ j q e
theorem PsL.erase {vs : List V} {ps : List Product} (h : PsL K H vs ps) (i : Nat) : PsL K H (vs.eraseIdx i) (ps.eraseIdx i) := by
  refine ⟨by rw [List.length_eraseIdx, List.length_eraseIdx, h.len], fun j q e => ?_⟩
  rw [List.getElem?_eraseIdx] at e ⊢
  split at e
  · rename_i c
    rw [if_pos c]
    exact h.at_ j q e
  · rename_i c
    rw [if_neg c]
    exact h.at_ _ q e
end
/-! ### range(n), tracked -/
theorem cr_range1 {X : Cx} : CallR X (.type "range") (fun vs H Q => ∃ j, vs = [V.int j] ∧ ∀ p, H p = none → Q (.ref p) (upd H p (.rng 0 j))) := by
  intro pins s σ H xs us Q I r h
  obtain ⟨j, rfl, q⟩ := h
  obtain ⟨u, rfl, t, rfl⟩ := vals1 r
  refine call_range_1 ⟨.ref s.heap.objs.size, upd H s.heap.objs.size (.rng 0 j), I.laid (t' := s.toks + 1 + 1) (fun b o e => Heap.get?_push_of_some _ e) (Nat.le_refl _) ?_, rfl, q _ (I.hok.fresh (Nat.le_refl _))⟩
  exact ⟨_, _, _, Heap.get?_push_size _ rfl⟩
/-! ### sorted(range(n), key=lambda place: products[place][1]) -/
theorem each_vals {out : List Value} {l : List Nat} (h : PySem.W.EachIs (fun (v : Value) (i : Nat) => ∃ z, v = .int i z) out l) : Vals (l.map fun i : Nat => V.int (i : Int)) out := by
  induction h with
  | nil => exact .nil
  | cons h _ ih => exact .cons h ih
def tOrder (T : List (Addr × Str)) (K : PySem.W.Frag) (i : Nat) (ta : TA) : TE := fun σ H Q => ta σ H fun xs H1 => ∃ (r pl : Addr) (vs : List V) (ps : List Product), xs = [.ref r] ∧ H1 r = some (.rng 0 ps.length) ∧ Tabs T H1 ∧ σ[i]? = some (some (.ref pl)) ∧ H1 pl = some (.lst vs) ∧ PsL K H1 vs ps ∧ ps.length ≤ 6 ∧
  ∀ H2 a, Stay T H1 H2 → H2 a = none → Q (.ref a) (upd H2 a (.lst (iv ((order ps).map fun (i : Nat) => (i : Int)))))
theorem stay_ext {T : List (Addr × Str)} {H H1 : Hp} (e : ExtN H H1) (t : Tabs T H1) : Stay T H H1 := ⟨fun b o h n _ => e b o h n, fun _ => t, fun a h => absurd h (by simp)⟩
end Ov

set_option Elab.async false
set_option linter.all false
set_option maxRecDepth 100000
set_option maxHeartbeats 2000000
namespace Ov
open PySem PySem.Spec PyProof.Rows L2 LamX
open Sr99 (Product Oven Batch)
theorem pe_sortLam {X : Cx} {T : List (Addr × Str)} {c P : Addr} {i k : Nat} {re : Expr} {ta : TA} {p pos ap p1 p2 p3 p4 p5 lpos kpos : Pos} (hg : Gl X "sorted") (hm : X.mg "sorted" = none) (hre : PA X [re] ta) (hr : Room (k + 3) X.A)
    (TB : TabB X.base X.mg c P) (hcode : X.env.code = .ref c) (hmT : (P, X.env.qual ++ "<lambda>") ∈ T) (hu : ∀ p ∈ T, p.1 = P → p.2 = X.env.qual ++ "<lambda>")
    (hN : X.N[i]? = some (Str.ofString "products")) (hv : X.env.scope.names.lookup (Str.ofString "products") = some .cell)
    (he : backTo pos (starEach [re] X.env) = (false, eval re X.env) :: backTo pos (starEach [] X.env) := by rfl) (hpl : (backTo pos (starEach [re] X.env)).any (·.1) = false := by rfl) :
    PE X (.Call (.Name "sorted" p) [re] [⟨some (Str.ofString "key"), .Lambda (OvE.lamArgs ap) (OvE.lamBody p1 p2 p3 p4 p5) OvE.lamScope lpos, kpos⟩] pos) (tOrder T X.K i ta) := by
  refine ⟨fun pins s σ H Q I h => ?_⟩
  refine wpAny_Call_Name_kw (ld_blt (u := .builtin "sorted") I hg hm (by decide +kernel) ?_ (by decide) (by decide))
  refine PyProof.Rows.callWith_kw (e := re) (rest := []) ?_ he hpl rfl rfl
  refine thn (hre.run pos pins s σ H _ I h) fun us s1 ⟨xs, H1, I1, r1, q1⟩ => ?_
  obtain ⟨r, pl, vs, ps, rfl, hrng, hT, hσ, hpls, hps, hlen, q⟩ := q1
  obtain ⟨v, rfl, rv1⟩ := vals1 r1
  obtain rfl : v = Value.ref r := rv1
  have hfree : ∀ y ∈ OvE.lamScope.names, y.2 = .free → ∃ c, X.env.cells.lookup y.1 = some c := fun y hy e => by
    have e2 : y = (Str.ofString "place", NameKind.local) ∨ y = (Str.ofString "products", NameKind.free) := by
      have : OvE.lamScope.names = [(Str.ofString "place", NameKind.local), (Str.ofString "products", NameKind.free)] := rfl
      rw [this] at hy
      simpa using hy
    rcases e2 with e2 | e2
    · rw [e2] at e
      cases e
    · rw [e2]
      exact I.ok.has _ (.inl hv)
  show wpAny _ _ (evalAll [(do let v ← eval (.Lambda (OvE.lamArgs ap) (OvE.lamBody p1 p2 p3 p4 p5) OvE.lamScope lpos) X.env; standAt pos; pure v)]) _ _ _
  refine wpAny_evalAll_cons (wpAny_bind (lam_make2 I1 TB hcode hmT hu hT rfl hfree fun f c' pm ctv H2 s2 I2 eN T2 hf hfn hfr hco => wpAny_bind (wpAny_standAt (wpAny_pure (wpAny_evalAll_nil ?_)))))
  have st : Stay T H1 H2 := stay_ext eN T2
  show wpAny _ _ (call (.builtin "sorted") [.ref r] [(Str.ofString "key", .ref f)]) _ _ s2
  -- what stands
  have hrng2 : H2 r = some (.rng 0 ps.length) := st.keep _ _ hrng (fun ps z => by cases z) (by simp)
  obtain ⟨t0, t1, t2, hr2⟩ := (show ObjOk X.prog X.w H2 s2.heap r (.rng 0 ps.length) from I2.hok r _ hrng2)
  obtain ⟨oc, ovs, ot, hoc, hocd, hocv⟩ := (show ObjOk X.prog X.w H2 s2.heap c' (CodeO c' (X.env.qual ++ "<lambda>")) from I2.hok c' _ hco).1
  obtain ⟨its, rv, hplain, hz⟩ := I2.list (SqL.of (st.lst hpls))
  have hps2 : PsL X.K H2 vs ps := Stay.psl st hps
  -- the cell
  obtain ⟨m, hn, hl⟩ := I2.loc
  obtain ⟨u, ru, lk⟩ := hl i (Str.ofString "products") (.ref pl) hN hσ (.inr (.inl hv))
  obtain rfl : u = Value.ref pl := ru
  obtain ⟨cc, hcc, hcell⟩ : ∃ cc, X.env.cells.lookup (Str.ofString "products") = some cc ∧ s2.heap.IsCell cc (some (.ref pl)) := by
    rcases lk with ⟨hk, _⟩ | ⟨_, cc, e1, e2⟩
    · have hk' : X.env.scope.names.lookup (Str.ofString "products") = some .local := hk
      rw [hv] at hk'
      cases hk'
    · exact ⟨cc, e1, e2⟩
  have hclo : (cloFrom X.env.cells OvE.lamScope.names []).lookup (Str.ofString "products") = some cc := by
    have e : cloFrom X.env.cells OvE.lamScope.names [] = [(Str.ofString "products", (X.env.cells.lookup (Str.ofString "products")).getD 0)] := rfl
    rw [e, hcc] <;> rfl
  have hA : X.A.handled = none := hr.hd
  have hdp := hr.dp
  have hun := hr.un
  refine OvE.sorted_range_key (A := X.A) (n := ps.length) (fun j => ((pAt ps j).maxTemperature : Int)) hA hr2 (by omega) (by omega) (PyProof.Rows.ksk_s1 _ _) (fun _ => PyProof.Rows.ksk_l1 _ _) (fun _ => rfl) (fun j z hj h tk kp => ?_) (fun h1 tk1 out ep h' tk k1 k2 hD hE => ?_)
  · obtain ⟨v, hv1, ta, rfl, htup⟩ := hps2.get hj
    obtain ⟨w1, hw1, rw1⟩ := rv.get hv1
    obtain rfl : w1 = Value.ref ta := rw1
    obtain ⟨tits, rt, htt, _⟩ := I2.tuple htup
    obtain ⟨w2, hw2, tz, rfl⟩ := rt.get (i := 1) (x := .int (pAt ps j).maxTemperature) rfl
    refine OvE.lam_key (s := { s2 with heap := h, toks := tk }) (tits := tits) (its := its) (show X.A.in1.in1.depth < _ from ?_) (kp _ _ hf) ⟨c', oc, ovs, ot, rfl, kp _ _ hoc, hocd, hocv⟩ (let ⟨mc, a1, a2⟩ := I2.nolimit; ⟨mc, a1.keeps kp, a2⟩) hclo (hcell.keeps kp) ?_ hw1 (by omega) ?_ hw2 ?_
    · show X.A.depth < _
      omega
    · obtain ⟨o, e, c⟩ := hplain.isList
      exact ⟨o, kp _ _ e, c⟩
    · obtain ⟨o, e, c⟩ := htt
      exact ⟨o, kp _ _ e, c⟩
    · rw [← rt.length]
      rfl
  · have I3 : Inv X pins σ H2 { s2 with heap := h1, toks := tk1 } := I2.kept k1
    have hfr1 : H2 h1.objs.size = none := I3.hok.fresh (Nat.le_refl _)
    have ev := each_vals hE
    have e0 : (List.range ps.length).mergeSort (fun a b => decide (((pAt ps a).maxTemperature : Int) ≤ ((pAt ps b).maxTemperature : Int))) = order ps := by
      unfold order
      refine congrArg (fun r => (List.range ps.length).mergeSort r) ?_
      funext a b
      refine decide_eq_decide.mpr ?_
      omega
    rw [e0] at ev
    have e1 : ((order ps).map fun i : Nat => V.int (i : Int)) = iv ((order ps).map fun (i : Nat) => (i : Int)) := by
      unfold iv
      rw [List.map_map] <;> rfl
    rw [e1] at ev
    have I4 : Inv X pins σ (upd H2 h1.objs.size (.lst (iv ((order ps).map fun (i : Nat) => (i : Int))))) { s2 with heap := h', toks := tk } :=
      I3.laid (a := h1.objs.size) (t' := tk) k2 (Nat.le_refl _) ⟨by rw [iv_len, List.length_map, order_len]; rw [sizeLine_eq]; omega, out, ep, ev, hD⟩
    exact ⟨.ref h1.objs.size, _, I4, rfl, q H2 _ st hfr1⟩
end Ov

set_option Elab.async false
set_option linter.all false
set_option maxRecDepth 100000
set_option maxHeartbeats 2000000
namespace Ov
open PySem PySem.Spec PyProof.Rows L2 LamX
open PySem.W (WData OpenSpec WellAll ReadsW)
/-! ### the end: a Spec row of one list of ints, bare tables of code objects laid beside it -/
theorem SqL.mono {K : PySem.W.Frag} {H H' : Hp} {a : Addr} {xs : List V} (e : ∀ o, H a = some o → H' a = some o) : SqL K H a xs → SqL K H' a xs
  | .inl (.inl h) => .inl (.inl (e _ h))
  | .inl (.inr ⟨o, h⟩) => .inl (.inr ⟨o, e _ h⟩)
  | .inr h => .inr h
/-- a table of no code objects -/
abbrev bareO : Obj := { cls := .none, data := .fields #[] }
/-- bs bear bare tables -/
def Bares (h : Heap) (bs : List Addr) : Prop := ∀ b ∈ bs, h.get? b = some bareO
/-- H, and bare tables at bs -/
def overT (bs : List Addr) (H : Hp) : Hp := fun b => if b ∈ bs then some (.tbl #[]) else H b
/-- an object that neither the arguments nor the tables can be -/
structure Apart (o : Obj) : Prop where
  noSeq : ∀ vs n, o.data ≠ .seq vs n
  noFields : o.data ≠ .fields #[]
theorem Apart.dict {o : Obj} {es : Array DictEntry} {ep : Nat} (d : o.data = .dict es ep) : Apart o := ⟨fun _ _ z => (nomatch d.symm.trans z), fun z => (nomatch d.symm.trans z)⟩
theorem Apart.plain {o : Obj} (d : o.data = .plain) : Apart o := ⟨fun _ _ z => (nomatch d.symm.trans z), fun z => (nomatch d.symm.trans z)⟩
theorem Apart.fields {o : Obj} {vs : Array Value} {i : Nat} {v : Value} (d : o.data = .fields vs) (h : vs[i]? = some v) : Apart o := by
  refine ⟨fun _ _ z => (nomatch d.symm.trans z), fun z => ?_⟩
  have q : vs = #[] := Data.fields.inj (d.symm.trans z)
  rw [q] at h
  simp at h
section
variable {P : Program} {w : World} {K : PySem.W.Frag} {h : Heap} {A bs : List Addr}
theorem overT_in {H : Hp} {b : Addr} (m : b ∈ bs) : overT bs H b = some (.tbl #[]) := if_pos m
theorem overT_out {H : Hp} {b : Addr} (m : b ∉ bs) : overT bs H b = H b := if_neg m
/-- what the arguments' heap tells is the frozen view of a sequence -/
theorem arg_seq (ar : ∀ a ∈ A, ArgOb h A a) {b : Addr} {u : HO} (q : argH K h A b = some u) : ∃ o x, h.get? b = some o ∧ u = .frz o x ∧ ∃ vs n, o.data = .seq vs n := by
  rcases (argH_is ar q).2 with ⟨vs, _, _, z | z⟩ <;> exact ⟨_, _, z.1, z.2, _, _, rfl⟩
/-- an argument's object is no table -/
theorem arg_far (ar : ∀ a ∈ A, ArgOb h A a) (hB : Bares h bs) {b : Addr} {u : HO} (q : argH K h A b = some u) : b ∉ bs := fun m => by
  obtain ⟨o, x, e1, _, vs, n, d⟩ := arg_seq ar q
  have z : o = bareO := Option.some.inj (e1.symm.trans (hB b m))
  rw [z] at d
  cases d
theorem overT_arg (ar : ∀ a ∈ A, ArgOb h A a) (hB : Bares h bs) {b : Addr} {u : HO} (q : argH K h A b = some u) : overT bs (argH K h A) b = some u := (overT_out (arg_far ar hB q)).trans q
theorem overT_apart (ar : ∀ a ∈ A, ArgOb h A a) (hB : Bares h bs) {b : Addr} {o : Obj} (e : h.get? b = some o) (n : Apart o) : overT bs (argH K h A) b = none := by
  by_cases m : b ∈ bs
  · have z : o = bareO := Option.some.inj (e.symm.trans (hB b m))
    exact (n.noFields (by rw [z])).elim
  · rw [overT_out m]
    refine Option.eq_none_iff_forall_ne_some.mpr fun u q => ?_
    obtain ⟨o', x, e1, _, vs, k, d⟩ := arg_seq ar q
    rw [Option.some.inj (e.symm.trans e1)] at n
    exact n.noSeq _ _ d
theorem overT_hok (ar : ∀ a ∈ A, ArgOb h A a) (hB : Bares h bs) : HOk P w (overT bs (argH K h A)) h := by
  intro b u q
  by_cases m : b ∈ bs
  · rw [overT_in m] at q
    obtain rfl := Option.some.inj q
    exact hB b m
  · rw [overT_out m] at q
    have z := argH_ok (P := P) (w := w) (K := K) ar b u q
    obtain ⟨_, vs, _, _, y | y⟩ := argH_is ar q
    · rw [y.2] at z ⊢
      exact z
    · rw [y.2] at z ⊢
      exact z
/-- what the program has written is not told by it -/
theorem overT_written (ar : ∀ a ∈ A, ArgOb h A a) (nT : ∀ b ∈ bs, K.lookup b = none) {b : Addr} {o : Obj} (e : K.lookup b = some o) : overT bs (argH K h A) b = none := by
  by_cases m : b ∈ bs
  · exact nomatch (nT b m).symm.trans e
  · rw [overT_out m]
    exact Option.eq_none_iff_forall_ne_some.mpr fun u q => nomatch (argH_is ar q).1.symm.trans e
/-- the heap without what it tells -/
abbrev under (K : PySem.W.Frag) (h : Heap) (A bs : List Addr) : Heap := hidT h (overT bs (argH K h A))
theorem under_apart (ar : ∀ a ∈ A, ArgOb h A a) (hB : Bares h bs) {b : Addr} {o : Obj} (e : h.get? b = some o) (n : Apart o) : (under K h A bs).get? b = some o := hidT_get e (overT_apart ar hB e n)
theorem under_ns (ar : ∀ a ∈ A, ArgOb h A a) (hB : Bares h bs) {b : Addr} {m : Str → Option Value} (x : h.Ns b m) : (under K h A bs).Ns b m := by
  obtain ⟨o, es, ep, e, d, rest⟩ := x
  exact ⟨o, es, ep, under_apart ar hB e (.dict d), d, rest⟩
theorem under_kin (ar : ∀ a ∈ A, ArgOb h A a) (nT : ∀ b ∈ bs, K.lookup b = none) (KX : K.In h) : K.In (under K h A bs) := fun b o e => hidT_get (KX b o e) (overT_written ar nT e)
theorem under_mod {mg mb : Str → Option Value} (ar : ∀ a ∈ A, ArgOb h A a) (hB : Bares h bs) (nT : ∀ b ∈ bs, K.lookup b = none) (KX : K.In h) (g : h.Ns mainGlobals mg) (b : h.Ns builtinsNs mb) (bb : ∀ x : Str, x ≠ "__name__" → mb x = bootBuiltins x) (nl : h.NoLimit) : Mod K mg (under K h A bs) where
  kin := under_kin ar nT KX
  glob := under_ns ar hB g
  blt := ⟨mb, under_ns ar hB b, bb⟩
  nolimit := by
    obtain ⟨mc, x, y⟩ := nl
    exact ⟨mc, under_ns ar hB x, y⟩
theorem ns_dict {b : Addr} {m : Str → Option Value} {o : Obj} (x : h.Ns b m) (e : h.get? b = some o) : ∃ es ep, o.data = .dict es ep := by
  obtain ⟨o', es, ep, e', d, _⟩ := x
  exact ⟨es, ep, by rw [Option.some.inj (e.symm.trans e')]; exact d⟩
/-- the module of the built-ins stands where the top found it -/
def BmAt (h : Heap) (mg : Str → Option Value) : Prop := ∃ (bm : Addr) (ob : Obj), mg "__builtins__" = some (.ref bm) ∧ bm ≠ builtinsNs ∧ h.get? bm = some ob ∧ ob.cls = .type "module" ∧ ob.dict = some builtinsNs ∧ ob.data = .plain
theorem under_tab {mg : Str → Option Value} {c t : Addr} (ar : ∀ a ∈ A, ArgOb h A a) (hB : Bares h bs) (ht : t ∈ bs) (g : h.Ns mainGlobals mg) (M : BmAt h mg) (x : PySem.W.CodeHd h c t) : TabB (under K h A bs) mg c t where
  code := by
    obtain ⟨o, vs, file, tf, flags, tg, inF, text, tt, e, kc, kd, kv, rest⟩ := x
    exact ⟨o, vs, file, tf, flags, tg, inF, text, tt, under_apart ar hB e (.fields kd kv), kc, kd, kv, rest⟩
  bm := by
    obtain ⟨m, ob, x1, x2, x3, x4, x5, x6⟩ := M
    refine ⟨m, ob, x1, x2, fun z => ?_, fun z => ?_, under_apart ar hB x3 (.plain x6), x4, x5, x6⟩
    · rw [z] at x3
      obtain ⟨es, ep, d⟩ := ns_dict g x3
      cases x6.symm.trans d
    · rw [z, hB t ht] at x3
      rw [← Option.some.inj x3] at x6
      cases x6
  gP z := by
    rw [z] at g
    obtain ⟨es, ep, d⟩ := ns_dict g (hB t ht)
    cases d
/-- behind the call: all but the tables is as it was, the tables have grown -/
structure Grown (h h' : Heap) (bs : List Addr) : Prop where
  rest : ∀ b o, b ∉ bs → h.get? b = some o → h'.get? b = some o
  tabs : ∀ b ∈ bs, ∃ more : Array Value, h'.get? b = some { cls := .none, data := .fields more }
theorem grown_of {H' : Hp} {h' : Heap} (ar : ∀ a ∈ A, ArgOb h A a) (hB : Bares h bs) (un : Un [] [] (overT bs (argH K h A)) H' h h') (ok : HOk P w H' h') : Grown h h' bs where
  rest b o m e := by
    cases q : argH K h A b with
    | none => exact un.keep b o e ((overT_out m).trans q) List.not_mem_nil List.not_mem_nil
    | some u =>
      obtain ⟨o', x, e', z, _⟩ := arg_seq ar q
      rw [z] at q
      have y := ok b _ (un.frzs b o' x ((overT_out m).trans q))
      rw [Option.some.inj (e.symm.trans e')]
      exact y.1
  tabs b m := by
    obtain ⟨more, z⟩ := un.tbls b #[] (overT_in m)
    exact ⟨_, ok b _ z⟩
theorem Grown.kin {h' : Heap} (g : Grown h h' bs) (nT : ∀ b ∈ bs, K.lookup b = none) (KX : K.In h) : K.In h' := fun b o e => g.rest b o (fun m => nomatch (nT b m).symm.trans e) (KX b o e)
end
theorem grown_old {h h' : Heap} {cs : List (Addr × Addr)} (g : Grown h h' (cs.map (·.2))) (hB : Bares h (cs.map (·.2))) (C : ∀ p ∈ cs, PySem.W.CodeHd h p.1 p.2) : OldK h h' := by
  constructor
  · intro b o e
    by_cases m : b ∈ cs.map (·.2)
    · obtain ⟨more, z⟩ := g.tabs b m
      have eo : o = bareO := Option.some.inj (e.symm.trans (hB b m))
      obtain ⟨p, hp, rfl⟩ := List.mem_map.mp m
      subst eo
      exact .inr (.inl ⟨((C p hp).tab (hB _ m)).isCodeTable, rfl, #[], more, rfl, by simpa using z⟩)
    · exact .inl (g.rest b o m e)
  · intro b o e
    by_cases m : b ∈ cs.map (·.2)
    · exact (g.tabs b m).elim fun _ z => ⟨_, z⟩
    · exact ⟨o, g.rest b o m e⟩
/-- the call of a def with one parameter, a list of ints, from the heap that the top has left -/
theorem spec_callT {P : Program} {w : World} {K : PySem.W.Frag} {mg mb : Str → Option Value} {CX : CXT} {k : Nat} {fa : Addr} {cs : List (Addr × Addr)} {fd : FuncData} {x : Str} {sp : Sp} {s : Shared} {us : List Value} {ns : List Int} {R : PySem.W.WRecords} {cl : Str → Option Addr} {d0 : WData}
    (KX : K.In s.heap) (g : s.heap.Ns mainGlobals mg) (b : s.heap.Ns builtinsNs mb) (bb : ∀ x : Str, x ≠ "__name__" → mb x = bootBuiltins x) (nl : s.heap.NoLimit) (gens : s.gens = #[])
    (tabs : ∀ p ∈ cs, PySem.W.CodeHd s.heap p.1 p.2 ∧ s.heap.get? p.2 = some bareO) (nT : ∀ p ∈ cs, K.lookup p.2 = none) (M : BmAt s.heap mg)
    (wl : WellAll w.params s.heap us [.list (ns.map WData.int)]) (wt : (WData.list (ns.map WData.int)).weight ≤ 1048576) (room : Room k callerA)
    (F : ∀ base : Heap, K.In base → base.Ns mainGlobals mg → (∀ p ∈ cs, TabB base mg p.1 p.2) → FnOk P w K mg base CX k fa fd [x] sp) (bind : ∀ (s : Shared) (us : List Value), us.length = ([x] : List Str).length → BindsTo s fd ⟨us, []⟩ (([x] : List Str).zip us))
    (promise : ∀ (H : Hp) (a : Addr), (∀ p ∈ cs, H p.2 = some (.tbl #[])) → SqL K H a (ns.map V.int) → sp [.ref a] H (fun v H' => Dw K H' v d0) fun _ _ _ => False)
    (quiet : ∀ H e s', CX [] H s (fun _ _ _ => False) e s' → False) :
    codeAny (model P w) callerA (.call (.ref fa) ⟨us, []⟩) (fun r t => ∃ u as, r = .ok (.ret u) ∧ ReadsW R cl t.heap u d0 as ∧ OldK s.heap t.heap ∧ t.os = s.os ∧ AllBare t.gens) s := by
  have lists : plWs [WData.list (ns.map WData.int)] = true := Bool.and_eq_true_iff.mpr ⟨plWs_map (fun _ => rfl) ns, rfl⟩
  obtain ⟨A, inA, ar⟩ := area_all _ us wl lists fun d hd => by
    rw [List.mem_singleton.mp hd]
    exact wt
  have hB : Bares s.heap (cs.map (·.2)) := fun t m => by
    obtain ⟨p, hp, rfl⟩ := List.mem_map.mp m
    exact (tabs p hp).2
  have nB : ∀ t ∈ cs.map (·.2), K.lookup t = none := fun t m => by
    obtain ⟨p, hp, rfl⟩ := List.mem_map.mp m
    exact nT p hp
  have told : ∀ p ∈ cs, p.2 ∈ cs.map (·.2) := fun p => List.mem_map_of_mem
  have kin := under_kin (K := K) ar nB KX
  have env : Env0 P w K mg (under K s.heap A (cs.map (·.2))) callerA [] s (overT (cs.map (·.2)) (argH K s.heap A)) :=
    { frames := rfl, mod := under_mod ar hB nB KX g b bb nl, bs := fun _ _ => of_hidT, bsz := Nat.le_of_eq (hidT_size _ _), funs := True.intro, frf := fun _ z => (nomatch z), hok := overT_hok ar hB, bare := .of_eq gens }
  obtain ⟨a, ea, hl⟩ : ∃ a, us.map toV = [.ref a] ∧ SqL K (overT (cs.map (·.2)) (argH K s.heap A)) a (ns.map V.int) := by
    have z := dw_all KX ar _ us wl lists inA
    revert z
    generalize us.map toV = xs
    rintro (_ | ⟨one, _ | _⟩)
    cases one with
    | lst y r =>
      rw [← ints_dw ns _ r]
      exact ⟨_, rfl, SqL.mono (fun o q => overT_arg ar hB q) y⟩
  have len : us.length = ([x] : List Str).length := wellAll_len wl
  have start := (F _ kin (under_ns ar hB g) fun p hp => under_tab ar hB (told p hp) g M (tabs p hp).1).run callerA [] s _ ⟨us, []⟩ us (us.map toV) _ _ room env (bind s us len) (vals_toV inA)
    (by rw [ea]; exact promise _ a (fun p hp => overT_in (told p hp)) hl)
  refine codeAny_mono start fun r t end_ => ?_
  match r, end_ with
  | .error e, z => exact (quiet _ e t z).elim
  | .ok (.ret u), ⟨v, H', os, bare, un, ok, rel, q⟩ =>
    have gr := grown_of ar hB un ok
    obtain ⟨as, rd⟩ := Dw.reads (R := R) (cl := cl) ok (gr.kin nB KX) d0 v u q rel
    exact ⟨u, as, rfl, rd, grown_old gr hB fun p hp => (tabs p hp).1, os, bare⟩
/-- the goal that the head leaves (case hc); cs: the code objects that make functions, and their tables -/
theorem walk_row {k : Nat} {q : Program} {loose : List Str} {XP : (Str → Option Value) → Heap → Prop} {YP : World → Heap → Prop} {d : DefRec} {K : Params → PySem.W.Frag} {CX : CXT} {x : Str} {cs : List (Addr × Addr)} {sp : PySem.W.Frag → Sp}
    (said : PySem.Challenge.rw_ovenbatches_s01_answers.wellSaid = true) (room : Room k callerA) (written : ∀ (w : World) (h : Heap), YP w h → (K w.params).In h)
    (F : ∀ (w : World) (mg : Str → Option Value) (fa : Addr) (h : Heap), YP w h → (K w.params).In h → h.Ns mainGlobals mg → mg d.name = some (.ref fa) → ∃ fd : FuncData, (∀ (s : Shared) (us : List Value), us.length = ([x] : List Str).length → BindsTo s fd ⟨us, []⟩ (([x] : List Str).zip us)) ∧
        ∀ base : Heap, (K w.params).In base → base.Ns mainGlobals mg → (∀ p ∈ cs, TabB base mg p.1 p.2) → FnOk PySem.Challenge.rw_ovenbatches_s01_answers.prog w (K w.params) mg base CX k fa fd [x] (sp (K w.params)))
    (tables : ∀ (w : World), ∀ p ∈ cs, ∃ (y : Str) (e : DefRec), (recsOf q).find? (fun e => e.name == y) = some e ∧ PySem.W.tabIn (K w.params) y = some p) (nT : ∀ (w : World), ∀ p ∈ cs, (K w.params).lookup p.2 = none)
    (promise : ∀ (K : PySem.W.Frag) (H : Hp) (a : Addr) (l : List Int), PySr99.answers_asked l = true → (∀ p ∈ cs, H p.2 = some (.tbl #[])) → SqL K H a (l.map V.int) →
      sp K [.ref a] H (fun v H' => Dw K H' v (.list ((PySr99.answers l).map WData.int))) fun _ _ _ => False)
    (quiet : ∀ (H : Hp) (s : Shared) (e : Value) (s' : Shared), CX [] H s (fun _ _ _ => False) e s' → False) :
    PySem.W.WalkOS q loose XP YP PySem.Challenge.rw_ovenbatches_s01_answers d [] (fun f vs => PySem.call f vs) := by
  intro w h0 s1 mg mb top Y fa o pm cd doc dV kV _ _ _ _ hmg gens args us as pre layable _ wl _
  obtain ⟨⟨l, nil⟩, dec, ask⟩ := PySem.W.os_pre_some pre
  obtain ⟨rfl, within⟩ := PySem.W.Codec.encAll_of_decAll PySem.Challenge.rw_ovenbatches_s01_answers.args args (l, nil) dec
  have KX := written w _ Y
  obtain ⟨fd, bind, G⟩ := F w mg fa _ Y KX top.T.g hmg
  have tabs : ∀ p ∈ cs, PySem.W.CodeHd s1.heap p.1 p.2 ∧ s1.heap.get? p.2 = some bareO := fun p hp => by
    obtain ⟨y, e, z1, z2⟩ := tables w p hp
    exact PySem.W.tab_of top.T KX z1 z2
  have run := spec_callT (R := []) (cl := classAt h0.heap) (ns := l) (d0 := .list ((PySr99.answers l).map WData.int)) KX top.T.g top.T.b top.T.builtins top.T.nolimit gens tabs (nT w) top.T.bmain wl (layable_weight layable _ List.mem_cons_self) room G bind
    (fun H a => promise (K w.params) H a l ask) fun H e s' => quiet H s1 e s'
  refine PySem.W.enter_call (codeAny_mono run fun r t z => ?_)
  obtain ⟨u, us', rfl, reads, old, os, bare⟩ := z
  exact ⟨.inl ⟨u, _, us', rfl, fun _ => rfl, reads, (OpenSpec.post_iff said within _ _).mpr rfl, fun y => nomatch (show false = true from y)⟩, old, os, bare⟩
end Ov

set_option Elab.async false
set_option linter.all false
set_option maxRecDepth 100000
set_option maxHeartbeats 4000000
namespace Ov
open PySem PySem.Spec PyProof.Rows L2 LamX
open Sr99 (Product Oven Batch)
/-! ### the text -/
def top (i : Nat) : Stmt := PySem.Challenge.pw_ovenbatches_s01_answers.main.body.getD i (.Pass ⟨0, 0, 0, 0⟩)
theorem boot_list_ : bootBuiltins "list" = some (.type "list") := by decide +kernel
theorem boot_abs_ : bootBuiltins "abs" = some (.builtin "abs") := by decide +kernel
theorem boot_sum_ : bootBuiltins "sum" = some (.builtin "sum") := by decide +kernel
theorem boot_max_ : bootBuiltins "max" = some (.builtin "max") := by decide +kernel
theorem boot_min_ : bootBuiltins "min" = some (.builtin "min") := by decide +kernel
theorem boot_sorted_ : bootBuiltins "sorted" = some (.builtin "sorted") := by decide +kernel
/-! ### what the top has written -/
def manyV : List V := iv [1, 3, 2, 3, 1, 1, 0, 1, 0, 1, 1, 2, 1, 2, 1, 0, 0]
def GlI (mg : Str → Option Value) (x : Str) (n : Int) : Prop := ∃ t, mg x = some (.int n t)
structure Gb (K : PySem.W.Frag) (mg : Str → Option Value) : Prop where
  len : mg "len" = none
  list : mg "list" = none
  max : mg "max" = none
  min : mg "min" = none
  sum : mg "sum" = none
  zip : mg "zip" = none
  range : mg "range" = none
  sorted : mg "sorted" = none
  abs : mg "abs" = none
  NO_INSTANCE : GlI mg "NO_INSTANCE" (-11)
  NOT_THERE : GlI mg "NOT_THERE" (-2)
  OUT_OF_RANGE : GlI mg "OUT_OF_RANGE" (-22)
  FULL : GlI mg "FULL" (-28)
  MOST_PRODUCTS : GlI mg "MOST_PRODUCTS" 6
  GREATEST_CAPACITY : GlI mg "GREATEST_CAPACITY" 20
  GREATEST_TEMPERATURE : GlI mg "GREATEST_TEMPERATURE" 400
  GREATEST_TINS : GlI mg "GREATEST_TINS" 9
  CHECK_BATCHES : GlI mg "CHECK_BATCHES" 15
  CREATE : GlI mg "CREATE" 0
  MANY_NUMBERS : ∃ a, mg "MANY_NUMBERS" = some (.ref a) ∧ ∀ H, SqT K H a manyV
theorem pe_gl {X : Cx} {x : Str} {n : Int} {pos : Pos} (h : GlI X.mg x n) (hg : Gl X x) (hd : (x == ("__debug__" : Str)) = false := by decide) : PE X (.Name x pos) (tC (.int n)) := by
  obtain ⟨t, h⟩ := h
  exact pe_glob hg h ⟨t, rfl⟩ hd
def tGT (K : PySem.W.Frag) (xs : List V) : TE := fun _ H Q => ∀ a, SqT K H a xs → Q (.ref a) H
theorem pe_glT {X : Cx} {x : Str} {xs : List V} {pos : Pos} (h : ∃ a, X.mg x = some (.ref a) ∧ ∀ H, SqT X.K H a xs) (hg : Gl X x) (hd : (x == ("__debug__" : Str)) = false := by decide) : PE X (.Name x pos) (tGT X.K xs) := by
  obtain ⟨a, h, hs⟩ := h
  exact ⟨fun _ _ _ H _ I q => ld_glob I hg h ⟨.ref a, H, I, rfl, q a (hs H)⟩ hd⟩
/-! ### a def that keeps a promise -/
/-- the def st stands at the module's name x -/
structure Dn (K : PySem.W.Frag) (mg : Str → Option Value) (x : Str) (st : Stmt) (ps : List Str) : Prop where
  ex : ∃ f fd, Fun K x x st f fd ∧ Binds K fd ps [] ∧ mg x = some (.ref f)
structure Ok (P : Program) (w : World) (K : PySem.W.Frag) (mg : Str → Option Value) (base : Heap) (k : Nat) (x : Str) (ps : List Str) (sp : Sp) : Prop where
  ex : ∃ f fd, mg x = some (.ref f) ∧ PySem.W.keepIn K (.ref f) = true ∧ Binds K fd ps [] ∧ FnOk P w K mg base CX0 k f fd ps sp
section
variable {P : Program} {w : World} {K : PySem.W.Frag} {mg : Str → Option Value} {base : Heap}
theorem Dn.ok {x : Str} {st : Stmt} {N ps : List Str} {k : Nat} {sp : Sp} (D : Dn K mg x st ps) (S : FnScope N ps (defScope st)) (len : ∀ vs H Q E, sp vs H Q E → vs.length = ps.length)
    (hbody : ∀ (f : Addr) (cdv : Value) (A : Around) (outer : List Env) (s : Shared) (H : Hp) (vs : List V) (Q : VK) (E : XK), Room k (A.deeper (envOfC x (defScope st) s.heap.objs.size f cdv)) → sp vs H Q E →
      ∃ t, PSs (cxOf CX0 P w K mg base N x (defScope st) f cdv A outer s H E).nox (defBody st) t ∧ t { nx := fun _ H' => Q .non H', rt := Q } (start N vs) H) : Ok P w K mg base (k + 1) x ps sp := by
  obtain ⟨f, fd, F, B, g⟩ := D.ex
  exact ⟨f, fd, g, F.kp, B, F.ok S len fun cdv A outer s H vs Q E hr h => hbody f cdv A outer s H vs Q E hr h⟩
end
section
variable {X : Cx} {k j : Nat} {x m : Str} {ps : List Str} {sp : Sp} {p pos apos : Pos} {e o : Expr} {es : List Expr} {t : TA} {ta : TE}
theorem pe_ok (O : Ok X.prog X.w X.K X.mg X.base k x ps sp) (hr : Room j X.A) (hk : k ≤ j) (hg : Gl X x) (ha : PA X (e :: es) t) (hdb : (x == ("__debug__" : Str)) = false := by decide) (he : starEach (e :: es) X.env = (false, eval e X.env) :: starEach es X.env := by rfl) (hpl : (backTo pos (starEach es X.env)).any (·.1) = false := by rfl) :
    PE X (.Call (.Name x p) (e :: es) [] pos) (tCall sp [] E0 t) := by
  obtain ⟨f, fd, g, kp, B, G⟩ := O.ex
  exact pe_call G (hr.mono hk) hg g kp B .nil pass0 ha hdb he hpl
end
/-! ### the class -/
structure OkM (P : Program) (w : World) (K : PySem.W.Frag) (mg : Str → Option Value) (base : Heap) (C : Addr) (k : Nat) (m : Str) (ps : List Str) (sp : Sp) : Prop where
  cl : Cls K C
  ex : ∃ f fd, Meth K C m f ∧ Binds K fd ps [] ∧ FnOk P w K mg base CX0 k f fd ps sp
section
variable {X : Cx} {k j : Nat} {x m : Str} {C : Addr} {ps : List Str} {sp : Sp} {p pos apos : Pos} {e o : Expr} {es : List Expr} {t : TA} {ta : TE} {pl : Sem Bool}
theorem pe_okm (ho : PE X o ta) (O : OkM X.prog X.w X.K X.mg X.base C k m ps sp) (hr : Room j X.A) (hk : k ≤ j) (ha : PA X (e :: es) t)
    (hst : starEach (e :: es) X.env = (false, eval e X.env) :: starEach es X.env := by rfl) (hpl : (backTo pos (starEach es X.env)).any (·.1) = false := by rfl)
    (ht : eval (.Call (.Attribute o m apos) (e :: es) [] pos) X.env = (do
      let ov ← eval o X.env
      standAt apos.atName
      let (f, first) ← holding [ov] (getMethod ov m pl)
      callWith pos f first (backTo pos (starEach (e :: es) X.env)) (backToKw pos (keywordEach [] X.env))) := by rfl) :
    PE X (.Call (.Attribute o m apos) (e :: es) [] pos) (tMeth C m sp [] E0 ta t) := by
  obtain ⟨f, fd, M, B, G⟩ := O.ex
  exact pe_meth ho O.cl M G (hr.mono hk) B .nil pass0 ha hst hpl ht
theorem pe_okm0 (ho : PE X o ta) (O : OkM X.prog X.w X.K X.mg X.base C k m ps sp) (hr : Room j X.A) (hk : k ≤ j)
    (ht : eval (.Call (.Attribute o m apos) [] [] pos) X.env = (do
      let ov ← eval o X.env
      standAt apos.atName
      let (f, first) ← holding [ov] (getMethod ov m pl)
      callWith pos f first (backTo pos (starEach [] X.env)) (backToKw pos (keywordEach [] X.env))) := by rfl) :
    PE X (.Call (.Attribute o m apos) [] [] pos) (tMeth C m sp [] E0 ta tNil) := by
  obtain ⟨f, fd, M, B, G⟩ := O.ex
  exact pe_meth0 ho O.cl M G (hr.mono hk) B .nil pass0 ht
end
/-! ### small words -/
theorem qb {Q : VK} {b b' : Bool} {H : Hp} (h : Q (.bl b) H) (e : b' = b) : Q (.bl b') H := by
  rw [e]
  exact h
theorem qi {Q : VK} {i j : Int} {H : Hp} (h : Q (.int i) H) (e : j = i) : Q (.int j) H := by
  rw [e]
  exact h
theorem isCap_eq (n : Int) : Sr99.isCapacity n = (decide (1 ≤ n) && decide (n ≤ 20)) := rfl
theorem isTemp_eq (n : Int) : Sr99.isTemperature n = (decide (0 ≤ n) && decide (n ≤ 400)) := rfl
theorem isTins_eq (n : Int) : Sr99.isTinCount n = (decide (0 ≤ n) && decide (n ≤ 9)) := rfl
theorem isRange_eq (a b : Int) : Sr99.isRange a b = (decide (0 ≤ a) && (decide (a ≤ b) && decide (b ≤ 400))) := rfl
theorem lcYes {σ : L2.St} {H : Hp} {A B : Hp → Prop} (h : A H) : tYes σ H (fun b H3 => if b = true then A H3 else B H3) := by
  show (if true = true then A H else B H)
  rw [if_pos rfl]
  exact h
/-- a chain of two comparisons with <= : what follows for the conjunction -/
theorem chain_le {Q : VK} {H : Hp} {a b c : Int} (q : Q (.bl (decide (a ≤ b) && decide (b ≤ c))) H) :
    ∃ k, V.bl (decide (a ≤ b)) = .bl k ∧ (if k = true then Q (.bl (decide (b ≤ c))) H else Q (.bl false) H) := by
  refine ⟨_, rfl, ite2 (fun h => ?_) fun h => ?_⟩
  · rw [h, Bool.true_and] at q
    exact q
  · rw [Bool.not_eq_true _ |>.mp h, Bool.false_and] at q
    exact q
end Ov

set_option Elab.async false
set_option linter.all false
set_option maxRecDepth 100000
set_option maxHeartbeats 4000000
namespace Ov
open PySem PySem.Spec PyProof.Rows L2 LamX
open Sr99 (Product Oven Batch)
section
variable {P : Program} {w : World} {K : PySem.W.Frag} {mg : Str → Option Value} {base : Heap} {T : List (Addr × Str)}
/-! ### products.py -/
def spI1 (f : Int → Bool) : Sp := fun vs H Q _ => ∃ n, vs = [.int n] ∧ Q (.bl (f n)) H
def spI2 (f : Int → Int → Bool) : Sp := fun vs H Q _ => ∃ a b, vs = [.int a, .int b] ∧ Q (.bl (f a b)) H
abbrev s_is_capacity : Stmt := top 11
theorem sc_is_capacity : FnScope ["number"] ["number"] (defScope s_is_capacity) := ⟨rfl, rfl, rfl, by decide +kernel, rfl, by decide +kernel, by decide +kernel⟩
theorem ok_is_capacity (D : Dn K mg "is_capacity" s_is_capacity ["number"]) (G : Gb K mg) : Ok P w K mg base 1 "is_capacity" ["number"] (spI1 Sr99.isCapacity) := by
  refine D.ok sc_is_capacity (fun vs H Q E h => by obtain ⟨n, rfl, _⟩ := h; rfl) (fun f cdv A outer s H vs Q E hr h => ?_)
  obtain ⟨n, rfl, q⟩ := h
  refine ⟨_, (pss_one (ps_ret (pe_chain op_le op_le pe_int (pv 0) (pe_gl G.GREATEST_CAPACITY (by rfl))))), ?_⟩
  rw [isCap_eq] at q
  obtain ⟨k, e, q⟩ := chain_le q
  cases e
  exact ⟨_, rfl, _, _, rfl, rfl, _, rfl, ite2 (fun h => ⟨_, _, rfl, rfl, by rw [if_pos h] at q; exact q⟩) (fun h => by rw [if_neg h] at q; exact q)⟩
abbrev s_is_temperature : Stmt := top 12
theorem sc_is_temperature : FnScope ["number"] ["number"] (defScope s_is_temperature) := ⟨rfl, rfl, rfl, by decide +kernel, rfl, by decide +kernel, by decide +kernel⟩
theorem ok_is_temperature (D : Dn K mg "is_temperature" s_is_temperature ["number"]) (G : Gb K mg) : Ok P w K mg base 1 "is_temperature" ["number"] (spI1 Sr99.isTemperature) := by
  refine D.ok sc_is_temperature (fun vs H Q E h => by obtain ⟨n, rfl, _⟩ := h; rfl) (fun f cdv A outer s H vs Q E hr h => ?_)
  obtain ⟨n, rfl, q⟩ := h
  refine ⟨_, (pss_one (ps_ret (pe_chain op_le op_le pe_int (pv 0) (pe_gl G.GREATEST_TEMPERATURE (by rfl))))), ?_⟩
  rw [isTemp_eq] at q
  obtain ⟨k, e, q⟩ := chain_le q
  cases e
  exact ⟨_, rfl, _, _, rfl, rfl, _, rfl, ite2 (fun h => ⟨_, _, rfl, rfl, by rw [if_pos h] at q; exact q⟩) (fun h => by rw [if_neg h] at q; exact q)⟩
abbrev s_are_tins : Stmt := top 14
theorem sc_are_tins : FnScope ["number"] ["number"] (defScope s_are_tins) := ⟨rfl, rfl, rfl, by decide +kernel, rfl, by decide +kernel, by decide +kernel⟩
theorem ok_are_tins (D : Dn K mg "are_tins" s_are_tins ["number"]) (G : Gb K mg) : Ok P w K mg base 1 "are_tins" ["number"] (spI1 Sr99.isTinCount) := by
  refine D.ok sc_are_tins (fun vs H Q E h => by obtain ⟨n, rfl, _⟩ := h; rfl) (fun f cdv A outer s H vs Q E hr h => ?_)
  obtain ⟨n, rfl, q⟩ := h
  refine ⟨_, (pss_one (ps_ret (pe_chain op_le op_le pe_int (pv 0) (pe_gl G.GREATEST_TINS (by rfl))))), ?_⟩
  rw [isTins_eq] at q
  obtain ⟨k, e, q⟩ := chain_le q
  cases e
  exact ⟨_, rfl, _, _, rfl, rfl, _, rfl, ite2 (fun h => ⟨_, _, rfl, rfl, by rw [if_pos h] at q; exact q⟩) (fun h => by rw [if_neg h] at q; exact q)⟩
abbrev s_is_range : Stmt := top 13
theorem sc_is_range : FnScope ["lowest", "highest"] ["lowest", "highest"] (defScope s_is_range) := ⟨rfl, rfl, rfl, by decide +kernel, rfl, by decide +kernel, by decide +kernel⟩
theorem ok_is_range (D : Dn K mg "is_range" s_is_range ["lowest", "highest"]) (G : Gb K mg) : Ok P w K mg base 1 "is_range" ["lowest", "highest"] (spI2 Sr99.isRange) := by
  refine D.ok sc_is_range (fun vs H Q E h => by obtain ⟨a, b, rfl, _⟩ := h; rfl) (fun f cdv A outer s H vs Q E hr h => ?_)
  obtain ⟨a, b, rfl, q⟩ := h
  refine ⟨_, (pss_one (ps_ret (pe_and (pe_chain op_le op_le pe_int (pv 0) (pv 1)) (pe_one (pe_cmpR op_le (pv 1) (pe_gl G.GREATEST_TEMPERATURE (by rfl)) (nomark _)))))), ?_⟩
  rw [isRange_eq] at q
  refine ⟨_, rfl, _, _, rfl, rfl, _, rfl, ite2 (fun h1 => ?_) (fun h1 => ?_)⟩
  · refine ⟨_, rfl, _, _, rfl, rfl, _, rfl, ite2 (fun h2 => ?_) (fun h2 => ?_)⟩
    · refine ⟨_, rfl, _, _, rfl, rfl, ?_⟩
      rw [h1, h2, Bool.true_and, Bool.true_and] at q
      exact q
    · rw [h1, Bool.true_and, (Bool.not_eq_true _).mp h2, Bool.false_and] at q
      exact q
  · refine ⟨_, rfl, iteF ?_⟩
    rw [(Bool.not_eq_true _).mp h1, Bool.false_and] at q
    exact q
/-- can_be_baked -/
def spBake (K : PySem.W.Frag) : Sp := fun vs H Q _ => ∃ v p t, vs = [v, .int t] ∧ PrAt K H v p ∧ Q (.bl (bakes p t)) H
abbrev s_can_be_baked : Stmt := top 15
theorem sc_can_be_baked : FnScope ["product", "temperature"] ["product", "temperature"] (defScope s_can_be_baked) := ⟨rfl, rfl, rfl, by decide +kernel, rfl, by decide +kernel, by decide +kernel⟩
theorem ok_can_be_baked (D : Dn K mg "can_be_baked" s_can_be_baked ["product", "temperature"]) (G : Gb K mg) : Ok P w K mg base 1 "can_be_baked" ["product", "temperature"] (spBake K) := by
  refine D.ok sc_can_be_baked (fun vs H Q E h => by obtain ⟨v, p, t, rfl, _⟩ := h; rfl) (fun f cdv A outer s H vs Q E hr h => ?_)
  obtain ⟨v, p, t, rfl, ⟨a, rfl, hp⟩, q⟩ := h
  refine ⟨_, (pss_one (ps_ret (pe_chain op_le op_le (pe_ix (r := rIxT K) ix_tup (pv 0) pe_int (fun _ _ => rfl)) (pv 1) (pe_ix (r := rIxT K) ix_tup (pv 0) pe_int (fun _ _ => rfl))))), ?_⟩
  obtain ⟨k, e, q⟩ := chain_le (a := (p.minTemperature : Int)) (b := t) (c := (p.maxTemperature : Int)) q
  cases e
  exact ⟨_, rfl, _, _, _, _, rfl, rfl, hp, atI_nat (j := 0) rfl, _, rfl, _, _, rfl, rfl, _, rfl, ite2 (fun h => ⟨_, rfl, _, _, _, _, rfl, rfl, hp, atI_nat (j := 1) rfl, _, _, rfl, rfl, by rw [if_pos h] at q; exact q⟩) (fun h => by rw [if_neg h] at q; exact q)⟩
/-- have_common_temperature -/
def spComm (K : PySem.W.Frag) : Sp := fun vs H Q _ => ∃ v u p r, vs = [v, u] ∧ PrAt K H v p ∧ PrAt K H u r ∧ Q (.bl (decide (max p.minTemperature r.minTemperature ≤ min p.maxTemperature r.maxTemperature))) H
abbrev s_have_common_temperature : Stmt := top 16
theorem sc_have_common_temperature : FnScope ["product", "other"] ["product", "other"] (defScope s_have_common_temperature) := ⟨rfl, rfl, rfl, by decide +kernel, rfl, by decide +kernel, by decide +kernel⟩
theorem ok_have_common_temperature (D : Dn K mg "have_common_temperature" s_have_common_temperature ["product", "other"]) (G : Gb K mg) : Ok P w K mg base 1 "have_common_temperature" ["product", "other"] (spComm K) := by
  refine D.ok sc_have_common_temperature (fun vs H Q E h => by obtain ⟨v, u, p, r, rfl, _⟩ := h; rfl) (fun f cdv A outer s H vs Q E hr h => ?_)
  obtain ⟨v, u, p, r, rfl, ⟨a, rfl, hp⟩, ⟨b, rfl, hr'⟩, q⟩ := h
  refine ⟨_, (pss_one (ps_ret (pe_cmpR op_le (pe_callB (call_max2 rfl) (by rfl) G.max boot_max_ (pa_cons (pe_ix (r := rIxT K) ix_tup (pv 0) pe_int (fun _ _ => rfl)) (pa_cons (pe_ix (r := rIxT K) ix_tup (pv 1) pe_int (fun _ _ => rfl)) pa_nil))) (pe_callB (call_min2 rfl) (by rfl) G.min boot_min_ (pa_cons (pe_ix (r := rIxT K) ix_tup (pv 0) pe_int (fun _ _ => rfl)) (pa_cons (pe_ix (r := rIxT K) ix_tup (pv 1) pe_int (fun _ _ => rfl)) pa_nil))) (nomark _)))), ?_⟩
  refine ⟨_, rfl, _, _, _, _, rfl, rfl, hp, atI_nat (j := 0) rfl, _, rfl, _, _, _, _, rfl, rfl, hr', atI_nat (j := 0) rfl, _, _, rfl, ?_⟩
  refine ⟨_, rfl, _, _, _, _, rfl, rfl, hp, atI_nat (j := 1) rfl, _, rfl, _, _, _, _, rfl, rfl, hr', atI_nat (j := 1) rfl, _, _, rfl, _, _, rfl, rfl, qb q ?_⟩
  refine decide_eq_decide.mpr ?_
  split <;> split <;> omega
/-- tins_of -/
def spTins (T : List (Addr × Str)) (K : PySem.W.Frag) : Sp := fun vs H Q _ => ∃ pl ps, vs = [.ref pl] ∧ PsAt K H pl ps ∧ ps.length ≤ 6 ∧
  ∀ H' p, Stay T H H' → New H p → H' p = some (.lst (iv (ps.map fun p => (p.tins : Int)))) → Q (.ref p) H'
theorem size6 {n : Nat} (h : n ≤ 6) : n < sizeLine := Nat.lt_of_le_of_lt h (by rw [sizeLine_eq]; decide)
abbrev s_tins_of : Stmt := top 17
theorem sc_tins_of : FnScope ["products", "product"] ["products"] (defScope s_tins_of) := ⟨rfl, rfl, rfl, by decide +kernel, rfl, by decide +kernel, by decide +kernel⟩
theorem ok_tins_of (D : Dn K mg "tins_of" s_tins_of ["products"]) (G : Gb K mg) : Ok P w K mg base 1 "tins_of" ["products"] (spTins T K) := by
  refine D.ok sc_tins_of (fun vs H Q E h => by obtain ⟨pl, ps, rfl, _⟩ := h; rfl) (fun f cdv A outer s H vs Q E hr h => ?_)
  obtain ⟨pl, ps, rfl, ⟨vs, hpl, hps⟩, hlen, q⟩ := h
  refine ⟨_, (pss_one (ps_ret (pe_lc (own := [("product", 1)]) rfl sc_tins_of.nd (pi_list (pv 0)) (blkOk_by (own := [("product", 1)]) (N := ["products", "product"]) (sc := defScope s_tins_of) (by decide +kernel)) (fun _ _ _ _ _ => (pg_name (i := 1) sc_tins_of.nd rfl (Or.inl rfl))) (fun _ _ _ _ _ => pts_nil) (fun _ _ _ _ _ => (pe_ix (r := rIxT K) ix_tup (pv 1) pe_int (fun _ _ => rfl)))))), ?_⟩
  refine ⟨_, rfl, pl, rfl, ⟨_, SqL.of hpl⟩, fun D hD => ?_⟩
  refine lc_it (walk_list (K := K) (a := pl) (xs := vs)) (fun i H' => Stay T H H' ∧ H' D = some (.lst (iv ((ps.take i).map fun p => (p.tins : Int))))) ⟨StayB.new hD, by rw [upd_same]; rfl⟩ (fun i H' _ h => SqL.of (h.1.lst hpl)) ?_ ?_
  · rintro i x H1 H' hi ⟨st, hd⟩ ⟨rfl, hx⟩
    obtain ⟨hi', a, rfl, ht⟩ := (Stay.psl st hps).inv hx
    refine ⟨rfl, lcYes ?_⟩
    refine ⟨_, rfl, _, _, _, _, rfl, rfl, ht, atI_nat (j := 2) rfl, _, hd, ?_, ?_⟩
    · rw [iv_len, List.length_map, List.length_take]
      exact size6 (by omega)
    · refine ⟨StayB.wrN st hD hd, ?_⟩
      rw [upd_same, List.take_add_one, List.getElem?_eq_getElem hi']
      have e : pAt ps i = ps[i] := by
        unfold pAt
        rw [List.getD_eq_getElem?_getD, List.getElem?_eq_getElem hi'] <;> rfl
      rw [e, List.map_append, iv_append]
      rfl
  · rintro H' ⟨st, hd⟩
    rw [hps.len, List.take_length] at hd
    exact q H' D st (New.of hD) hd
end
end Ov

set_option Elab.async false
set_option linter.all false
set_option maxRecDepth 100000
set_option maxHeartbeats 4000000
namespace Ov
open PySem PySem.Spec PyProof.Rows L2 LamX
open Sr99 (Product Oven Batch)
theorem ixN_nat {n i : Nat} (h : i < n) : ixN n (i : Int) = some i := by
  unfold ixN
  rw [if_pos (by omega), if_pos (by omega), Int.toNat_natCast]
theorem size7 {n : Nat} (h : n ≤ 1000) : n ≤ sizeLine := Nat.le_trans h (by rw [sizeLine_eq]; decide)
/-! ### the instance -/
def capV : Sr99.State → V
  | none => .non
  | some o => .int (o.capacity : Int)
def prods : Sr99.State → List Product
  | none => []
  | some o => o.products
def oF (c : V) (pl : Addr) : List (Str × V) := [("capacity", c), ("products", .ref pl)]
def OvAt (K : PySem.W.Frag) (C : Addr) (H : Hp) (a : Addr) (s : Sr99.State) : Prop := ∃ dx pl, H a = some (.ins C dx (oF (capV s) pl)) ∧ PsAt K H pl (prods s)
theorem lk_here {k : Str} {v : V} {r : List (Str × V)} : List.lookup k ((k, v) :: r) = some v := by
  have e : (k == k) = true := beq_self_eq_true k
  simp only [List.lookup, e]
theorem lk_past {k g : Str} {v : V} {r : List (Str × V)} (h : (k == g) = false) : List.lookup k ((g, v) :: r) = List.lookup k r := by
  simp only [List.lookup, h]
theorem put_here {f : Str} {v x : V} {r : List (Str × V)} : putF f v ((f, x) :: r) = (f, v) :: r := if_pos rfl
theorem put_past {f g : Str} {v x : V} {r : List (Str × V)} (h : ¬ g = f) : putF f v ((g, x) :: r) = (g, x) :: putF f v r := if_neg h
theorem oF_cap (c : V) (pl : Addr) : (oF c pl).lookup ("capacity" : Str) = some c := lk_here
theorem oF_pro (c : V) (pl : Addr) : (oF c pl).lookup ("products" : Str) = some (.ref pl) := (lk_past (by decide +kernel)).trans lk_here
theorem oF_no {m : Str} (c : V) (pl : Addr) (h1 : (m == ("capacity" : Str)) = false) (h2 : (m == ("products" : Str)) = false) : (oF c pl).lookup m = none := (lk_past h1).trans ((lk_past h2).trans rfl)
theorem oF_putc (c d : V) (pl : Addr) : putF "capacity" d (oF c pl) = oF d pl := put_here
theorem oF_putp (c : V) (pl ql : Addr) : putF "products" (.ref ql) (oF c pl) = oF c ql := (put_past (by decide +kernel)).trans (congrArg _ put_here)
theorem pin_oF {c : V} {pl p2 : Addr} (hc : ∀ a, c ≠ .ref a) (h : PIn (oF c pl) p2) : p2 = pl := by
  rcases List.mem_cons.mp h with z | z
  · exact absurd (Prod.mk.inj z).2.symm (hc p2)
  · exact V.ref.inj (Prod.mk.inj (List.mem_singleton.mp z)).2
theorem oF_new (pl : Addr) : putF "products" (.ref pl) (putF "capacity" .non []) = oF .non pl := (put_past (by decide +kernel)).trans rfl
section
variable {T : List (Addr × Str)} {A : List Addr} {K : PySem.W.Frag} {H H1 H2 : Hp} {C : Addr}
theorem PsAt.upd_ins {a pl C dx : Addr} {fs : List (Str × V)} {ps : List Product} {o : HO} (h : PsAt K H pl ps) (e : H a = some (.ins C dx fs)) : PsAt K (upd H a o) pl ps := by
  obtain ⟨vs, h1, h2⟩ := h
  have na : pl ≠ a := ne_of h1 e (fun z => by cases z)
  refine ⟨vs, by rw [upd_ne na]; exact h1, psl_keep (A := [a]) (fun b v e2 _ hb => ?_) h2 fun b hb => ?_⟩
  · have nb : b ≠ a := fun z => hb (by rw [z]; simp)
    rw [upd_ne nb]
    exact e2
  have eb : b = a := by simpa using hb
  rw [eb]
  exact ⟨_, e, rfl⟩
theorem PsAt.new {p pl : Addr} {ps : List Product} {o : HO} (h : PsAt K H pl ps) (n : H p = none) : PsAt K (upd H p o) pl ps := Stay.ps (T := []) (StayB.new n) h
theorem StayB.ps {a pl C dx : Addr} {fs : List (Str × V)} {ps : List Product} (s : StayB T [a] H H1) (h : PsAt K H pl ps) (e : H a = some (.ins C dx fs)) : PsAt K H1 pl ps := by
  obtain ⟨vs, h1, h2⟩ := h
  refine ⟨vs, s.lst h1 ?_, s.psl h2 fun b hb => ?_⟩
  · intro hb
    have eb : pl = a := by simpa using hb
    rw [eb, e] at h1
    cases h1
  · have eb : b = a := by simpa using hb
    rw [eb]
    exact ⟨_, e, rfl⟩
end
structure ClT (K : PySem.W.Frag) (mg : Str → Option Value) (C : Addr) : Prop where
  cl : Cls K C
  nC : NoAttr K C "capacity"
  nP : NoAttr K C "products"
  gC : mg "Oven" = some (.ref C)
structure DnM (K : PySem.W.Frag) (C : Addr) (m qual : Str) (st : Stmt) (ps : List Str) : Prop where
  ex : ∃ f fd, Fun K m qual st f fd ∧ Binds K fd ps [] ∧ Meth K C m f
section
variable {P : Program} {w : World} {K : PySem.W.Frag} {mg : Str → Option Value} {base : Heap} {T : List (Addr × Str)} {C : Addr}
theorem DnM.ok {m qual : Str} {st : Stmt} {N ps : List Str} {k : Nat} {sp : Sp} (D : DnM K C m qual st ps) (cl : Cls K C) (S : FnScope N ps (defScope st)) (len : ∀ vs H Q E, sp vs H Q E → vs.length = ps.length)
    (hbody : ∀ (f : Addr) (cdv : Value) (A : Around) (outer : List Env) (s : Shared) (H : Hp) (vs : List V) (Q : VK) (E : XK), Room k (A.deeper (envOfC qual (defScope st) s.heap.objs.size f cdv)) → sp vs H Q E →
      ∃ t, PSs (cxOf CX0 P w K mg base N qual (defScope st) f cdv A outer s H E).nox (defBody st) t ∧ t { nx := fun _ H' => Q .non H', rt := Q } (start N vs) H) : OkM P w K mg base C (k + 1) m ps sp := by
  obtain ⟨f, fd, F, B, M⟩ := D.ex
  exact ⟨cl, f, fd, M, B, F.ok S len fun cdv A outer s H vs Q E hr h => hbody f cdv A outer s H vs Q E hr h⟩
/-! ### products.py, the rest -/
def spWithP (T : List (Addr × Str)) (K : PySem.W.Frag) : Sp := fun vs H Q _ => ∃ (pl : Addr) (i : Nat) (v : V) (p : Product) (ps : List Product), vs = [.ref pl, .int i, v] ∧ PsAt K H pl ps ∧ PrAt K H v p ∧ i < ps.length ∧
  ∀ H' q, Stay T H H' → New H q → PsAt K H' q (ps.set i p) → Q (.ref q) H'
abbrev s_with_product : Stmt := top 18
theorem sc_with_product : FnScope ["products", "place", "product", "found"] ["products", "place", "product"] (defScope s_with_product) := ⟨rfl, rfl, rfl, by decide +kernel, rfl, by decide +kernel, by decide +kernel⟩
theorem ok_with_product (D : Dn K mg "with_product" s_with_product ["products", "place", "product"]) (G : Gb K mg) : Ok P w K mg base 1 "with_product" ["products", "place", "product"] (spWithP T K) := by
  refine D.ok sc_with_product (fun vs H Q E h => by obtain ⟨pl, i, v, p, ps, rfl, _⟩ := h; rfl) (fun f cdv A outer s H vs Q E hr h => ?_)
  obtain ⟨pl, i, v, p, ps, rfl, ⟨vs, hpl, hps⟩, hp, hi, q⟩ := h
  refine ⟨_, (pss_cons (ps_set (i := 3) sc_with_product.nd rfl (.inl rfl) (pe_callTy call_list_of (by rfl) G.list boot_list_ (pa_cons (pv 0) pa_nil)))
    (pss_cons (ps_asg (pv 2) (pg_sub (pv 3) (pv 1) set_list))
    (pss_one (ps_ret (pv 3))))), ?_⟩
  refine ⟨_, rfl, pl, vs, rfl, .inl (SqL.of hpl), fun l hl => ?_⟩
  have st : Stay T H (upd H l (.lst vs)) := StayB.new hl
  refine ⟨_, rfl, _, rfl, _, rfl, l, vs, _, i, rfl, rfl, upd_same, ixN_nat (by rw [hps.len]; exact hi), ?_⟩
  have st2 := StayB.wrN (o := .lst (vs.set i v)) st hl upd_same
  exact ⟨_, rfl, q _ l st2 (New.of hl) ⟨_, upd_same, (Stay.psl st2 hps).set i (Stay.pr st2 hp)⟩⟩
def spWithT (T : List (Addr × Str)) (K : PySem.W.Frag) : Sp := fun vs H Q _ => ∃ (pl : Addr) (i t : Nat) (ps : List Product), vs = [.ref pl, .int i, .int t] ∧ PsAt K H pl ps ∧ i < ps.length ∧
  ∀ H' q, Stay T H H' → New H q → PsAt K H' q (ps.set i { pAt ps i with tins := t }) → Q (.ref q) H'
abbrev s_with_tins : Stmt := top 19
theorem sc_with_tins : FnScope ["products", "place", "tins", "lowest", "highest", "old"] ["products", "place", "tins"] (defScope s_with_tins) := ⟨rfl, rfl, rfl, by decide +kernel, rfl, by decide +kernel, by decide +kernel⟩
theorem ok_with_tins (D : Dn K mg "with_tins" s_with_tins ["products", "place", "tins"]) (G : Gb K mg) (o_with_product : Ok P w K mg base 1 "with_product" ["products", "place", "product"] (spWithP T K)) : Ok P w K mg base 2 "with_tins" ["products", "place", "tins"] (spWithT T K) := by
  refine D.ok sc_with_tins (fun vs H Q E h => by obtain ⟨pl, i, t, ps, rfl, _⟩ := h; rfl) (fun f cdv A outer s H vs Q E hr h => ?_)
  obtain ⟨pl, i, t, ps, rfl, ⟨vs, hpl, hps⟩, hi, q⟩ := h
  refine ⟨_, (pss_cons (ps_asg (pe_ix (r := rIxL K) ix_list (pv 0) (pv 1) (fun _ _ => rfl)) (pg_tup rfl (pgs_cons (pg_name (i := 3) sc_with_tins.nd rfl (.inl rfl)) (pgs_cons (pg_name (i := 4) sc_with_tins.nd rfl (.inl rfl)) (pgs_cons (pg_name (i := 5) sc_with_tins.nd rfl (.inl rfl)) pgs_nil)))))
    (pss_one (ps_ret (pe_ok o_with_product hr (by decide) (by rfl) (pa_cons (pv 0) (pa_cons (pv 1) (pa_cons (pe_tup (pa_cons (pv 3) (pa_cons (pv 4) (pa_cons (pv 2) pa_nil)))) pa_nil))))))), ?_⟩
  obtain ⟨v, hv, a, rfl, ht⟩ := hps.get hi
  refine ⟨_, rfl, _, rfl, _, _, _, _, rfl, rfl, SqL.of hpl, atI_nat hv, _, _, rfl, ht, rfl, _, _, rfl, _, _, rfl, _, _, rfl, rfl, ?_⟩
  refine ⟨_, rfl, _, rfl, _, rfl, _, rfl, _, rfl, (by show 3 ≤ sizeLine; decide), fun p hp => ?_⟩
  have st : Stay T H (upd H p (.tup (pV { pAt ps i with tins := t }))) := StayB.new hp
  exact ⟨pl, i, _, { pAt ps i with tins := t }, ps, rfl, Stay.ps st ⟨vs, hpl, hps⟩, ⟨p, rfl, SqT.of upd_same⟩, hi, fun H' r s2 n2 h2 => q H' r (st.trans s2) (New.back st n2) h2⟩
def spWithR (T : List (Addr × Str)) (K : PySem.W.Frag) : Sp := fun vs H Q _ => ∃ (pl : Addr) (i lo hi : Nat) (ps : List Product), vs = [.ref pl, .int i, .int lo, .int hi] ∧ PsAt K H pl ps ∧ i < ps.length ∧
  ∀ H' q, Stay T H H' → New H q → PsAt K H' q (ps.set i { pAt ps i with minTemperature := lo, maxTemperature := hi }) → Q (.ref q) H'
abbrev s_with_range : Stmt := top 20
theorem sc_with_range : FnScope ["products", "place", "lowest", "highest"] ["products", "place", "lowest", "highest"] (defScope s_with_range) := ⟨rfl, rfl, rfl, by decide +kernel, rfl, by decide +kernel, by decide +kernel⟩
theorem ok_with_range (D : Dn K mg "with_range" s_with_range ["products", "place", "lowest", "highest"]) (G : Gb K mg) (o_with_product : Ok P w K mg base 1 "with_product" ["products", "place", "product"] (spWithP T K)) : Ok P w K mg base 2 "with_range" ["products", "place", "lowest", "highest"] (spWithR T K) := by
  refine D.ok sc_with_range (fun vs H Q E h => by obtain ⟨pl, i, lo, hi, ps, rfl, _⟩ := h; rfl) (fun f cdv A outer s H vs Q E hr h => ?_)
  obtain ⟨pl, i, lo, hi, ps, rfl, ⟨vs, hpl, hps⟩, hi', q⟩ := h
  refine ⟨_, (pss_one (ps_ret (pe_ok o_with_product hr (by decide) (by rfl) (pa_cons (pv 0) (pa_cons (pv 1) (pa_cons (pe_tup (pa_cons (pv 2) (pa_cons (pv 3) (pa_cons (pe_ix (r := rIxT K) ix_tup (pe_ix (r := rIxL K) ix_list (pv 0) (pv 1) (fun _ _ => rfl)) pe_int (fun _ _ => rfl)) pa_nil)))) pa_nil)))))), ?_⟩
  obtain ⟨v, hv, a, rfl, ht⟩ := hps.get hi'
  refine ⟨_, rfl, _, rfl, _, rfl, _, rfl, _, rfl, _, rfl, _, _, _, _, rfl, rfl, SqL.of hpl, atI_nat hv, _, _, _, _, rfl, rfl, ht, atI_nat (j := 2) rfl, (by show 3 ≤ sizeLine; decide), fun p hp => ?_⟩
  have st : Stay T H (upd H p (.tup (pV { pAt ps i with minTemperature := lo, maxTemperature := hi }))) := StayB.new hp
  exact ⟨pl, i, _, { pAt ps i with minTemperature := lo, maxTemperature := hi }, ps, rfl, Stay.ps st ⟨vs, hpl, hps⟩, ⟨p, rfl, SqT.of upd_same⟩, hi', fun H' r s2 n2 h2 => q H' r (st.trans s2) (New.back st n2) h2⟩
def spWithout (T : List (Addr × Str)) (K : PySem.W.Frag) : Sp := fun vs H Q _ => ∃ (pl : Addr) (i : Nat) (ps : List Product), vs = [.ref pl, .int i] ∧ PsAt K H pl ps ∧ i < ps.length ∧ ps.length ≤ 6 ∧
  ∀ H' q, Stay T H H' → New H q → PsAt K H' q (ps.eraseIdx i) → Q (.ref q) H'
theorem cut_to (xs : List V) (i : Nat) : cutV xs none (some (i : Int)) = xs.take i := by
  unfold cutV
  rw [HT.sIx_nat, HT.sIx_none, List.drop_zero, Nat.sub_zero]
  rcases Nat.le_total i xs.length with h | h
  · rw [Nat.min_eq_left h]
  · rw [Nat.min_eq_right h, List.take_of_length_le h, List.take_of_length_le (Nat.le_refl _)]
theorem cut_from (xs : List V) (i : Nat) : cutV xs (some (i : Int)) none = xs.drop i := by
  unfold cutV
  rw [HT.sIx_nat, HT.sIx_none]
  rcases Nat.le_total i xs.length with h | h
  · rw [Nat.min_eq_left h]
    exact List.take_of_length_le (by rw [List.length_drop]; omega)
  · rw [Nat.min_eq_right h, Nat.sub_self, List.take_zero, List.drop_eq_nil_of_le h]
theorem cut_both (xs : List V) (i j : Nat) (h : i ≤ j) (hj : j ≤ xs.length) : cutV xs (some (i : Int)) (some (j : Int)) = (xs.drop i).take (j - i) := by
  unfold cutV
  rw [HT.sIx_nat, HT.sIx_nat, Nat.min_eq_left (show i ≤ xs.length by omega), Nat.min_eq_left hj]
abbrev s_without_product : Stmt := top 21
theorem sc_without_product : FnScope ["products", "place"] ["products", "place"] (defScope s_without_product) := ⟨rfl, rfl, rfl, by decide +kernel, rfl, by decide +kernel, by decide +kernel⟩
theorem ok_without_product (D : Dn K mg "without_product" s_without_product ["products", "place"]) (G : Gb K mg) : Ok P w K mg base 1 "without_product" ["products", "place"] (spWithout T K) := by
  refine D.ok sc_without_product (fun vs H Q E h => by obtain ⟨pl, i, ps, rfl, _⟩ := h; rfl) (fun f cdv A outer s H vs Q E hr h => ?_)
  obtain ⟨pl, i, ps, rfl, ⟨vs, hpl, hps⟩, hi, hlen, q⟩ := h
  refine ⟨_, (pss_one (ps_ret (pe_op op_cat (pe_slice (r := rSlL K) sl_list (pv 0) po_none (po_some (pv 1))) (pe_slice (r := rSlL K) sl_list (pv 0) (po_some (pe_op op_add (pv 1) pe_int)) po_none)))), ?_⟩
  refine ⟨_, rfl, _, rfl, _, rfl, pl, vs, rfl, SqL.of hpl, fun p hp => ?_⟩
  have st1 : Stay T H (upd H p (.lst (cutV vs none (some (i : Int))))) := StayB.new hp
  refine ⟨_, rfl, _, rfl, _, _, rfl, rfl, _, rfl, pl, vs, rfl, SqL.of (st1.lst hpl), fun r hr' => ?_⟩
  have st2 := StayB.new (T := T) (A := []) (o := .lst (cutV vs (some ((i : Int) + 1)) none)) hr'
  have nrp : p ≠ r := ne_of_none upd_same hr'
  refine ⟨_, _, _, _, rfl, rfl, by rw [upd_ne nrp]; exact upd_same, upd_same, ?_, fun l hl => ?_⟩
  · have h1 := cutV_length vs none (some (i : Int))
    have h2 := cutV_length vs (some ((i : Int) + 1)) none
    rw [hps.len] at h1 h2
    exact size7 (by omega)
  · have st3 := StayB.new (T := T) (A := []) (o := .lst (cutV vs none (some (i : Int)) ++ cutV vs (some ((i : Int) + 1)) none)) hl
    have st := st1.trans (st2.trans st3)
    refine q _ l st (New.back (st1.trans st2) (New.of hl)) ⟨cutV vs none (some (i : Int)) ++ cutV vs (some ((i : Int) + 1)) none, upd_same, ?_⟩
    have h5 := (Stay.psl st hps).erase i
    have e : cutV vs none (some (i : Int)) ++ cutV vs (some ((i : Int) + 1)) none = vs.eraseIdx i := by
      have e1 : ((i : Int) + 1) = ((i + 1 : Nat) : Int) := by omega
      rw [cut_to, e1, cut_from, List.eraseIdx_eq_take_drop_succ]
    rw [← e] at h5
    exact h5
/-! ### oven.py -/
def spInit (T : List (Addr × Str)) (K : PySem.W.Frag) (C : Addr) : Sp := fun vs H Q _ => ∃ a dx, vs = [.ref a] ∧ H a = some (.ins C dx []) ∧ ∀ H', StayB T [a] H H' → OvAt K C H' a none → Q .non H'
abbrev s_Oven___init__ : Stmt := inClass (top 6) 0
theorem sc_Oven___init__ : FnScope ["self"] ["self"] (defScope s_Oven___init__) := ⟨rfl, rfl, rfl, by decide +kernel, rfl, by decide +kernel, by decide +kernel⟩
theorem fn_init {f : Addr} {fd : FuncData} (F : Fun K "__init__" "Oven.__init__" s_Oven___init__ f fd) (M : ClT K mg C) : FnOk P w K mg base CX0 1 f fd ["self"] (spInit T K C) := by
  refine F.ok sc_Oven___init__ (fun vs H Q E h => by obtain ⟨a, dx, rfl, _⟩ := h; rfl) (fun cdv A outer s H vs Q E hr h => ?_)
  obtain ⟨a, dx, rfl, ha, q⟩ := h
  refine ⟨_, (pss_cons (ps_fld (pv 0) pe_non rfl)
    (pss_one (ps_fld (pv 0) (pe_lst pa_nil) rfl))), ?_⟩
  refine ⟨_, rfl, a, C, dx, [], rfl, ha, M.cl, M.nC, (by show 0 < 1000; decide), size7 (by decide), fun l hl => ?_⟩
  have pin0 : ∀ pl, ¬ PIn (putF "capacity" .non []) pl := fun pl h => by
    have := List.mem_singleton.mp (show (("products" : Str), V.ref pl) ∈ [(("capacity" : Str), V.non)] from h)
    cases (Prod.mk.inj this).2
  have st1 : StayB T [a] H (upd H a (.ins C dx (putF "capacity" .non []))) := StayB.wr StayB.refl (by simp) ha rfl (fun _ _ _ _ => ⟨_, _, _, rfl, fun pl h => absurd h (pin0 pl)⟩)
  have nla : a ≠ l := ne_of_none upd_same hl
  have e2 : (upd (upd H a (.ins C dx (putF "capacity" .non []))) l (.lst [])) a = some (.ins C dx (putF "capacity" .non [])) := by rw [upd_ne nla, upd_same]
  have st2 : StayB T [a] _ (upd (upd H a (.ins C dx (putF "capacity" .non []))) l (.lst [])) := StayB.new hl
  refine ⟨_, rfl, a, C, dx, _, rfl, e2, M.cl, M.nP, (by show 1 < 1000; decide), ?_⟩
  have hl0 : H l = none := by
    rw [upd_ne nla.symm] at hl
    exact hl
  refine q _ (StayB.wr (st1.trans st2) (by simp) e2 rfl (fun _ _ _ _ => ⟨_, _, _, rfl, fun pl h => ?_⟩)) ⟨dx, l, ?_, [], ?_, PsL.nil⟩
  · have h' : PIn (oF .non l) pl := by
      rw [← oF_new l]
      exact h
    obtain rfl := pin_oF (fun _ => by exact V.noConfusion) h'
    exact .inr (.inl (New.of hl0))
  · rw [upd_same]
    exact congrArg (fun z => some (HO.ins C dx z)) (oF_new l)
  · rw [upd_ne nla.symm, upd_same]
def spThere (K : PySem.W.Frag) (C : Addr) : Sp := fun vs H Q _ => ∃ a s, vs = [.ref a] ∧ OvAt K C H a s ∧ Q (.bl s.isSome) H
abbrev s_Oven_is_there : Stmt := inClass (top 6) 1
theorem sc_Oven_is_there : FnScope ["self"] ["self"] (defScope s_Oven_is_there) := ⟨rfl, rfl, rfl, by decide +kernel, rfl, by decide +kernel, by decide +kernel⟩
theorem ok_is_there (D : DnM K C "is_there" "Oven.is_there" s_Oven_is_there ["self"]) (M : ClT K mg C) : OkM P w K mg base C 1 "is_there" ["self"] (spThere K C) := by
  refine D.ok M.cl sc_Oven_is_there (fun vs H Q E h => by obtain ⟨a, s, rfl, _⟩ := h; rfl) (fun f cdv A outer sh H vs Q E hr h => ?_)
  obtain ⟨a, s, rfl, ⟨dx, pl, ha, hps⟩, q⟩ := h
  refine ⟨_, (pss_one (ps_ret (pe_cmpR op_notN (pe_fld (pv 0) rfl) pe_non (nomark _)))), ?_⟩
  refine ⟨_, rfl, a, C, dx, _, _, rfl, ha, M.cl, M.nC, oF_cap _ _, rfl, qb q ?_⟩
  cases s <;> rfl
def spHas (K : PySem.W.Frag) (C : Addr) : Sp := fun vs H Q _ => ∃ a s n, vs = [.ref a, .int n] ∧ OvAt K C H a s ∧ Q (.bl (SrCommon.isIndex n (prods s).length)) H
abbrev s_Oven_has_product : Stmt := inClass (top 6) 2
theorem sc_Oven_has_product : FnScope ["self", "number"] ["self", "number"] (defScope s_Oven_has_product) := ⟨rfl, rfl, rfl, by decide +kernel, rfl, by decide +kernel, by decide +kernel⟩
theorem ok_has_product (D : DnM K C "has_product" "Oven.has_product" s_Oven_has_product ["self", "number"]) (M : ClT K mg C) (G : Gb K mg) : OkM P w K mg base C 1 "has_product" ["self", "number"] (spHas K C) := by
  refine D.ok M.cl sc_Oven_has_product (fun vs H Q E h => by obtain ⟨a, s, n, rfl, _⟩ := h; rfl) (fun f cdv A outer sh H vs Q E hr h => ?_)
  obtain ⟨a, s, n, rfl, ⟨dx, pl, ha, vs, hpl, hps⟩, q⟩ := h
  refine ⟨_, (pss_one (ps_ret (pe_chain op_le op_lt pe_int (pv 1) (pe_callB call_len_seq (by rfl) G.len PySem.boot_len (pa_cons (pe_fld (pv 0) rfl) pa_nil))))), ?_⟩
  refine ⟨_, rfl, _, _, rfl, rfl, _, rfl, ite2 (fun h1 => ?_) (fun h1 => ?_)⟩
  · refine ⟨_, rfl, a, C, dx, _, _, rfl, ha, M.cl, M.nP, oF_pro _ _, pl, vs, rfl, .inl (SqL.of hpl), _, _, rfl, rfl, qb q ?_⟩
    show decide (n < (vs.length : Int)) = (decide (0 ≤ n) && decide (n < ((prods s).length : Int)))
    rw [h1, Bool.true_and, hps.len]
  · refine qb q ?_
    show false = (decide (0 ≤ n) && decide (n < ((prods s).length : Int)))
    rw [(Bool.not_eq_true _).mp h1, Bool.false_and]
def spTakeC (T : List (Addr × Str)) (K : PySem.W.Frag) (C : Addr) : Sp := fun vs H Q _ => ∃ (a : Addr) (s : Sr99.State) (c : Nat), vs = [.ref a, .int c] ∧ OvAt K C H a s ∧ ∀ H', StayB T [a] H H' → OvAt K C H' a (some ⟨prods s, c⟩) → Q .non H'
abbrev s_Oven_take_capacity : Stmt := inClass (top 6) 3
theorem sc_Oven_take_capacity : FnScope ["self", "capacity"] ["self", "capacity"] (defScope s_Oven_take_capacity) := ⟨rfl, rfl, rfl, by decide +kernel, rfl, by decide +kernel, by decide +kernel⟩
theorem ok_take_capacity (D : DnM K C "take_capacity" "Oven.take_capacity" s_Oven_take_capacity ["self", "capacity"]) (M : ClT K mg C) : OkM P w K mg base C 1 "take_capacity" ["self", "capacity"] (spTakeC T K C) := by
  refine D.ok M.cl sc_Oven_take_capacity (fun vs H Q E h => by obtain ⟨a, s, n, rfl, _⟩ := h; rfl) (fun f cdv A outer sh H vs Q E hr h => ?_)
  obtain ⟨a, s, c, rfl, ⟨dx, pl, ha, hps⟩, q⟩ := h
  refine ⟨_, (pss_one (ps_fld (pv 0) (pv 1) rfl)), ?_⟩
  refine ⟨_, rfl, _, rfl, a, C, dx, _, rfl, ha, M.cl, M.nC, (by show 2 < 1000; decide), ?_⟩
  refine q _ (StayB.wr StayB.refl (by simp) ha rfl (fun C1 d1 f1 e1 => ⟨_, _, _, rfl, fun pl2 h => .inl ?_⟩)) ⟨dx, pl, upd_same.trans (congrArg (fun z => some (HO.ins C dx z)) (oF_putc _ _ _)), hps.upd_ins ha⟩
  rw [ha] at e1
  cases e1
  have h' : PIn (oF (.int (c : Int)) pl) pl2 := by
    rw [← oF_putc (capV s) (.int (c : Int)) pl]
    exact h
  obtain rfl := pin_oF (fun _ => by exact V.noConfusion) h'
  exact List.mem_cons_of_mem _ (List.mem_singleton.mpr rfl)
def spTakeP (T : List (Addr × Str)) (K : PySem.W.Frag) (C : Addr) : Sp := fun vs H Q _ => ∃ (a pl' : Addr) (o : Oven) (ps' : List Product), vs = [.ref a, .ref pl'] ∧ OvAt K C H a (some o) ∧ PsAt K H pl' ps' ∧ ∀ H', StayB T [a] H H' → OvAt K C H' a (some ⟨ps', o.capacity⟩) → Q .non H'
abbrev s_Oven_take_products : Stmt := inClass (top 6) 4
theorem sc_Oven_take_products : FnScope ["self", "products"] ["self", "products"] (defScope s_Oven_take_products) := ⟨rfl, rfl, rfl, by decide +kernel, rfl, by decide +kernel, by decide +kernel⟩
theorem ok_take_products (D : DnM K C "take_products" "Oven.take_products" s_Oven_take_products ["self", "products"]) (M : ClT K mg C) (G : Gb K mg) : OkM P w K mg base C 1 "take_products" ["self", "products"] (spTakeP T K C) := by
  refine D.ok M.cl sc_Oven_take_products (fun vs H Q E h => by obtain ⟨a, s, n, _, rfl, _⟩ := h; rfl) (fun f cdv A outer sh H vs Q E hr h => ?_)
  obtain ⟨a, pl', o, ps', rfl, ⟨dx, pl, ha, hps⟩, ⟨vs, hv, hp⟩, q⟩ := h
  refine ⟨_, (pss_one (ps_fld (pv 0) (pe_callTy call_list_of (by rfl) G.list boot_list_ (pa_cons (pv 1) pa_nil)) rfl)), ?_⟩
  refine ⟨_, rfl, pl', vs, rfl, .inl (SqL.of hv), fun l hl => ?_⟩
  have st1 : StayB T [a] H (upd H l (.lst vs)) := StayB.new hl
  have nal : a ≠ l := ne_of_none ha hl
  have ha2 : (upd H l (.lst vs)) a = some (.ins C dx (oF (capV (some o)) pl)) := by rw [upd_ne nal]; exact ha
  refine ⟨_, rfl, a, C, dx, _, rfl, ha2, M.cl, M.nP, (by show 2 < 1000; decide), ?_⟩
  refine q _ (StayB.wr st1 (by simp) ha2 rfl (fun C1 d1 f1 e1 => ⟨_, _, _, rfl, fun pl2 h => .inr (.inl ?_)⟩)) ⟨dx, l, upd_same.trans (congrArg (fun z => some (HO.ins C dx z)) (oF_putp _ _ _)), ?_⟩
  · have h' : PIn (oF (capV (some o)) l) pl2 := by
      rw [← oF_putp (capV (some o)) pl l]
      exact h
    obtain rfl := pin_oF (fun _ => by exact V.noConfusion) h'
    exact New.of hl
  have h1 : PsAt K (upd H l (.lst vs)) l ps' := ⟨vs, upd_same, Stay.psl (T := []) (StayB.new hl) hp⟩
  exact h1.upd_ins ha2
end
end Ov

set_option Elab.async false
set_option linter.all false
set_option maxRecDepth 100000
set_option maxHeartbeats 4000000
namespace Ov
open PySem PySem.Spec PyProof.Rows L2 LamX
open Sr99 (Product Oven Batch)
/-! ### changes.py -/
/-- a call: the oven at a, its numbers in the list at nl -/
def spOp (T : List (Addr × Str)) (K : PySem.W.Frag) (C : Addr) (p : Int) (pre : Sr99.State → List Int → Prop) : Sp := fun vs H Q _ => ∃ (a nl : Addr) (s : Sr99.State) (ns : List Int), vs = [.ref a, .ref nl] ∧ OvAt K C H a s ∧ OkS s ∧ H nl = some (.lst (iv ns)) ∧ Tabs T H ∧ pre s ns ∧
  ∀ H' r, StayB T [a] H H' → OvAt K C H' a (stepM s p ns).1 → New H r → H' r = some (.lst (iv (stepM s p ns).2)) → Q (.ref r) H'
/-- there is an instance, and so many numbers -/
def preN (n : Nat) (s : Sr99.State) (ns : List Int) : Prop := s ≠ none ∧ ns.length = n
section
variable {T : List (Addr × Str)} {A : List Addr} {K : PySem.W.Frag} {H H1 H2 : Hp} {C : Addr}
theorem New.backB {a p : Addr} {s : Sr99.State} (st : StayB T [a] H H1) (ov : OvAt K C H1 a s) (n : New H1 p) : New H p := fun o e => by
  by_cases h : ∀ ps, o ≠ .tbl ps
  · by_cases ha : p = a
    · obtain ⟨dx, pl, e1, _⟩ := ov
      rw [← ha] at e1
      obtain ⟨ps, q⟩ := n _ e1
      cases q
    · exact n o (st.keep p o e h (by simpa using ha))
  · exact Classical.byContradiction fun z => h fun ps q => z ⟨ps, q⟩
theorem OvAt.new {a p : Addr} {s : Sr99.State} {o : HO} (ov : OvAt K C H a s) (n : H p = none) : OvAt K C (upd H p o) a s := by
  obtain ⟨dx, pl, h1, h2⟩ := ov
  exact ⟨dx, pl, by rw [upd_ne (ne_of_none h1 n)]; exact h1, h2.new n⟩
theorem OvAt.stay {a : Addr} {s : Sr99.State} (ov : OvAt K C H a s) (st : Stay T H H1) : OvAt K C H1 a s := by
  obtain ⟨dx, pl, h1, h2⟩ := ov
  exact ⟨dx, pl, st.ins h1, Stay.ps st h2⟩
/-- a new list is handed back -/
theorem give {a : Addr} {s : Sr99.State} {l : List Int} {Q : VK} (q : ∀ H' r, StayB T [a] H H' → OvAt K C H' a s → New H r → H' r = some (.lst (iv l)) → Q (.ref r) H') (st : StayB T [a] H H1) (ov : OvAt K C H1 a s) {xs : List V} (e : xs = iv l) :
    ∀ p, H1 p = none → Q (.ref p) (upd H1 p (.lst xs)) := fun p hp => by
  subst e
  exact q _ p (st.trans (StayB.new hp)) (ov.new hp) (New.backB st ov (New.of hp)) upd_same
theorem lst_stayB {a nl : Addr} {s : Sr99.State} {xs : List V} (st : StayB T [a] H H1) (ov : OvAt K C H a s) (h : H nl = some (.lst xs)) : H1 nl = some (.lst xs) := by
  refine st.lst h fun z => ?_
  have e : nl = a := by simpa using z
  obtain ⟨dx, pl, e1, _⟩ := ov
  rw [e, e1] at h
  cases h
end
structure Ms (P : Program) (w : World) (K : PySem.W.Frag) (mg : Str → Option Value) (base : Heap) (T : List (Addr × Str)) (C : Addr) : Prop where
  is_there : OkM P w K mg base C 1 "is_there" ["self"] (spThere K C)
  has_product : OkM P w K mg base C 1 "has_product" ["self", "number"] (spHas K C)
  take_capacity : OkM P w K mg base C 1 "take_capacity" ["self", "capacity"] (spTakeC T K C)
  take_products : OkM P w K mg base C 1 "take_products" ["self", "products"] (spTakeP T K C)
theorem no_tc (c : V) (pl : Addr) : (oF c pl).lookup ("take_capacity" : Str) = none := oF_no _ _ (by decide +kernel) (by decide +kernel)
theorem no_tp (c : V) (pl : Addr) : (oF c pl).lookup ("take_products" : Str) = none := oF_no _ _ (by decide +kernel) (by decide +kernel)
theorem no_hp (c : V) (pl : Addr) : (oF c pl).lookup ("has_product" : Str) = none := oF_no _ _ (by decide +kernel) (by decide +kernel)
theorem no_it (c : V) (pl : Addr) : (oF c pl).lookup ("is_there" : Str) = none := oF_no _ _ (by decide +kernel) (by decide +kernel)
theorem toNat_v {x : Int} (h : 0 ≤ x) : V.int x = V.int (x.toNat : Int) := congrArg V.int (Int.toNat_of_nonneg h).symm
theorem not_t {b : Bool} (h : (!b) = true) : b = false := by cases b <;> first | rfl | cases h
theorem not_f {b : Bool} (h : ¬ (!b) = true) : b = true := by cases b <;> first | rfl | exact absurd rfl h
section
variable {P : Program} {w : World} {K : PySem.W.Frag} {mg : Str → Option Value} {base : Heap} {T : List (Addr × Str)} {C : Addr}
abbrev s_create : Stmt := top 23
theorem sc_create : FnScope ["oven", "numbers"] ["oven", "numbers"] (defScope s_create) := ⟨rfl, rfl, rfl, by decide +kernel, rfl, by decide +kernel, by decide +kernel⟩
theorem ok_create (D : Dn K mg "create" s_create ["oven", "numbers"]) (G : Gb K mg) (M : Ms P w K mg base T C) (o_is_capacity : Ok P w K mg base 1 "is_capacity" ["number"] (spI1 Sr99.isCapacity)) :
    Ok P w K mg base 2 "create" ["oven", "numbers"] (spOp T K C 0 fun _ ns => ns.length = 1) := by
  refine D.ok sc_create (fun vs H Q E h => by obtain ⟨_, _, _, _, rfl, _⟩ := h; rfl) (fun f cdv A outer sh H vs Q E hr h => ?_)
  obtain ⟨a, nl, s, ns, rfl, ov, ok, hnl, tb, pre, q⟩ := h
  match ns, pre with
  | [x], _ =>
    refine ⟨_, (pss_cons (ps_if (pt_not (pt_val (pe_ok o_is_capacity hr (by decide) (by rfl) (pa_cons (pe_ix (r := rIxL K) ix_list (pv 1) pe_int (fun _ _ => rfl)) pa_nil)))) (pss_one (ps_ret (pe_lst (pa_cons (pe_gl G.OUT_OF_RANGE (by rfl)) pa_nil)))) pss_nil)
    (pss_cons (ps_expr (pe_okm (pv 0) M.take_capacity hr (by decide) (pa_cons (pe_ix (r := rIxL K) ix_list (pv 1) pe_int (fun _ _ => rfl)) pa_nil)))
    (pss_cons (ps_expr (pe_okm (pv 0) M.take_products hr (by decide) (pa_cons (pe_lst pa_nil) pa_nil)))
    (pss_one (ps_ret (pe_lst (pa_cons pe_int pa_nil))))))), ?_⟩
    obtain ⟨dx, pl, ha, hps⟩ := id ov
    refine ⟨_, rfl, _, _, _, _, rfl, rfl, SqL.of hnl, atI_nat (j := 0) rfl, _, rfl, _, rfl, ite2 (fun h => ?_) (fun h => ?_)⟩
    · rw [step_create_bad s x (not_t h)] at q
      exact ⟨size7 (by decide), give q StayB.refl ov rfl⟩
    · have hc := not_f h
      have hx := cap_true hc
      rw [step_create_ok s x hc] at q
      refine ⟨_, rfl, a, dx, _, rfl, ha, no_tc _ _, _, rfl, _, _, _, _, rfl, rfl, SqL.of hnl, atI_nat (j := 0) rfl, a, s, x.toNat, by rw [← toNat_v (by omega)]; rfl, ov, fun H1 st1 ov1 => ?_⟩
      obtain ⟨dx1, pl1, ha1, hps1⟩ := id ov1
      refine ⟨_, rfl, a, dx1, _, rfl, ha1, no_tp _ _, size7 (by decide), fun l hl => ⟨a, l, _, [], rfl, ov1.new hl, ⟨[], upd_same, PsL.nil⟩, fun H2 st2 ov2 => ?_⟩⟩
      exact ⟨size7 (by decide), give q (st1.trans ((StayB.new hl).trans st2)) ov2 rfl⟩
abbrev s_add_product : Stmt := top 24
theorem sc_add_product : FnScope ["oven", "numbers", "many", "lowest", "highest", "tins"] ["oven", "numbers"] (defScope s_add_product) := ⟨rfl, rfl, rfl, by decide +kernel, rfl, by decide +kernel, by decide +kernel⟩
theorem ok_add_product (D : Dn K mg "add_product" s_add_product ["oven", "numbers"]) (G : Gb K mg) (M : Ms P w K mg base T C) (cl : ClT K mg C) (o_is_range : Ok P w K mg base 1 "is_range" ["lowest", "highest"] (spI2 Sr99.isRange)) (o_are_tins : Ok P w K mg base 1 "are_tins" ["number"] (spI1 Sr99.isTinCount)) :
    Ok P w K mg base 2 "add_product" ["oven", "numbers"] (spOp T K C 1 (preN 3)) := by
  refine D.ok sc_add_product (fun vs H Q E h => by obtain ⟨_, _, _, _, rfl, _⟩ := h; rfl) (fun f cdv A outer sh H vs Q E hr h => ?_)
  obtain ⟨a, nl, s, ns, rfl, ov, ok, hnl, tb, pre, q⟩ := h
  match s, ns, pre with
  | none, _, pre => exact absurd rfl pre.1
  | some o, [x, y, z], _ =>
    refine ⟨_, (pss_cons (ps_par3 (i := 3) (j := 4) (l := 5) rfl sc_add_product.nd rfl rfl rfl (by decide) (by decide) (by decide) rfl rfl rfl (pa_cons (pe_ix (r := rIxL K) ix_list (pv 1) pe_int (fun _ _ => rfl)) (pa_cons (pe_ix (r := rIxL K) ix_list (pv 1) pe_int (fun _ _ => rfl)) (pa_cons (pe_ix (r := rIxL K) ix_list (pv 1) pe_int (fun _ _ => rfl)) pa_nil))) rfl)
    (pss_cons (ps_if (PW.pt (pw_or (pt_not (pt_val (pe_ok o_is_range hr (by decide) (by rfl) (pa_cons (pv 3) (pa_cons (pv 4) pa_nil))))) (pw_or1 (pt_not (pt_val (pe_ok o_are_tins hr (by decide) (by rfl) (pa_cons (pv 5) pa_nil))))))) (pss_one (ps_ret (pe_lst (pa_cons (pe_gl G.OUT_OF_RANGE (by rfl)) pa_nil)))) pss_nil)
    (pss_cons (ps_set (i := 2) sc_add_product.nd rfl (.inl rfl) (pe_callB call_len_seq (by rfl) G.len PySem.boot_len (pa_cons (pe_fld (pv 0) rfl) pa_nil)))
    (pss_cons (ps_if (pt_cmpR op_eq (pv 2) (pe_gl G.MOST_PRODUCTS (by rfl)) (nomark _)) (pss_one (ps_ret (pe_lst (pa_cons (pe_gl G.FULL (by rfl)) pa_nil)))) pss_nil)
    (pss_cons (ps_expr (pe_okm (pv 0) M.take_products hr (by decide) (pa_cons (pe_op op_cat (pe_fld (pv 0) rfl) (pe_lst (pa_cons (pe_tup (pa_cons (pv 3) (pa_cons (pv 4) (pa_cons (pv 5) pa_nil)))) pa_nil))) pa_nil)))
    (pss_one (ps_ret (pe_lst (pa_cons (pv 2) pa_nil))))))))), ?_⟩
    rw [step_add] at q
    obtain ⟨dx, pl, ha, vs, hpl, hps⟩ := id ov
    have few := (ok o rfl).few
    refine ⟨_, rfl, _, _, _, _, rfl, rfl, SqL.of hnl, atI_nat (j := 0) rfl, _, rfl, _, _, _, _, rfl, rfl, SqL.of hnl, atI_nat (j := 1) rfl, _, rfl, _, _, _, _, rfl, rfl, SqL.of hnl, atI_nat (j := 2) rfl, _, _, _, rfl, ?_⟩
    refine ⟨_, rfl, _, rfl, _, _, rfl, _, rfl, ite2 (fun h1 => ?_) (fun h1 => ?_)⟩
    · refine iteT ⟨size7 (by decide), give (T := T) (l := [-22]) ?_ StayB.refl ov rfl⟩
      rw [if_pos (.inl (not_t h1))] at q
      exact q
    · refine ⟨_, rfl, _, rfl, _, rfl, ite2 (fun h2 => ?_) (fun h2 => ?_)⟩
      · refine ⟨size7 (by decide), give (T := T) (l := [-22]) ?_ StayB.refl ov rfl⟩
        rw [if_pos (.inr (not_t h2))] at q
        exact q
      · have hr1 := range_true (not_f h1)
        have hr2 := tins_true (not_f h2)
        rw [if_neg (fun z => by
          rcases z with z | z
          · rw [not_f h1] at z; cases z
          · rw [not_f h2] at z; cases z)] at q
        refine ⟨_, rfl, a, C, dx, _, _, rfl, ha, cl.cl, cl.nP, oF_pro _ _, pl, vs, rfl, .inl (SqL.of hpl), ?_⟩
        refine ⟨_, rfl, rfl, _, rfl, ite2 (fun h3 => ?_) (fun h3 => ?_)⟩
        · have e3 : (vs.length : Int) = 6 := V.int.inj (of_decide_eq_true h3)
          rw [hps.len] at e3
          have e3' : o.products.length = 6 := by have e4 : ((prods (some o)).length : Int) = 6 := e3; have e5 : (o.products.length : Int) = 6 := e4; omega
          rw [if_pos (by omega)] at q
          exact ⟨size7 (by decide), give q StayB.refl ov rfl⟩
        · have e3 : ¬ 6 ≤ o.products.length := fun z => h3 (decide_eq_true (by
            have : vs.length = 6 := by
              rw [hps.len]
              show o.products.length = 6
              omega
            rw [this] <;> rfl))
          rw [if_neg e3] at q
          refine ⟨_, rfl, a, dx, _, rfl, ha, no_tp _ _, _, rfl, a, C, dx, _, _, rfl, ha, cl.cl, cl.nP, oF_pro _ _, ?_⟩
          refine ⟨_, rfl, _, rfl, _, rfl, (by show 3 ≤ sizeLine; decide), fun t ht => ?_⟩
          refine ⟨(by show 1 ≤ sizeLine; decide), fun l hl => ?_⟩
          have st1 : Stay T H (upd H t (.tup [.int x, .int y, .int z])) := StayB.new ht
          have st2 : Stay T _ (upd (upd H t (.tup [.int x, .int y, .int z])) l (.lst [.ref t])) := StayB.new hl
          have st12 := st1.trans st2
          have nlt : t ≠ l := ne_of_none upd_same hl
          refine ⟨pl, l, vs, [.ref t], rfl, rfl, Stay.lst st12 hpl, upd_same, ?_, fun m hm => ?_⟩
          · have e4 : vs.length = o.products.length := hps.len
            exact size7 (by show vs.length + 1 ≤ 1000; omega)
          · have st3 : Stay T _ (upd (upd (upd H t (.tup [.int x, .int y, .int z])) l (.lst [.ref t])) m (.lst (vs ++ [.ref t]))) := StayB.new hm
            have st := st12.trans st3
            have ntm : t ≠ m := ne_of_none (by rw [upd_ne nlt, upd_same]) hm
            refine ⟨a, m, o, o.products ++ [⟨x.toNat, y.toNat, z.toNat⟩], rfl, ov.stay st, ⟨_, upd_same, (Stay.psl st hps).snoc ⟨t, rfl, ?_⟩⟩, fun H2 stB ov2 => ?_⟩
            · refine SqT.of ?_
              rw [upd_ne ntm, upd_ne nlt, upd_same]
              show some (HO.tup [.int x, .int y, .int z]) = some (HO.tup [.int (x.toNat : Int), .int (y.toNat : Int), .int (z.toNat : Int)])
              rw [← toNat_v hr1.1, ← toNat_v (by omega), ← toNat_v hr2.1]
            · refine ⟨_, rfl, (by show 1 ≤ sizeLine; decide), give q ((StayB.b st).trans stB) ov2 ?_⟩
              rw [hps.len] <;> rfl
abbrev s_set_tins : Stmt := top 25
theorem sc_set_tins : FnScope ["oven", "numbers", "old", "place", "tins"] ["oven", "numbers"] (defScope s_set_tins) := ⟨rfl, rfl, rfl, by decide +kernel, rfl, by decide +kernel, by decide +kernel⟩
theorem ok_set_tins (D : Dn K mg "set_tins" s_set_tins ["oven", "numbers"]) (G : Gb K mg) (M : Ms P w K mg base T C) (cl : ClT K mg C) (o_are_tins : Ok P w K mg base 1 "are_tins" ["number"] (spI1 Sr99.isTinCount)) (o_with_tins : Ok P w K mg base 2 "with_tins" ["products", "place", "tins"] (spWithT T K)) :
    Ok P w K mg base 3 "set_tins" ["oven", "numbers"] (spOp T K C 2 (preN 2)) := by
  refine D.ok sc_set_tins (fun vs H Q E h => by obtain ⟨_, _, _, _, rfl, _⟩ := h; rfl) (fun f cdv A outer sh H vs Q E hr h => ?_)
  obtain ⟨a, nl, s, ns, rfl, ov, ok, hnl, tb, pre, q⟩ := h
  match s, ns, pre with
  | none, _, pre => exact absurd rfl pre.1
  | some o, [x, y], _ =>
    refine ⟨_, (pss_cons (ps_par (i := 3) (j := 4) rfl sc_set_tins.nd rfl rfl (by decide) rfl rfl (pa_cons (pe_ix (r := rIxL K) ix_list (pv 1) pe_int (fun _ _ => rfl)) (pa_cons (pe_ix (r := rIxL K) ix_list (pv 1) pe_int (fun _ _ => rfl)) pa_nil)) rfl)
    (pss_cons (ps_if (pt_not (pt_val (pe_okm (pv 0) M.has_product hr (by decide) (pa_cons (pv 3) pa_nil)))) (pss_one (ps_ret (pe_lst (pa_cons (pe_gl G.NOT_THERE (by rfl)) pa_nil)))) pss_nil)
    (pss_cons (ps_if (pt_not (pt_val (pe_ok o_are_tins hr (by decide) (by rfl) (pa_cons (pv 4) pa_nil)))) (pss_one (ps_ret (pe_lst (pa_cons (pe_gl G.OUT_OF_RANGE (by rfl)) pa_nil)))) pss_nil)
    (pss_cons (ps_set (i := 2) sc_set_tins.nd rfl (.inl rfl) (pe_ix (r := rIxT K) ix_tup (pe_ix (r := rIxL K) ix_list (pe_fld (pv 0) rfl) (pv 3) (fun _ _ => rfl)) pe_int (fun _ _ => rfl)))
    (pss_cons (ps_expr (pe_okm (pv 0) M.take_products hr (by decide) (pa_cons (pe_ok o_with_tins hr (by decide) (by rfl) (pa_cons (pe_fld (pv 0) rfl) (pa_cons (pv 3) (pa_cons (pv 4) pa_nil)))) pa_nil)))
    (pss_one (ps_ret (pe_lst (pa_cons (pv 2) pa_nil))))))))), ?_⟩
    rw [step_setTins] at q
    obtain ⟨dx, pl, ha, vs, hpl, hps⟩ := id ov
    refine ⟨_, rfl, _, _, _, _, rfl, rfl, SqL.of hnl, atI_nat (j := 0) rfl, _, rfl, _, _, _, _, rfl, rfl, SqL.of hnl, atI_nat (j := 1) rfl, _, _, rfl, ?_⟩
    refine ⟨_, rfl, a, dx, _, rfl, ha, no_hp _ _, _, rfl, a, _, _, rfl, ov, _, rfl, ite2 (fun h1 => ?_) (fun h1 => ?_)⟩
    · refine ⟨size7 (by decide), give (T := T) (l := [-2]) ?_ StayB.refl ov rfl⟩
      rw [if_pos (show Sr99.isProduct o x = false from not_t h1)] at q
      exact q
    · have p1 : Sr99.isProduct o x = true := not_f h1
      rw [if_neg (by rw [p1]; exact Bool.noConfusion)] at q
      refine ⟨_, rfl, _, rfl, _, rfl, ite2 (fun h2 => ?_) (fun h2 => ?_)⟩
      · refine ⟨size7 (by decide), give (T := T) (l := [-22]) ?_ StayB.refl ov rfl⟩
        rw [if_pos (not_t h2)] at q
        exact q
      · have p2 : Sr99.isTinCount y = true := not_f h2
        rw [if_neg (by rw [p2]; exact Bool.noConfusion)] at q
        have b1 := prod_true p1
        have b2 := tins_true p2
        have hx : x.toNat < (prods (some o)).length := by show x.toNat < o.products.length; omega
        obtain ⟨v, hv, t, rfl, ht⟩ := hps.get hx
        have e1 : V.int x = V.int (x.toNat : Int) := toNat_v b1.1
        refine ⟨_, rfl, a, C, dx, _, _, rfl, ha, cl.cl, cl.nP, oF_pro _ _, _, rfl, _, _, _, _, rfl, rfl, SqL.of hpl, at_of (j := x.toNat) (by omega) hv, _, _, _, _, rfl, rfl, ht, atI_nat (j := 2) rfl, ?_⟩
        refine ⟨_, rfl, a, dx, _, rfl, ha, no_tp _ _, _, rfl, a, C, dx, _, _, rfl, ha, cl.cl, cl.nP, oF_pro _ _, _, rfl, _, rfl, pl, x.toNat, y.toNat, _, by rw [← e1, ← toNat_v b2.1]; rfl, ⟨vs, hpl, hps⟩, hx, fun H1 r st1 nw hps1 => ?_⟩
        refine ⟨a, r, o, _, rfl, ov.stay st1, hps1, fun H2 st2 ov2 => ?_⟩
        exact ⟨_, rfl, (by show 1 ≤ sizeLine; decide), give q ((StayB.b st1).trans st2) ov2 rfl⟩
abbrev s_set_temperatures : Stmt := top 26
theorem sc_set_temperatures : FnScope ["oven", "numbers", "old", "place", "lowest", "highest"] ["oven", "numbers"] (defScope s_set_temperatures) := ⟨rfl, rfl, rfl, by decide +kernel, rfl, by decide +kernel, by decide +kernel⟩
theorem ok_set_temperatures (D : Dn K mg "set_temperatures" s_set_temperatures ["oven", "numbers"]) (G : Gb K mg) (M : Ms P w K mg base T C) (cl : ClT K mg C) (o_is_range : Ok P w K mg base 1 "is_range" ["lowest", "highest"] (spI2 Sr99.isRange)) (o_with_range : Ok P w K mg base 2 "with_range" ["products", "place", "lowest", "highest"] (spWithR T K)) :
    Ok P w K mg base 3 "set_temperatures" ["oven", "numbers"] (spOp T K C 3 (preN 3)) := by
  refine D.ok sc_set_temperatures (fun vs H Q E h => by obtain ⟨_, _, _, _, rfl, _⟩ := h; rfl) (fun f cdv A outer sh H vs Q E hr h => ?_)
  obtain ⟨a, nl, s, ns, rfl, ov, ok, hnl, tb, pre, q⟩ := h
  match s, ns, pre with
  | none, _, pre => exact absurd rfl pre.1
  | some o, [x, y, z], _ =>
    refine ⟨_, (pss_cons (ps_par3 (i := 3) (j := 4) (l := 5) rfl sc_set_temperatures.nd rfl rfl rfl (by decide) (by decide) (by decide) rfl rfl rfl (pa_cons (pe_ix (r := rIxL K) ix_list (pv 1) pe_int (fun _ _ => rfl)) (pa_cons (pe_ix (r := rIxL K) ix_list (pv 1) pe_int (fun _ _ => rfl)) (pa_cons (pe_ix (r := rIxL K) ix_list (pv 1) pe_int (fun _ _ => rfl)) pa_nil))) rfl)
    (pss_cons (ps_if (pt_not (pt_val (pe_okm (pv 0) M.has_product hr (by decide) (pa_cons (pv 3) pa_nil)))) (pss_one (ps_ret (pe_lst (pa_cons (pe_gl G.NOT_THERE (by rfl)) pa_nil)))) pss_nil)
    (pss_cons (ps_if (pt_not (pt_val (pe_ok o_is_range hr (by decide) (by rfl) (pa_cons (pv 4) (pa_cons (pv 5) pa_nil))))) (pss_one (ps_ret (pe_lst (pa_cons (pe_gl G.OUT_OF_RANGE (by rfl)) pa_nil)))) pss_nil)
    (pss_cons (ps_set (i := 2) sc_set_temperatures.nd rfl (.inl rfl) (pe_ix (r := rIxL K) ix_list (pe_fld (pv 0) rfl) (pv 3) (fun _ _ => rfl)))
    (pss_cons (ps_expr (pe_okm (pv 0) M.take_products hr (by decide) (pa_cons (pe_ok o_with_range hr (by decide) (by rfl) (pa_cons (pe_fld (pv 0) rfl) (pa_cons (pv 3) (pa_cons (pv 4) (pa_cons (pv 5) pa_nil))))) pa_nil)))
    (pss_one (ps_ret (pe_lst (pa_cons pe_int (pa_cons (pe_ix (r := rIxT K) ix_tup (pv 2) pe_int (fun _ _ => rfl)) (pa_cons (pe_ix (r := rIxT K) ix_tup (pv 2) pe_int (fun _ _ => rfl)) pa_nil))))))))))), ?_⟩
    rw [step_setTemp] at q
    obtain ⟨dx, pl, ha, vs, hpl, hps⟩ := id ov
    refine ⟨_, rfl, _, _, _, _, rfl, rfl, SqL.of hnl, atI_nat (j := 0) rfl, _, rfl, _, _, _, _, rfl, rfl, SqL.of hnl, atI_nat (j := 1) rfl, _, rfl, _, _, _, _, rfl, rfl, SqL.of hnl, atI_nat (j := 2) rfl, _, _, _, rfl, ?_⟩
    refine ⟨_, rfl, a, dx, _, rfl, ha, no_hp _ _, _, rfl, a, _, _, rfl, ov, _, rfl, ite2 (fun h1 => ?_) (fun h1 => ?_)⟩
    · refine ⟨size7 (by decide), give (T := T) (l := [-2]) ?_ StayB.refl ov rfl⟩
      rw [if_pos (show Sr99.isProduct o x = false from not_t h1)] at q
      exact q
    · have p1 : Sr99.isProduct o x = true := not_f h1
      rw [if_neg (by rw [p1]; exact Bool.noConfusion)] at q
      refine ⟨_, rfl, _, rfl, _, _, rfl, _, rfl, ite2 (fun h2 => ?_) (fun h2 => ?_)⟩
      · refine ⟨size7 (by decide), give (T := T) (l := [-22]) ?_ StayB.refl ov rfl⟩
        rw [if_pos (not_t h2)] at q
        exact q
      · have p2 : Sr99.isRange y z = true := not_f h2
        rw [if_neg (by rw [p2]; exact Bool.noConfusion)] at q
        have b1 := prod_true p1
        have b2 := range_true p2
        have hx : x.toNat < (prods (some o)).length := by show x.toNat < o.products.length; omega
        obtain ⟨v, hv, t, rfl, ht⟩ := hps.get hx
        have e1 : V.int x = V.int (x.toNat : Int) := toNat_v b1.1
        have e2 : V.int y = V.int (y.toNat : Int) := toNat_v b2.1
        have e3 : V.int z = V.int (z.toNat : Int) := toNat_v (by omega)
        refine ⟨_, rfl, a, C, dx, _, _, rfl, ha, cl.cl, cl.nP, oF_pro _ _, _, rfl, _, _, _, _, rfl, rfl, SqL.of hpl, at_of (j := x.toNat) (by omega) hv, ?_⟩
        refine ⟨_, rfl, a, dx, _, rfl, ha, no_tp _ _, _, rfl, a, C, dx, _, _, rfl, ha, cl.cl, cl.nP, oF_pro _ _, _, rfl, _, rfl, _, rfl, pl, x.toNat, y.toNat, z.toNat, _, by rw [← e1, ← e2, ← e3]; rfl, ⟨vs, hpl, hps⟩, hx, fun H1 r st1 nw hps1 => ?_⟩
        refine ⟨a, r, o, _, rfl, ov.stay st1, hps1, fun H2 st2 ov2 => ?_⟩
        have st := (StayB.b (A := [a]) st1).trans st2
        have ht2 : SqT K H2 t (pV (pAt (prods (some o)) x.toNat)) := by
          obtain ⟨t', e', h'⟩ := st.pr (v := .ref t) ⟨t, rfl, ht⟩ (fun b hb => by
            have eb : b = a := by simpa using hb
            rw [eb]
            exact ⟨_, ha, rfl⟩)
          cases e'
          exact h'
        refine ⟨_, rfl, _, _, _, _, rfl, rfl, ht2, atI_nat (j := 0) rfl, _, rfl, _, _, _, _, rfl, rfl, ht2, atI_nat (j := 1) rfl, (by show 3 ≤ sizeLine; decide), give q st ov2 rfl⟩
abbrev s_remove_product : Stmt := top 27
theorem sc_remove_product : FnScope ["oven", "numbers", "place"] ["oven", "numbers"] (defScope s_remove_product) := ⟨rfl, rfl, rfl, by decide +kernel, rfl, by decide +kernel, by decide +kernel⟩
theorem ok_remove_product (D : Dn K mg "remove_product" s_remove_product ["oven", "numbers"]) (G : Gb K mg) (M : Ms P w K mg base T C) (cl : ClT K mg C) (o_without_product : Ok P w K mg base 1 "without_product" ["products", "place"] (spWithout T K)) :
    Ok P w K mg base 2 "remove_product" ["oven", "numbers"] (spOp T K C 4 (preN 1)) := by
  refine D.ok sc_remove_product (fun vs H Q E h => by obtain ⟨_, _, _, _, rfl, _⟩ := h; rfl) (fun f cdv A outer sh H vs Q E hr h => ?_)
  obtain ⟨a, nl, s, ns, rfl, ov, ok, hnl, tb, pre, q⟩ := h
  match s, ns, pre with
  | none, _, pre => exact absurd rfl pre.1
  | some o, [x], _ =>
    refine ⟨_, (pss_cons (ps_set (i := 2) sc_remove_product.nd rfl (.inl rfl) (pe_ix (r := rIxL K) ix_list (pv 1) pe_int (fun _ _ => rfl)))
    (pss_cons (ps_if (pt_not (pt_val (pe_okm (pv 0) M.has_product hr (by decide) (pa_cons (pv 2) pa_nil)))) (pss_one (ps_ret (pe_lst (pa_cons (pe_gl G.NOT_THERE (by rfl)) pa_nil)))) pss_nil)
    (pss_cons (ps_expr (pe_okm (pv 0) M.take_products hr (by decide) (pa_cons (pe_ok o_without_product hr (by decide) (by rfl) (pa_cons (pe_fld (pv 0) rfl) (pa_cons (pv 2) pa_nil))) pa_nil)))
    (pss_one (ps_ret (pe_lst (pa_cons (pe_callB call_len_seq (by rfl) G.len PySem.boot_len (pa_cons (pe_fld (pv 0) rfl) pa_nil)) pa_nil))))))), ?_⟩
    rw [step_remove] at q
    obtain ⟨dx, pl, ha, vs, hpl, hps⟩ := id ov
    refine ⟨_, rfl, _, _, _, _, rfl, rfl, SqL.of hnl, atI_nat (j := 0) rfl, ?_⟩
    refine ⟨_, rfl, a, dx, _, rfl, ha, no_hp _ _, _, rfl, a, _, _, rfl, ov, _, rfl, ite2 (fun h1 => ?_) (fun h1 => ?_)⟩
    · refine ⟨size7 (by decide), give (T := T) (l := [-2]) ?_ StayB.refl ov rfl⟩
      rw [if_pos (show Sr99.isProduct o x = false from not_t h1)] at q
      exact q
    · have p1 : Sr99.isProduct o x = true := not_f h1
      rw [if_neg (by rw [p1]; exact Bool.noConfusion)] at q
      have b1 := prod_true p1
      have hx : x.toNat < (prods (some o)).length := by show x.toNat < o.products.length; omega
      have e1 : V.int x = V.int (x.toNat : Int) := toNat_v b1.1
      refine ⟨_, rfl, a, dx, _, rfl, ha, no_tp _ _, _, rfl, a, C, dx, _, _, rfl, ha, cl.cl, cl.nP, oF_pro _ _, _, rfl, pl, x.toNat, _, by rw [← e1]; rfl, ⟨vs, hpl, hps⟩, hx, (ok o rfl).few, fun H1 r st1 nw hps1 => ?_⟩
      refine ⟨a, r, o, _, rfl, ov.stay st1, hps1, fun H2 st2 ov2 => ?_⟩
      obtain ⟨dx2, pl2, ha2, vs2, hpl2, hps2⟩ := id ov2
      refine ⟨_, rfl, a, C, dx2, _, _, rfl, ha2, cl.cl, cl.nP, oF_pro _ _, pl2, vs2, rfl, .inl (SqL.of hpl2), (by show 1 ≤ sizeLine; decide), give q ((StayB.b st1).trans st2) ov2 ?_⟩
      rw [hps2.len]
      show [V.int ((o.products.eraseIdx x.toNat).length : Int)] = [V.int ((o.products.length - 1 : Nat) : Int)]
      rw [List.length_eraseIdx, if_pos (show x.toNat < o.products.length from hx)]
abbrev s_set_capacity : Stmt := top 28
theorem sc_set_capacity : FnScope ["oven", "numbers", "old"] ["oven", "numbers"] (defScope s_set_capacity) := ⟨rfl, rfl, rfl, by decide +kernel, rfl, by decide +kernel, by decide +kernel⟩
theorem ok_set_capacity (D : Dn K mg "set_capacity" s_set_capacity ["oven", "numbers"]) (G : Gb K mg) (M : Ms P w K mg base T C) (cl : ClT K mg C) (o_is_capacity : Ok P w K mg base 1 "is_capacity" ["number"] (spI1 Sr99.isCapacity)) :
    Ok P w K mg base 2 "set_capacity" ["oven", "numbers"] (spOp T K C 5 (preN 1)) := by
  refine D.ok sc_set_capacity (fun vs H Q E h => by obtain ⟨_, _, _, _, rfl, _⟩ := h; rfl) (fun f cdv A outer sh H vs Q E hr h => ?_)
  obtain ⟨a, nl, s, ns, rfl, ov, ok, hnl, tb, pre, q⟩ := h
  match s, ns, pre with
  | none, _, pre => exact absurd rfl pre.1
  | some o, [x], _ =>
    refine ⟨_, (pss_cons (ps_if (pt_not (pt_val (pe_ok o_is_capacity hr (by decide) (by rfl) (pa_cons (pe_ix (r := rIxL K) ix_list (pv 1) pe_int (fun _ _ => rfl)) pa_nil)))) (pss_one (ps_ret (pe_lst (pa_cons (pe_gl G.OUT_OF_RANGE (by rfl)) pa_nil)))) pss_nil)
    (pss_cons (ps_set (i := 2) sc_set_capacity.nd rfl (.inl rfl) (pe_fld (pv 0) rfl))
    (pss_cons (ps_expr (pe_okm (pv 0) M.take_capacity hr (by decide) (pa_cons (pe_ix (r := rIxL K) ix_list (pv 1) pe_int (fun _ _ => rfl)) pa_nil)))
    (pss_one (ps_ret (pe_lst (pa_cons (pv 2) pa_nil))))))), ?_⟩
    rw [step_setCap] at q
    obtain ⟨dx, pl, ha, hps⟩ := id ov
    refine ⟨_, rfl, _, _, _, _, rfl, rfl, SqL.of hnl, atI_nat (j := 0) rfl, _, rfl, _, rfl, ite2 (fun h => ?_) (fun h => ?_)⟩
    · refine ⟨size7 (by decide), give (T := T) (l := [-22]) ?_ StayB.refl ov rfl⟩
      rw [if_pos (not_t h)] at q
      exact q
    · have hc := not_f h
      have hx := cap_true hc
      rw [if_neg (by rw [hc]; exact Bool.noConfusion)] at q
      refine ⟨_, rfl, a, C, dx, _, _, rfl, ha, cl.cl, cl.nC, oF_cap _ _, ?_⟩
      refine ⟨_, rfl, a, dx, _, rfl, ha, no_tc _ _, _, rfl, _, _, _, _, rfl, rfl, SqL.of hnl, atI_nat (j := 0) rfl, a, _, x.toNat, by rw [← toNat_v (by omega)]; rfl, ov, fun H1 st1 ov1 => ?_⟩
      exact ⟨_, rfl, (by show 1 ≤ sizeLine; decide), give q st1 ov1 rfl⟩
end
end Ov

set_option Elab.async false
set_option linter.all false
set_option maxRecDepth 100000
set_option maxHeartbeats 4000000
namespace Ov
open PySem PySem.Spec PyProof.Rows L2 LamX
open Sr99 (Product Oven Batch)
/-! ### filling.py -/
abbrev nv (l : List Nat) : List V := iv (SrCommon.natsToInts l)
theorem nv_len (l : List Nat) : (nv l).length = l.length := by
  show (iv (SrCommon.natsToInts l)).length = _
  rw [iv_len]
  unfold SrCommon.natsToInts
  rw [List.length_map]
theorem nv_get {l : List Nat} {i : Nat} (h : i < l.length) : (nv l)[i]? = some (.int (l.getD i 0 : Nat)) := by
  refine iv_get ?_
  unfold SrCommon.natsToInts
  rw [List.getElem?_map, List.getD_eq_getElem?_getD, List.getElem?_eq_getElem h] <;> rfl
theorem nv_set (l : List Nat) (i k : Nat) : (nv l).set i (.int (k : Int)) = nv (l.set i k) := by
  unfold nv iv SrCommon.natsToInts
  rw [List.map_set, List.map_set]
theorem nv_sum (l : List Nat) : (SrCommon.natsToInts l).sum = ((l.sum : Nat) : Int) := by
  induction l with
  | nil => rfl
  | cons x r ih =>
    show ((x : Int) :: SrCommon.natsToInts r).sum = ((x + r.sum : Nat) : Int)
    rw [List.sum_cons, ih]
    omega
theorem flat_rep (n : Nat) : (List.replicate n [V.int 0]).flatten = nv (List.replicate n 0) := by
  induction n with
  | zero => rfl
  | succ n ih =>
    rw [List.replicate_succ, List.flatten_cons, ih, List.replicate_succ]
    rfl
def lamQ : Str := ("baking_order" : Str) ++ ".<locals>." ++ "<lambda>"
/-- the def that makes the lambda: its code object is at c -/
structure DnL (K : PySem.W.Frag) (mg : Str → Option Value) (x : Str) (st : Stmt) (ps : List Str) (c : Addr) : Prop where
  ex : ∃ (f : Addr) (oc : Value) (od : Option Addr) (kV doc pm : Value) (an : Option Addr) (ct : Value) (osl : Array (Option Value)),
    K.lookup f = some ⟨oc, od, .func (PySem.W.fnOf x x (defArgs st) (defBody st) (defScope st) .none kV doc pm an (.ref c) ct), osl⟩ ∧ PySem.W.codeIn K (.ref c) x = true ∧ PySem.W.keepIn K (.ref f) = true ∧
    Binds K (PySem.W.fnOf x x (defArgs st) (defBody st) (defScope st) .none kV doc pm an (.ref c) ct) ps [] ∧ mg x = some (.ref f)
section
variable {P : Program} {w : World} {K : PySem.W.Frag} {mg : Str → Option Value} {base : Heap} {T : List (Addr × Str)} {C : Addr}
def spOrder (T : List (Addr × Str)) (K : PySem.W.Frag) : Sp := fun vs H Q _ => ∃ pl ps, vs = [.ref pl] ∧ PsAt K H pl ps ∧ ps.length ≤ 6 ∧ Tabs T H ∧
  ∀ H' p, Stay T H H' → New H p → H' p = some (.lst (nv (order ps))) → Q (.ref p) H'
abbrev s_baking_order : Stmt := top 37
theorem sc_baking_order : FnScope ["products"] ["products"] (defScope s_baking_order) := ⟨rfl, rfl, rfl, by decide +kernel, rfl, by decide +kernel, by decide +kernel⟩
theorem ok_baking_order {c Pt : Addr} (D : DnL K mg "baking_order" s_baking_order ["products"] c) (G : Gb K mg) (TB : TabB base mg c Pt) (hT : T = [(Pt, lamQ)]) : Ok P w K mg base 4 "baking_order" ["products"] (spOrder T K) := by
  obtain ⟨f, oc, od, kV, doc, pm, an, ct, osl, lk, hcd, kp, B, g⟩ := D.ex
  refine ⟨f, _, g, kp, B, fn_of lk hcd sc_baking_order (fun vs H Q E h => by obtain ⟨pl, ps, rfl, _⟩ := h; rfl) (fun A outer s H vs Q E hr h => ?_)⟩
  obtain ⟨pl, ps, rfl, ⟨vs, hpl, hps⟩, hlen, tb, q⟩ := h
  refine ⟨_, PSs.nox (pss_one (ps_ret (pe_sortLam (T := T) (i := 0) (k := 0) (c := c) (P := Pt) (by rfl) G.sorted (pa_cons (pe_callTy cr_range1 (by rfl) G.range PyProof.Rows.boot_range (pa_cons (pe_callB call_len_seq (by rfl) G.len PySem.boot_len (pa_cons (pv 0) pa_nil)) pa_nil)) pa_nil) hr TB rfl ?_ ?_ rfl rfl))), ?_⟩
  · rw [hT]
    exact List.mem_singleton.mpr rfl
  · intro p hp _
    rw [hT] at hp
    rw [List.mem_singleton.mp hp] <;> rfl
  · refine ⟨_, rfl, pl, vs, rfl, .inl (SqL.of hpl), _, rfl, fun r hr' => ?_⟩
    have st1 : Stay T H (upd H r (.rng 0 vs.length)) := StayB.new hr'
    refine ⟨r, pl, vs, ps, rfl, by rw [upd_same, hps.len], st1.tabs tb, rfl, Stay.lst st1 hpl, Stay.psl st1 hps, hlen, fun H2 a st2 ha => ?_⟩
    exact q _ a (st1.trans (st2.trans (StayB.new ha))) (New.back (st1.trans st2) (New.of ha)) upd_same
/-- tins_put -/
def spPut (K : PySem.W.Frag) : Sp := fun vs H Q _ => ∃ (v : V) (p : Product) (a t r : Nat), vs = [v, .int a, .int t, .int r] ∧ PrAt K H v p ∧ Q (.int (put1 p a t r : Nat)) H
abbrev s_tins_put : Stmt := top 38
theorem sc_tins_put : FnScope ["product", "tins", "temperature", "room"] ["product", "tins", "temperature", "room"] (defScope s_tins_put) := ⟨rfl, rfl, rfl, by decide +kernel, rfl, by decide +kernel, by decide +kernel⟩
theorem ok_tins_put (D : Dn K mg "tins_put" s_tins_put ["product", "tins", "temperature", "room"]) (G : Gb K mg) (o_can_be_baked : Ok P w K mg base 1 "can_be_baked" ["product", "temperature"] (spBake K)) : Ok P w K mg base 2 "tins_put" ["product", "tins", "temperature", "room"] (spPut K) := by
  refine D.ok sc_tins_put (fun vs H Q E h => by obtain ⟨_, _, _, _, _, rfl, _⟩ := h; rfl) (fun f cdv A outer s H vs Q E hr h => ?_)
  obtain ⟨v, p, a, t, r, rfl, hp, q⟩ := h
  refine ⟨_, (pss_one (ps_ret (pe_ifExp (pt_val (pe_ok o_can_be_baked hr (by decide) (by rfl) (pa_cons (pv 0) (pa_cons (pv 2) pa_nil)))) (pe_callB (call_min2 rfl) (by rfl) G.min boot_min_ (pa_cons (pv 1) (pa_cons (pv 3) pa_nil))) pe_int))), ?_⟩
  refine ⟨_, rfl, _, rfl, v, p, _, rfl, hp, _, rfl, ite2 (fun h => ?_) (fun h => ?_)⟩
  · have h' : (p.minTemperature ≤ t) ∧ (t ≤ p.maxTemperature) := by
      have h2 : (decide ((p.minTemperature : Int) ≤ t) && decide ((t : Int) ≤ (p.maxTemperature : Int))) = true := h
      simp only [Bool.and_eq_true, decide_eq_true_eq] at h2
      omega
    refine ⟨_, rfl, _, rfl, _, _, rfl, qi q ?_⟩
    unfold put1
    rw [if_pos h']
    split <;> omega
  · have h' : ¬ ((p.minTemperature ≤ t) ∧ (t ≤ p.maxTemperature)) := fun z => h (by
      show (decide ((p.minTemperature : Int) ≤ t) && decide ((t : Int) ≤ (p.maxTemperature : Int))) = true
      simp only [Bool.and_eq_true, decide_eq_true_eq]
      omega)
    refine qi q ?_
    unfold put1
    rw [if_neg h'] <;> rfl
/-- filled -/
def spFilled (T : List (Addr × Str)) (K : PySem.W.Frag) : Sp := fun vs H Q _ => ∃ (pl rl : Addr) (cap t : Nat) (ps : List Product) (rem : List Nat), vs = [.ref pl, .ref rl, .int cap, .int t] ∧ PsAt K H pl ps ∧ ps.length ≤ 6 ∧ H rl = some (.lst (nv rem)) ∧ rem.length = ps.length ∧ Tabs T H ∧
  ∀ H' p, Stay T H H' → New H p → H' p = some (.lst (nv (filledM ps rem cap t))) → Q (.ref p) H'
abbrev s_filled : Stmt := top 39
theorem sc_filled : FnScope ["products", "remaining", "capacity", "temperature", "found", "room", "place", "many"] ["products", "remaining", "capacity", "temperature"] (defScope s_filled) := ⟨rfl, rfl, rfl, by decide +kernel, rfl, by decide +kernel, by decide +kernel⟩
theorem ok_filled (D : Dn K mg "filled" s_filled ["products", "remaining", "capacity", "temperature"]) (G : Gb K mg) (o_baking_order : Ok P w K mg base 4 "baking_order" ["products"] (spOrder T K)) (o_tins_put : Ok P w K mg base 2 "tins_put" ["product", "tins", "temperature", "room"] (spPut K)) :
    Ok P w K mg base 5 "filled" ["products", "remaining", "capacity", "temperature"] (spFilled T K) := by
  refine D.ok sc_filled (fun vs H Q E h => by obtain ⟨_, _, _, _, _, _, rfl, _⟩ := h; rfl) (fun f cdv A outer s H vs Q E hr h => ?_)
  obtain ⟨pl, rl, cap, t, ps, rem, rfl, ⟨vs, hpl, hps⟩, hlen, hrl, hrem, tb, q⟩ := h
  refine ⟨_, (pss_cons (ps_set (i := 4) sc_filled.nd rfl (.inl rfl) (pe_op op_rep (pe_lst (pa_cons pe_int pa_nil)) (pe_callB call_len_seq (by rfl) G.len PySem.boot_len (pa_cons (pv 0) pa_nil))))
    (pss_cons (ps_set (i := 5) sc_filled.nd rfl (.inl rfl) (pv 2))
    (pss_cons (ps_for PassesOwn.never rfl (pi_list (pe_ok o_baking_order hr (by decide) (by rfl) (pa_cons (pv 0) pa_nil))) (pg_name (i := 6) sc_filled.nd rfl (.inl rfl)) (pss_cons (ps_set (i := 7) sc_filled.nd rfl (.inl rfl) (pe_ok o_tins_put hr (by decide) (by rfl) (pa_cons (pe_ix (r := rIxL K) ix_list (pv 0) (pv 6) (fun _ _ => rfl)) (pa_cons (pe_ix (r := rIxL K) ix_list (pv 1) (pv 6) (fun _ _ => rfl)) (pa_cons (pv 3) (pa_cons (pv 5) pa_nil))))))
    (pss_cons (ps_asg (pv 7) (pg_sub (pv 4) (pv 6) set_list))
    (pss_one (ps_set (i := 5) sc_filled.nd rfl (.inl rfl) (pe_op op_sub (pv 5) (pv 7)))))))
    (pss_one (ps_ret (pv 4)))))), ?_⟩
  refine ⟨(by show 1 ≤ sizeLine; decide), fun z hz => ?_⟩
  have stz : Stay T H (upd H z (.lst [.int 0])) := StayB.new hz
  have hvs : vs.length ≤ 6 := by rw [hps.len]; exact hlen
  refine ⟨_, rfl, pl, vs, rfl, .inl (SqL.of (Stay.lst stz hpl)), z, _, _, rfl, rfl, upd_same, by omega, by omega, ?_, fun fo hfo => ?_⟩
  · rw [Int.toNat_natCast]
    show 1 * vs.length ≤ sizeLine
    exact size7 (by omega)
  have st1 := stz.trans (StayB.new (T := T) (A := []) (o := .lst (List.replicate (Int.toNat (vs.length : Int)) [V.int 0]).flatten) hfo)
  refine ⟨_, rfl, _, rfl, pl, ps, rfl, Stay.ps st1 ⟨vs, hpl, hps⟩, hlen, st1.tabs tb, fun H2 ol st2 nol hol => ?_⟩
  have hfo2 : H2 fo = some (.lst (nv (List.replicate ps.length 0))) := by
    refine Stay.lst st2 ?_
    rw [upd_same, Int.toNat_natCast, hps.len, flat_rep]
  have nfo : fo ≠ ol := New.lst nol (a := fo) upd_same
  have nfH : New H fo := New.back stz (New.of hfo)
  have st12 := st1.trans st2
  refine ⟨ol, rfl, ⟨_, SqL.of hol⟩, for_it (walk_list (K := K) (a := ol) (xs := nv (order ps))) (fun i σ H' => ∃ (room : Nat) (found : List Nat) (y6 y7 : Option V), σ = [some (.ref pl), some (.ref rl), some (.int cap), some (.int t), some (.ref fo), some (.int room), y6, y7] ∧
    Stay T H H' ∧ H' ol = some (.lst (nv (order ps))) ∧ H' fo = some (.lst (nv found)) ∧ found.length = ps.length ∧ fillL ps rem t ((order ps).drop i) room found = filledM ps rem cap t)
    ⟨cap, List.replicate ps.length 0, none, none, rfl, st12, hol, hfo2, List.length_replicate, by rw [List.drop_zero]; rfl⟩ (fun i σ H' _ ⟨_, _, _, _, _, _, h, _⟩ => SqL.of h) ?_ ?_⟩
  · rintro i x σ H3 H' hi ⟨room, found, y6, y7, rfl, st3, ho3, hf3, hfl, hfill⟩ ⟨rfl, hx⟩
    rw [nv_len] at hi
    obtain ⟨z', hz', rfl⟩ := iv_inv hx
    obtain ⟨j, hj, rfl⟩ : ∃ j : Nat, (order ps)[i]? = some j ∧ z' = (j : Int) := by
      unfold SrCommon.natsToInts at hz'
      rw [List.getElem?_map] at hz'
      cases e : (order ps)[i]? with
      | none => rw [e] at hz'; cases hz'
      | some j => rw [e] at hz'; exact ⟨j, rfl, (Option.some.inj hz').symm⟩
    have hjl : j < ps.length := order_lt ps (List.mem_of_getElem? hj)
    have hps3 : PsL K H' vs ps := Stay.psl st3 hps
    obtain ⟨v, hv, hpv⟩ := hps3.get hjl
    have hrl3 := Stay.lst st3 hrl
    have hpl3 := Stay.lst st3 hpl
    have hd : (order ps).drop i = j :: (order ps).drop (i + 1) := by
      rw [List.drop_eq_getElem_cons (by omega)]
      have := (List.getElem?_eq_some_iff.mp hj).2
      rw [this]
    rw [hd] at hfill
    have hput := put1_le (pAt ps j) (rem.getD j 0) t room
    refine ⟨_, rfl, _, rfl, _, _, _, _, rfl, rfl, SqL.of hpl3, atI_nat hv, _, rfl, _, rfl, _, _, _, _, rfl, rfl, SqL.of hrl3, atI_nat (nv_get (by omega)), _, rfl, _, rfl, v, _, _, _, _, rfl, hpv, ?_⟩
    refine ⟨_, rfl, _, rfl, _, rfl, fo, _, _, j, rfl, rfl, hf3, ixN_nat (by rw [nv_len, hfl]; exact hjl), ?_⟩
    refine ⟨_, rfl, _, rfl, _, _, rfl, rfl, ?_⟩
    refine ⟨room - put1 (pAt ps j) (rem.getD j 0) t room, found.set j (put1 (pAt ps j) (rem.getD j 0) t room), some (.int (j : Int)), some (.int (put1 (pAt ps j) (rem.getD j 0) t room : Nat)), ?_, ?_, ?_, ?_, ?_, hfill⟩
    · show [some (V.ref pl), some (V.ref rl), some (V.int cap), some (V.int t), some (V.ref fo), some (V.int ((room : Int) - (put1 (pAt ps j) (rem.getD j 0) t room : Nat))), some (V.int (j : Int)), some (V.int (put1 (pAt ps j) (rem.getD j 0) t room : Nat))] = _
      rw [← Int.ofNat_sub hput.1]
    · refine ⟨fun b u e n h => ?_, fun tt => ?_, fun a h => absurd h (by simp)⟩
      · have nb : b ≠ fo := fun z => by
          rw [z] at e
          obtain ⟨ps', e'⟩ := nfH _ e
          exact n ps' e'
        rw [upd_ne nb]
        exact st3.keep b u e n h
      · exact wr_tabs hf3 rfl (st3.tabs tt)
    · rw [upd_ne nfo.symm]
      exact ho3
    · rw [upd_same, nv_set]
    · rw [List.length_set]
      exact hfl
  · rintro σ H' ⟨room, found, y6, y7, rfl, st3, ho3, hf3, hfl, hfill⟩
    rw [nv_len, List.drop_length] at hfill
    have e : found = filledM ps rem cap t := hfill
    rw [e] at hf3
    exact ⟨_, rfl, q H' fo st3 nfH hf3⟩
/-- next_temperature: of a product with remaining tins whose highest temperature is lowest -/
def spNext (T : List (Addr × Str)) (K : PySem.W.Frag) : Sp := fun vs H Q _ => ∃ (pl rl : Addr) (ps : List Product) (rem : List Nat) (i : Nat), vs = [.ref pl, .ref rl] ∧ PsAt K H pl ps ∧ ps.length ≤ 6 ∧ H rl = some (.lst (nv rem)) ∧ rem.length = ps.length ∧ i < ps.length ∧ 0 < rem.getD i 0 ∧
  (∀ j, j < ps.length → 0 < rem.getD j 0 → (pAt ps i).maxTemperature ≤ (pAt ps j).maxTemperature) ∧ ∀ H', Stay T H H' → Q (.int (pAt ps i).maxTemperature) H'
/-- the highest temperatures of the products below i that have remaining tins -/
def tops (ps : List Product) (rem : List Nat) (i : Nat) : List Int := ((List.range i).filter fun j => decide (0 < rem.getD j 0)).map fun j => ((pAt ps j).maxTemperature : Int)
theorem tops_succ (ps : List Product) (rem : List Nat) (i : Nat) : tops ps rem (i + 1) = if 0 < rem.getD i 0 then tops ps rem i ++ [((pAt ps i).maxTemperature : Int)] else tops ps rem i := by
  unfold tops
  rw [List.range_succ, List.filter_append]
  by_cases h : 0 < rem.getD i 0
  · have e : List.filter (fun j => decide (0 < rem.getD j 0)) [i] = [i] := List.filter_eq_self.mpr (fun a ha => by rw [List.mem_singleton.mp ha]; exact decide_eq_true h)
    rw [if_pos h, e, List.map_append]
    rfl
  · have e : List.filter (fun j => decide (0 < rem.getD j 0)) [i] = [] := List.filter_eq_nil_iff.mpr (fun a ha => by rw [List.mem_singleton.mp ha, decide_eq_true_eq]; exact h)
    rw [if_neg h, e, List.append_nil]
theorem tops_len (ps : List Product) (rem : List Nat) (i : Nat) : (tops ps rem i).length ≤ i := by
  unfold tops
  rw [List.length_map]
  have := List.length_filter_le (fun j => decide (0 < rem.getD j 0)) (List.range i)
  rw [List.length_range] at this
  exact this
theorem tops_mem {ps : List Product} {rem : List Nat} {i : Nat} {m : Int} : m ∈ tops ps rem i ↔ ∃ j, j < i ∧ 0 < rem.getD j 0 ∧ m = ((pAt ps j).maxTemperature : Int) := by
  unfold tops
  rw [List.mem_map]
  constructor
  · rintro ⟨j, hj, rfl⟩
    rw [List.mem_filter, List.mem_range, decide_eq_true_eq] at hj
    exact ⟨j, hj.1, hj.2, rfl⟩
  · rintro ⟨j, h1, h2, rfl⟩
    exact ⟨j, by rw [List.mem_filter, List.mem_range, decide_eq_true_eq]; exact ⟨h1, h2⟩, rfl⟩
abbrev s_next_temperature : Stmt := top 40
theorem sc_next_temperature : FnScope ["products", "remaining", "product", "tins"] ["products", "remaining"] (defScope s_next_temperature) := ⟨rfl, rfl, rfl, by decide +kernel, rfl, by decide +kernel, by decide +kernel⟩
theorem ok_next_temperature (D : Dn K mg "next_temperature" s_next_temperature ["products", "remaining"]) (G : Gb K mg) : Ok P w K mg base 1 "next_temperature" ["products", "remaining"] (spNext T K) := by
  refine D.ok sc_next_temperature (fun vs H Q E h => by obtain ⟨_, _, _, _, _, rfl, _⟩ := h; rfl) (fun f cdv A outer s H vs Q E hr h => ?_)
  obtain ⟨pl, rl, ps, rem, i, rfl, ⟨vs, hpl, hps⟩, hlen, hrl, hrem, hi, hri, hmin, q⟩ := h
  refine ⟨_, (pss_one (ps_ret (pe_callB (cr_min rfl) (by rfl) G.min boot_min_ (pa_cons (pe_lc (own := [("product", 2), ("tins", 3)]) (g := gTup K 2 (gCons (gName 2) (gCons (gName 3) gNil))) rfl sc_next_temperature.nd (pi_zip (by rfl) G.zip (pa_cons (pv 0) (pa_cons (pv 1) pa_nil))) (blkOk_by (own := [("product", 2), ("tins", 3)]) (N := ["products", "remaining", "product", "tins"]) (sc := defScope s_next_temperature) (by decide +kernel)) (fun _ _ _ _ _ => (pg_tup rfl (pgs_cons (pg_name (i := 2) sc_next_temperature.nd rfl (Or.inl rfl)) (pgs_cons (pg_name (i := 3) sc_next_temperature.nd rfl (Or.inl rfl)) pgs_nil)))) (fun _ _ _ _ _ => (pts_one (pt_cmpR op_gt (pv 3) pe_int (nomark _)))) (fun _ _ _ _ _ => (pe_ix (r := rIxT K) ix_tup (pv 2) pe_int (fun _ _ => rfl)))) pa_nil)))), ?_⟩
  refine ⟨_, rfl, _, rfl, pl, rl, vs, nv rem, rfl, SqL.of hpl, SqL.of hrl, fun D hD => ?_⟩
  refine lc_it (walk_zip (K := K) (a := pl) (b := rl) (xs := vs) (ys := nv rem) (n := ps.length) (by rw [nv_len, hps.len, hrem, Nat.min_self])) (fun k H' => Stay T H H' ∧ H' D = some (.lst (iv (tops ps rem k)))) ⟨StayB.new hD, by rw [upd_same]; rfl⟩
    (fun k H' _ h => ⟨SqL.of (Stay.lst h.1 hpl), SqL.of (Stay.lst h.1 hrl)⟩) ?_ ?_
  · rintro k x H1 H' hk ⟨st, hd⟩ ⟨t, u, z, rfl, ht, rfl, hu, hz⟩
    have hu : vs[k]? = some u := hu
    have hz : (nv rem)[k]? = some z := hz
    obtain ⟨hk', hp⟩ := (Stay.psl st hps).inv hu
    have hz' := nv_get (l := rem) (i := k) (by omega)
    rw [hz'] at hz
    cases hz
    have st2 : Stay T H1 (upd H1 t (.tup [u, .int (rem.getD k 0 : Nat)])) := StayB.new ht
    have ndt : D ≠ t := ne_of_none hd ht
    have hd2 : (upd H1 t (.tup [u, .int (rem.getD k 0 : Nat)])) D = some (.lst (iv (tops ps rem k))) := by rw [upd_ne ndt]; exact hd
    refine ⟨t, _, rfl, SqT.of upd_same, rfl, _, _, rfl, _, _, rfl, rfl, rfl, ?_⟩
    refine ⟨_, rfl, _, _, rfl, rfl, _, rfl, ite2 (fun h => ?_) (fun h => ?_)⟩
    · have h' : 0 < rem.getD k 0 := by
        have := of_decide_eq_true h
        omega
      obtain ⟨a, rfl, hpa⟩ := Stay.pr st2 hp
      refine ⟨_, rfl, _, _, _, _, rfl, rfl, hpa, atI_nat (j := 1) rfl, _, hd2, ?_, StayB.wrN (st.trans st2) hD hd2, ?_⟩
      · rw [iv_len]
        have := tops_len ps rem k
        exact size6 (by omega)
      · rw [upd_same, tops_succ, if_pos h', iv_append]
        rfl
    · have h' : ¬ 0 < rem.getD k 0 := fun z => h (decide_eq_true (by omega))
      refine ⟨st.trans st2, ?_⟩
      rw [hd2, tops_succ, if_neg h']
  · rintro H' ⟨st, hd⟩
    refine ⟨D, tops ps rem ps.length, rfl, SqL.of hd, ?_, fun m hm hle => ?_⟩
    · exact List.length_pos_of_mem (tops_mem.mpr ⟨i, hi, hri, rfl⟩)
    · obtain ⟨j, h1, h2, rfl⟩ := tops_mem.mp hm
      have h3 := hmin j h1 h2
      have h4 := hle _ (tops_mem.mpr ⟨i, hi, hri, rfl⟩)
      exact qi (q H' st) (by omega)
/-- left_over -/
def spLeft (T : List (Addr × Str)) (K : PySem.W.Frag) : Sp := fun vs H Q _ => ∃ (rl ul : Addr) (rem put : List Nat), vs = [.ref rl, .ref ul] ∧ H rl = some (.lst (nv rem)) ∧ H ul = some (.lst (nv put)) ∧ LeL put rem ∧ rem.length ≤ 6 ∧
  ∀ H' p, Stay T H H' → New H p → H' p = some (.lst (nv (Sr99.subtract rem put))) → Q (.ref p) H'
theorem sub_take : ∀ (rem put : List Nat) (k : Nat), k < rem.length → k < put.length → (Sr99.subtract rem put).take (k + 1) = (Sr99.subtract rem put).take k ++ [rem.getD k 0 - put.getD k 0]
  | [], _, _, h, _ => absurd h (Nat.not_lt_zero _)
  | _ :: _, [], _, _, h => absurd h (Nat.not_lt_zero _)
  | x :: r, y :: s, 0, _, _ => rfl
  | x :: r, y :: s, k + 1, h1, h2 => by
    rw [sub_cons, List.take_succ_cons, sub_take r s k (by simpa using h1) (by simpa using h2)]
    rfl
abbrev s_left_over : Stmt := top 41
theorem sc_left_over : FnScope ["remaining", "put", "tins", "many"] ["remaining", "put"] (defScope s_left_over) := ⟨rfl, rfl, rfl, by decide +kernel, rfl, by decide +kernel, by decide +kernel⟩
theorem ok_left_over (D : Dn K mg "left_over" s_left_over ["remaining", "put"]) (G : Gb K mg) : Ok P w K mg base 1 "left_over" ["remaining", "put"] (spLeft T K) := by
  refine D.ok sc_left_over (fun vs H Q E h => by obtain ⟨_, _, _, _, rfl, _⟩ := h; rfl) (fun f cdv A outer s H vs Q E hr h => ?_)
  obtain ⟨rl, ul, rem, put, rfl, hrl, hul, le, hlen, q⟩ := h
  refine ⟨_, (pss_one (ps_ret (pe_lc (own := [("tins", 2), ("many", 3)]) (g := gTup K 2 (gCons (gName 2) (gCons (gName 3) gNil))) rfl sc_left_over.nd (pi_zip (by rfl) G.zip (pa_cons (pv 0) (pa_cons (pv 1) pa_nil))) (blkOk_by (own := [("tins", 2), ("many", 3)]) (N := ["remaining", "put", "tins", "many"]) (sc := defScope s_left_over) (by decide +kernel)) (fun _ _ _ _ _ => (pg_tup rfl (pgs_cons (pg_name (i := 2) sc_left_over.nd rfl (Or.inl rfl)) (pgs_cons (pg_name (i := 3) sc_left_over.nd rfl (Or.inl rfl)) pgs_nil)))) (fun _ _ _ _ _ => pts_nil) (fun _ _ _ _ _ => (pe_op op_sub (pv 2) (pv 3)))))), ?_⟩
  have ll := le.len
  refine ⟨_, rfl, _, rfl, rl, ul, nv rem, nv put, rfl, SqL.of hrl, SqL.of hul, fun D hD => ?_⟩
  refine lc_it (walk_zip (K := K) (a := rl) (b := ul) (xs := nv rem) (ys := nv put) (n := rem.length) (by rw [nv_len, nv_len, ll, Nat.min_self])) (fun k H' => Stay T H H' ∧ H' D = some (.lst (nv ((Sr99.subtract rem put).take k)))) ⟨StayB.new hD, by rw [upd_same]; rfl⟩
    (fun k H' _ h => ⟨SqL.of (Stay.lst h.1 hrl), SqL.of (Stay.lst h.1 hul)⟩) ?_ ?_
  · rintro k x H1 H' hk ⟨st, hd⟩ ⟨t, u, z, rfl, ht, rfl, hu, hz⟩
    have hu : (nv rem)[k]? = some u := hu
    have hz : (nv put)[k]? = some z := hz
    rw [nv_get hk] at hu
    rw [nv_get (by omega)] at hz
    cases hu
    cases hz
    have st2 : Stay T H1 (upd H1 t (.tup [.int (rem.getD k 0 : Nat), .int (put.getD k 0 : Nat)])) := StayB.new ht
    have ndt : D ≠ t := ne_of_none hd ht
    have hd2 : (upd H1 t (.tup [.int (rem.getD k 0 : Nat), .int (put.getD k 0 : Nat)])) D = some (.lst (nv ((Sr99.subtract rem put).take k))) := by rw [upd_ne ndt]; exact hd
    refine ⟨t, _, rfl, SqT.of upd_same, rfl, _, _, rfl, _, _, rfl, rfl, rfl, lcYes ?_⟩
    refine ⟨_, rfl, _, rfl, _, _, rfl, rfl, _, hd2, ?_, StayB.wrN (st.trans st2) hD hd2, ?_⟩
    · rw [nv_len, List.length_take]
      exact size6 (by omega)
    · rw [upd_same, sub_take rem put k hk (by omega)]
      have := le.get k
      show some (HO.lst (nv _ ++ [V.int ((rem.getD k 0 : Int) - (put.getD k 0 : Int))])) = some (HO.lst (nv (_ ++ [rem.getD k 0 - put.getD k 0])))
      rw [← Int.ofNat_sub this]
      unfold nv SrCommon.natsToInts
      rw [List.map_append, iv_append]
      rfl
  · rintro H' ⟨st, hd⟩
    rw [List.take_of_length_le (by rw [sub_len ll]; exact Nat.le_refl _)] at hd
    exact q H' D st (New.of hD) hd
end
end Ov

set_option Elab.async false
set_option linter.all false
set_option maxRecDepth 100000
set_option maxHeartbeats 4000000
namespace Ov
open PySem PySem.Spec PyProof.Rows L2 LamX
open Sr99 (Product Oven Batch)
/-! ### batches -/
/-- a batch; its list isn't the one at n -/
def BtAt (K : PySem.W.Frag) (H : Hp) (n : Addr) (v : V) (b : Batch) : Prop := ∃ a ql, v = .ref a ∧ SqT K H a [.int b.temperature, .ref ql] ∧ H ql = some (.lst (nv b.tins)) ∧ ql ≠ n
structure BsL (K : PySem.W.Frag) (H : Hp) (n : Addr) (vs : List V) (bs : List Batch) : Prop where
  len : vs.length = bs.length
  at_ : ∀ (i : Nat) (b : Batch), bs[i]? = some b → ∃ v, vs[i]? = some v ∧ BtAt K H n v b
def BsAt (K : PySem.W.Frag) (H : Hp) (p : Addr) (bs : List Batch) : Prop := ∃ vs, H p = some (.lst vs) ∧ BsL K H p vs bs
section
variable {T : List (Addr × Str)} {K : PySem.W.Frag} {H H1 H2 : Hp} {n p : Addr}
theorem BtAt.stay {v : V} {b : Batch} (s : Stay T H H1) (h : BtAt K H n v b) : BtAt K H1 n v b := by
  obtain ⟨a, ql, e, h1, h2, h3⟩ := h
  exact ⟨a, ql, e, Stay.tup s h1, Stay.lst s h2, h3⟩
theorem BsL.stay {vs : List V} {bs : List Batch} (s : Stay T H H1) (h : BsL K H n vs bs) : BsL K H1 n vs bs := ⟨h.len, fun i b e => by
  obtain ⟨v, h1, h2⟩ := h.at_ i b e
  exact ⟨v, h1, h2.stay s⟩⟩
theorem BsAt.stay {bs : List Batch} (s : Stay T H H1) (h : BsAt K H p bs) : BsAt K H1 p bs := by
  obtain ⟨vs, h1, h2⟩ := h
  exact ⟨vs, Stay.lst s h1, h2.stay s⟩
theorem BtAt.upd {v : V} {b : Batch} {xs : List V} {o : HO} (e : H n = some (.lst xs)) (h : BtAt K H n v b) : BtAt K (upd H n o) n v b := by
  obtain ⟨a, ql, e1, h1, h2, h3⟩ := h
  refine ⟨a, ql, e1, ?_, by rw [upd_ne h3]; exact h2, h3⟩
  rcases h1 with (h1 | ⟨q, h1⟩) | h1
  · refine .inl (.inl ?_)
    have na : a ≠ n := fun z => by rw [z, e] at h1; cases h1
    rw [upd_ne na]
    exact h1
  · refine .inl (.inr ⟨q, ?_⟩)
    have na : a ≠ n := fun z => by rw [z, e] at h1; cases h1
    rw [upd_ne na]
    exact h1
  · exact .inr h1
theorem BsL.nil : BsL K H n [] [] := ⟨rfl, fun i b e => by simp at e⟩
theorem BsL.upd {vs : List V} {bs : List Batch} {xs : List V} {o : HO} (e : H n = some (.lst xs)) (h : BsL K H n vs bs) : BsL K (upd H n o) n vs bs := ⟨h.len, fun i b e1 => by
  obtain ⟨v, h1, h2⟩ := h.at_ i b e1
  exact ⟨v, h1, h2.upd e⟩⟩
theorem BsL.snoc {vs : List V} {bs : List Batch} {v : V} {b : Batch} (h : BsL K H n vs bs) (hv : BtAt K H n v b) : BsL K H n (vs ++ [v]) (bs ++ [b]) := by
  refine ⟨by rw [List.length_append, List.length_append, h.len] <;> rfl, fun i q e => ?_⟩
  by_cases hi : i < bs.length
  · rw [List.getElem?_append_left hi] at e
    obtain ⟨u, h1, h2⟩ := h.at_ i q e
    exact ⟨u, by rw [List.getElem?_append_left (by rw [h.len]; exact hi)]; exact h1, h2⟩
  · rw [List.getElem?_append_right (by omega)] at e
    have hz : i - bs.length = 0 := by
      have := (List.getElem?_eq_some_iff.mp e).1
      simp at this
      omega
    rw [hz] at e
    cases e
    exact ⟨v, by rw [List.getElem?_append_right (by rw [h.len]; omega), h.len, hz]; rfl, hv⟩
theorem BsL.inv {vs : List V} {bs : List Batch} (h : BsL K H n vs bs) {i : Nat} {v : V} (e : vs[i]? = some v) : ∃ b, bs[i]? = some b ∧ BtAt K H n v b := by
  have hi : i < bs.length := by
    have := (List.getElem?_eq_some_iff.mp e).1
    rw [h.len] at this
    exact this
  obtain ⟨v', h1, h2⟩ := h.at_ i _ (List.getElem?_eq_getElem hi)
  rw [e] at h1
  cases h1
  exact ⟨_, List.getElem?_eq_getElem hi, h2⟩
end
section
variable {P : Program} {w : World} {K : PySem.W.Frag} {mg : Str → Option Value} {base : Heap} {T : List (Addr × Str)} {C : Addr}
theorem tins_nv (ps : List Product) : iv (ps.map fun p => (p.tins : Int)) = nv (ps.map fun p => p.tins) := by
  unfold nv SrCommon.natsToInts
  rw [List.map_map]
  rfl
def spPlanned (T : List (Addr × Str)) (K : PySem.W.Frag) : Sp := fun vs H Q _ => ∃ (pl : Addr) (o : Oven), vs = [.ref pl, .int o.capacity] ∧ OkO o ∧ PsAt K H pl o.products ∧ Tabs T H ∧
  ∀ H' p, Stay T H H' → New H p → BsAt K H' p (Sr99.batches o) → (Sr99.batches o).length ≤ 54 → Q (.ref p) H'
abbrev s_planned : Stmt := top 42
theorem sc_planned : FnScope ["products", "capacity", "found", "remaining", "temperature", "put"] ["products", "capacity"] (defScope s_planned) := ⟨rfl, rfl, rfl, by decide +kernel, rfl, by decide +kernel, by decide +kernel⟩
theorem ok_planned (D : Dn K mg "planned" s_planned ["products", "capacity"]) (G : Gb K mg) (o_tins_of : Ok P w K mg base 1 "tins_of" ["products"] (spTins T K)) (o_next_temperature : Ok P w K mg base 1 "next_temperature" ["products", "remaining"] (spNext T K))
    (o_filled : Ok P w K mg base 5 "filled" ["products", "remaining", "capacity", "temperature"] (spFilled T K)) (o_left_over : Ok P w K mg base 1 "left_over" ["remaining", "put"] (spLeft T K)) : Ok P w K mg base 6 "planned" ["products", "capacity"] (spPlanned T K) := by
  refine D.ok sc_planned (fun vs H Q E h => by obtain ⟨_, _, rfl, _⟩ := h; rfl) (fun f cdv A outer s H vs Q E hr h => ?_)
  obtain ⟨pl, o, rfl, ko, ⟨vs, hpl, hps⟩, tb, q⟩ := h
  refine ⟨_, (pss_cons (ps_set (i := 2) sc_planned.nd rfl (.inl rfl) (pe_lst pa_nil))
    (pss_cons (ps_set (i := 3) sc_planned.nd rfl (.inl rfl) (pe_ok o_tins_of hr (by decide) (by rfl) (pa_cons (pv 0) pa_nil)))
    (pss_cons (ps_while PassesOwn.never (pt_cmpR op_gt (pe_callB (cr_sum rfl) (by rfl) G.sum boot_sum_ (pa_cons (pv 3) pa_nil)) pe_int (nomark _)) (pss_cons (ps_set (i := 4) sc_planned.nd rfl (.inl rfl) (pe_ok o_next_temperature hr (by decide) (by rfl) (pa_cons (pv 0) (pa_cons (pv 3) pa_nil))))
    (pss_cons (ps_set (i := 5) sc_planned.nd rfl (.inl rfl) (pe_ok o_filled hr (by decide) (by rfl) (pa_cons (pv 0) (pa_cons (pv 3) (pa_cons (pv 1) (pa_cons (pv 4) pa_nil))))))
    (pss_cons (ps_expr (pe_bm PySem.F.plainAttrs_list PySem.F.slot_list_append PySem.F.type_list_append mt_append (pv 2) (pa_cons (pe_tup (pa_cons (pv 4) (pa_cons (pv 5) pa_nil))) pa_nil)))
    (pss_one (ps_set (i := 3) sc_planned.nd rfl (.inl rfl) (pe_ok o_left_over hr (by decide) (by rfl) (pa_cons (pv 3) (pa_cons (pv 5) pa_nil)))))))))
    (pss_one (ps_ret (pv 2)))))), ?_⟩
  refine ⟨(by show 0 ≤ sizeLine; decide), fun fo hfo => ?_⟩
  have st0 : Stay T H (upd H fo (.lst [])) := StayB.new hfo
  have klen := ko.few
  refine ⟨_, rfl, pl, o.products, rfl, Stay.ps st0 ⟨vs, hpl, hps⟩, klen, fun H1 rl st1 nrl hrl => ?_⟩
  rw [tins_nv] at hrl
  have nfr : fo ≠ rl := New.lst nrl (a := fo) upd_same
  have hfo1 : H1 fo = some (.lst []) := Stay.lst st1 upd_same
  refine ⟨fun m σ H' => ∃ (rem : List Nat) (rl : Addr) (done : List Batch) (y4 y5 : Option V), σ = [some (.ref pl), some (.int o.capacity), some (.ref fo), some (.ref rl), y4, y5] ∧ m = rem.sum ∧ Stay T H H' ∧
      H' rl = some (.lst (nv rem)) ∧ fo ≠ rl ∧ rem.length = o.products.length ∧ BsAt K H' fo done ∧ (∃ fuel, rem.sum ≤ fuel ∧ done ++ Sr99.batchesFrom o fuel rem = Sr99.batches o) ∧ rem.sum + done.length ≤ 54,
    ⟨_, o.products.map fun p => p.tins, rl, [], none, none, rfl, rfl, st0.trans st1, hrl, nfr, List.length_map _, ⟨[], hfo1, BsL.nil⟩, ⟨_, Nat.le_refl _, ?_⟩, tins_sum _ ko.each klen⟩, ?_⟩
  · show Sr99.batchesFrom o _ _ = Sr99.batchesFrom o _ _
    rw [sum_eq]
    rfl
  · rintro m σ H2 ⟨rem, rl, done, y4, y5, rfl, rfl, st2, hrl2, nfr2, hrem, ⟨ws, hfo2, hbs⟩, ⟨fuel, hf1, hf2⟩, hm⟩
    refine ⟨_, rfl, rl, SrCommon.natsToInts rem, rfl, SqL.of hrl2, _, _, rfl, rfl, _, rfl, ?_⟩
    refine ite2 (fun h => ?_) (fun h => ?_)
    · have h' : 0 < rem.sum := by
        have := of_decide_eq_true h
        rw [nv_sum] at this
        omega
      obtain ⟨i, h1, h2, h3, h4, le, hl2, lt⟩ := plan_turn o ko rem hrem h'
      refine ⟨fun σ' H' => ∃ m', m' < rem.sum ∧ ∃ (rem : List Nat) (rl : Addr) (done : List Batch) (y4 y5 : Option V), σ' = [some (.ref pl), some (.int o.capacity), some (.ref fo), some (.ref rl), y4, y5] ∧ m' = rem.sum ∧ Stay T H H' ∧
          H' rl = some (.lst (nv rem)) ∧ fo ≠ rl ∧ rem.length = o.products.length ∧ BsAt K H' fo done ∧ (∃ fuel, rem.sum ≤ fuel ∧ done ++ Sr99.batchesFrom o fuel rem = Sr99.batches o) ∧ rem.sum + done.length ≤ 54, fun _ _ z => z, ?_⟩
      refine ⟨_, rfl, _, rfl, pl, rl, o.products, rem, i, rfl, Stay.ps st2 ⟨vs, hpl, hps⟩, klen, hrl2, hrem, h1, h2, h3, fun H3 st3 => ?_⟩
      refine ⟨_, rfl, _, rfl, _, rfl, _, rfl, pl, rl, o.capacity, (pAt o.products i).maxTemperature, o.products, rem, rfl, Stay.ps (st2.trans st3) ⟨vs, hpl, hps⟩, klen, Stay.lst st3 hrl2, hrem, (st2.trans st3).tabs tb, fun H4 ul st4 nul hul => ?_⟩
      rw [filled_is] at hul
      have hfo4 := Stay.lst (st3.trans st4) hfo2
      have nfu : fo ≠ ul := New.lst nul (Stay.lst st3 hfo2)
      have st24 := (st2.trans st3).trans st4
      have bs4 : BsL K H4 fo ws done := (hbs.stay st3).stay st4
      refine ⟨_, rfl, ?_, _, rfl, _, rfl, (by show 2 ≤ sizeLine; decide), fun t ht => ?_⟩
      · exact .inl ⟨rfl, ws, SqL.of hfo4⟩
      · have st5 : Stay T H4 (upd H4 t (.tup [.int (pAt o.products i).maxTemperature, .ref ul])) := StayB.new ht
        have hfo5 := Stay.lst st5 hfo4
        refine ⟨fo, ws, .ref t, rfl, rfl, hfo5, ?_, ?_⟩
        · rw [hbs.len]
          exact Nat.lt_of_le_of_lt (show done.length ≤ 54 by omega) (by decide)
        · have st6 := StayB.wrN (o := .lst (ws ++ [.ref t])) (st24.trans st5) hfo hfo5
          have bt : BtAt K (upd (upd H4 t (.tup [.int (pAt o.products i).maxTemperature, .ref ul])) fo (.lst (ws ++ [.ref t]))) fo (.ref t) ⟨(pAt o.products i).maxTemperature, Sr99.fill o rem (pAt o.products i).maxTemperature⟩ := by
            refine BtAt.upd hfo5 ⟨t, ul, rfl, SqT.of upd_same, Stay.lst st5 hul, nfu.symm⟩
          have bsN := BsL.snoc ((bs4.stay st5).upd (o := .lst (ws ++ [.ref t])) hfo5) bt
          have hrl6 : upd (upd H4 t (.tup [.int (pAt o.products i).maxTemperature, .ref ul])) fo (.lst (ws ++ [.ref t])) rl = some (.lst (nv rem)) := by
            rw [upd_ne nfr2.symm]
            exact Stay.lst ((st3.trans st4).trans st5) hrl2
          have hul6 : upd (upd H4 t (.tup [.int (pAt o.products i).maxTemperature, .ref ul])) fo (.lst (ws ++ [.ref t])) ul = some (.lst (nv (Sr99.fill o rem (pAt o.products i).maxTemperature))) := by
            rw [upd_ne nfu.symm]
            exact Stay.lst st5 hul
          refine ⟨_, rfl, _, rfl, rl, ul, rem, _, rfl, hrl6, hul6, le, by omega, fun H7 r7 st7 n7 hr7 => ?_⟩
          refine ⟨_, lt, _, r7, done ++ [⟨(pAt o.products i).maxTemperature, Sr99.fill o rem (pAt o.products i).maxTemperature⟩], _, _, rfl, rfl, st6.trans st7, hr7, New.lst n7 upd_same, hl2, ⟨_, Stay.lst st7 upd_same, bsN.stay st7⟩, ?_, ?_⟩
          · match fuel, hf1, hf2 with
            | 0, hf1, _ => omega
            | fuel + 1, hf1, hf2 =>
              refine ⟨fuel, by omega, ?_⟩
              rw [h4] at hf2
              rw [List.append_assoc]
              exact hf2
          · rw [List.length_append]
            show _ + (_ + 1) ≤ 54
            omega
    · have h' : rem.sum = 0 := by
        have : ¬ ((0:Int) < (SrCommon.natsToInts rem).sum) := fun z => h (decide_eq_true z)
        rw [nv_sum] at this
        omega
      rw [batches_end o rem h', List.append_nil] at hf2
      refine ⟨_, rfl, q H2 fo st2 (New.of hfo) ⟨ws, hfo2, ?_⟩ ?_⟩
      · rw [← hf2]
        exact hbs
      · rw [← hf2]
        omega
end
end Ov

set_option Elab.async false
set_option linter.all false
set_option maxRecDepth 100000
set_option maxHeartbeats 4000000
namespace Ov
open PySem PySem.Spec PyProof.Rows L2 LamX
open Sr99 (Product Oven Batch)
section
variable {P : Program} {w : World} {K : PySem.W.Frag} {mg : Str → Option Value} {base : Heap} {T : List (Addr × Str)} {C : Addr}
/-! ### orders.py -/
def spTotal (K : PySem.W.Frag) : Sp := fun vs H Q _ => ∃ (st : Int) (tl : Addr) (l : List Int), vs = [.int st, .ref tl] ∧ SqL K H tl (iv l) ∧ Q (.int (tcI st l)) H
abbrev s_total_change : Stmt := top 44
theorem sc_total_change : FnScope ["start", "temperatures", "found", "here", "temperature"] ["start", "temperatures"] (defScope s_total_change) := ⟨rfl, rfl, rfl, by decide +kernel, rfl, by decide +kernel, by decide +kernel⟩
theorem ok_total_change (D : Dn K mg "total_change" s_total_change ["start", "temperatures"]) (G : Gb K mg) : Ok P w K mg base 1 "total_change" ["start", "temperatures"] (spTotal K) := by
  refine D.ok sc_total_change (fun vs H Q E h => by obtain ⟨_, _, _, rfl, _⟩ := h; rfl) (fun f cdv A outer sh H vs Q E hr h => ?_)
  obtain ⟨st, tl, l, rfl, hl, q⟩ := h
  refine ⟨_, (pss_cons (ps_set (i := 2) sc_total_change.nd rfl (.inl rfl) pe_int)
    (pss_cons (ps_set (i := 3) sc_total_change.nd rfl (.inl rfl) (pv 0))
    (pss_cons (ps_for PassesOwn.never rfl (pi_list (pv 1)) (pg_name (i := 4) sc_total_change.nd rfl (.inl rfl)) (pss_cons (ps_set (i := 2) sc_total_change.nd rfl (.inl rfl) (pe_op op_add (pv 2) (pe_callB call_abs (by rfl) G.abs boot_abs_ (pa_cons (pe_op op_sub (pv 4) (pv 3)) pa_nil))))
    (pss_one (ps_set (i := 3) sc_total_change.nd rfl (.inl rfl) (pv 4)))))
    (pss_one (ps_ret (pv 2)))))), ?_⟩
  refine ⟨_, rfl, _, rfl, tl, rfl, ⟨_, hl⟩, for_it (walk_list (K := K) (a := tl) (xs := iv l)) (fun i σ H' => H' = H ∧ ∃ (a h : Int) (y4 : Option V), σ = [some (.int st), some (.ref tl), some (.int a), some (.int h), y4] ∧
    ((l.drop i).foldl (fun (s : Int × Int) t => (s.1 + absI (t - s.2), t)) (a, h)).1 = tcI st l) ⟨rfl, 0, st, none, rfl, rfl⟩ (fun i σ H' _ ⟨e, _⟩ => by rw [e]; exact hl) ?_ ?_⟩
  · rintro i x σ H1 H' hi ⟨rfl, a, h, y4, rfl, hf⟩ ⟨rfl, hx⟩
    obtain ⟨z, hz, rfl⟩ := iv_inv hx
    have hd : l.drop i = z :: l.drop (i + 1) := by
      obtain ⟨h1, h2⟩ := List.getElem?_eq_some_iff.mp hz
      rw [List.drop_eq_getElem_cons h1, h2]
    rw [hd] at hf
    exact ⟨_, rfl, _, rfl, _, rfl, _, _, rfl, rfl, _, rfl, _, _, rfl, rfl, _, rfl, rfl, _, _, _, rfl, hf⟩
  · rintro σ H' ⟨rfl, a, h, y4, rfl, hf⟩
    rw [iv_len, List.drop_length] at hf
    exact ⟨_, rfl, qi q hf⟩
def spBest (T : List (Addr × Str)) (K : PySem.W.Frag) : Sp := fun vs H Q _ => ∃ (st : Int) (tl : Addr) (l : List Int), vs = [.int st, .ref tl] ∧ SqL K H tl (iv l) ∧
  ∀ H' p ns, Stay T H H' → New H p → ns.Perm l → ns.Pairwise (· ≤ ·) → H' p = some (.lst (iv (bestI st ns))) → Q (.ref p) H'
abbrev s_best_ordered : Stmt := top 45
theorem sc_best_ordered : FnScope ["start", "temperatures", "rising", "falling"] ["start", "temperatures"] (defScope s_best_ordered) := ⟨rfl, rfl, rfl, by decide +kernel, rfl, by decide +kernel, by decide +kernel⟩
theorem ok_best_ordered (D : Dn K mg "best_ordered" s_best_ordered ["start", "temperatures"]) (G : Gb K mg) (o_total_change : Ok P w K mg base 1 "total_change" ["start", "temperatures"] (spTotal K)) : Ok P w K mg base 2 "best_ordered" ["start", "temperatures"] (spBest T K) := by
  refine D.ok sc_best_ordered (fun vs H Q E h => by obtain ⟨_, _, _, rfl, _⟩ := h; rfl) (fun f cdv A outer sh H vs Q E hr h => ?_)
  obtain ⟨st, tl, l, rfl, hl, q⟩ := h
  refine ⟨_, (pss_cons (ps_set (i := 2) sc_best_ordered.nd rfl (.inl rfl) (pe_callB cr_sortedI (by rfl) G.sorted boot_sorted_ (pa_cons (pv 1) pa_nil)))
    (pss_cons (ps_set (i := 3) sc_best_ordered.nd rfl (.inl rfl) (pe_revL (pv 2)))
    (pss_one (ps_ret (pe_ifExp (pt_cmpR op_lt (pe_ok o_total_change hr (by decide) (by rfl) (pa_cons (pv 0) (pa_cons (pv 3) pa_nil))) (pe_ok o_total_change hr (by decide) (by rfl) (pa_cons (pv 0) (pa_cons (pv 2) pa_nil))) (nomark _)) (pv 3) (pv 2)))))), ?_⟩
  refine ⟨_, rfl, tl, l, rfl, hl, fun ns p hp hs hn => ?_⟩
  have st1 : Stay T H (upd H p (.lst (iv ns))) := StayB.new hn
  refine ⟨_, rfl, p, iv ns, rfl, SqL.of upd_same, fun r hr' => ?_⟩
  have st2 : Stay T (upd H p (.lst (iv ns))) (upd (upd H p (.lst (iv ns))) r (.lst (iv ns).reverse)) := StayB.new hr'
  have er : (iv ns).reverse = iv ns.reverse := List.map_reverse.symm
  refine ⟨_, rfl, _, rfl, _, _, ns.reverse, rfl, SqL.of (by rw [upd_same, er]), ?_⟩
  refine ⟨_, rfl, _, rfl, _, _, ns, rfl, SqL.of (Stay.lst st2 upd_same), ?_⟩
  refine ⟨_, _, rfl, rfl, _, rfl, ite2 (fun h => ?_) (fun h => ?_)⟩
  · have e : bestI st ns = ns.reverse := if_pos (of_decide_eq_true h)
    exact ⟨_, rfl, q _ r ns (st1.trans st2) (New.back st1 (New.of hr')) hp hs (by rw [upd_same, e, er])⟩
  · have e : bestI st ns = ns := if_neg (fun z => h (decide_eq_true z))
    exact ⟨_, rfl, q _ p ns (st1.trans st2) (New.of hn) hp hs (by rw [e]; exact Stay.lst st2 upd_same)⟩
end
end Ov

set_option Elab.async false
set_option linter.all false
set_option maxRecDepth 100000
set_option maxHeartbeats 4000000
namespace Ov
open PySem PySem.Spec PyProof.Rows L2 LamX
open Sr99 (Product Oven Batch)
/-! ### groups -/
structure GsL (H : Hp) (n : Addr) (vs : List V) (gs : List (List Int)) : Prop where
  len : vs.length = gs.length
  at_ : ∀ (i : Nat) (g : List Int), gs[i]? = some g → ∃ a, vs[i]? = some (.ref a) ∧ H a = some (.lst (iv g)) ∧ a ≠ n
def GsAt (H : Hp) (p : Addr) (gs : List (List Int)) : Prop := ∃ vs, H p = some (.lst vs) ∧ GsL H p vs gs
section
variable {T : List (Addr × Str)} {K : PySem.W.Frag} {H H1 H2 : Hp} {n p : Addr}
theorem GsL.stay {vs : List V} {gs : List (List Int)} (s : Stay T H H1) (h : GsL H n vs gs) : GsL H1 n vs gs := ⟨h.len, fun i b e => by
  obtain ⟨a, h1, h2, h3⟩ := h.at_ i b e
  exact ⟨a, h1, Stay.lst s h2, h3⟩⟩
theorem GsAt.stay {gs : List (List Int)} (s : Stay T H H1) (h : GsAt H p gs) : GsAt H1 p gs := by
  obtain ⟨vs, h1, h2⟩ := h
  exact ⟨vs, Stay.lst s h1, h2.stay s⟩
theorem GsL.nil : GsL H n [] [] := ⟨rfl, fun i b e => by simp at e⟩
theorem GsL.upd {vs : List V} {gs : List (List Int)} {o : HO} (h : GsL H n vs gs) : GsL (upd H n o) n vs gs := ⟨h.len, fun i b e => by
  obtain ⟨a, h1, h2, h3⟩ := h.at_ i b e
  exact ⟨a, h1, by rw [upd_ne h3]; exact h2, h3⟩⟩
theorem GsL.snoc {vs : List V} {gs : List (List Int)} {a : Addr} {g : List Int} (h : GsL H n vs gs) (h1 : H a = some (.lst (iv g))) (h2 : a ≠ n) : GsL H n (vs ++ [.ref a]) (gs ++ [g]) := by
  refine ⟨by rw [List.length_append, List.length_append, h.len] <;> rfl, fun i q e => ?_⟩
  by_cases hi : i < gs.length
  · rw [List.getElem?_append_left hi] at e
    obtain ⟨u, h1, h2⟩ := h.at_ i q e
    exact ⟨u, by rw [List.getElem?_append_left (by rw [h.len]; exact hi)]; exact h1, h2⟩
  · rw [List.getElem?_append_right (by omega)] at e
    have hz : i - gs.length = 0 := by
      have := (List.getElem?_eq_some_iff.mp e).1
      simp at this
      omega
    rw [hz] at e
    cases e
    exact ⟨a, by rw [List.getElem?_append_right (by rw [h.len]; omega), h.len, hz]; rfl, h1, h2⟩
theorem GsL.inv {vs : List V} {gs : List (List Int)} (h : GsL H n vs gs) {i : Nat} {v : V} (e : vs[i]? = some v) : ∃ a g, v = .ref a ∧ gs[i]? = some g ∧ H a = some (.lst (iv g)) := by
  have hi : i < gs.length := by
    have := (List.getElem?_eq_some_iff.mp e).1
    rw [h.len] at this
    exact this
  obtain ⟨a, h1, h2, h3⟩ := h.at_ i _ (List.getElem?_eq_getElem hi)
  rw [e] at h1
  exact ⟨a, _, Option.some.inj h1, List.getElem?_eq_getElem hi, h2⟩
end
theorem iv_drop (l : List Int) (k : Nat) : (iv l).drop k = iv (l.drop k) := List.map_drop.symm
theorem iv_take (l : List Int) (k : Nat) : (iv l).take k = iv (l.take k) := List.map_take.symm
theorem iv_getD {l : List Int} {i : Nat} (h : i < l.length) : (iv l)[i]? = some (.int (l.getD i 0)) := by
  refine iv_get ?_
  rw [List.getD_eq_getElem?_getD, List.getElem?_eq_getElem h] <;> rfl
theorem range_size (k size : Nat) (h : 0 < size) : Builtin.Range.rangeSize 0 ((k * size : Nat) : Int) (size : Int) = (k : Int) := by
  unfold Builtin.Range.rangeSize
  rw [if_pos (by omega)]
  cases k with
  | zero =>
    rw [if_neg (by rw [Nat.zero_mul]; decide)]
    rfl
  | succ k =>
    have hp : 0 < (k + 1) * size := Nat.mul_pos (Nat.succ_pos _) h
    rw [if_pos (by omega)]
    have e : (((k + 1) * size : Nat) : Int) - 0 - 1 = ((size - 1 : Nat) : Int) + (k : Int) * (size : Int) := by
      rw [Nat.add_mul, Nat.one_mul, Int.natCast_add, Int.natCast_mul]
      omega
    rw [e, Int.add_mul_ediv_right _ _ (by omega)]
    have z : ((size - 1 : Nat) : Int) / (size : Int) = 0 := Int.ediv_eq_zero_of_lt (by omega) (by omega)
    rw [z]
    omega
theorem range_ok (k size : Nat) (h : 0 < size) (h2 : size ≤ 1000) (h3 : k * size ≤ 1000) : RgC 0 ((k * size : Nat) : Int) (size : Int) k := by
  have hk : k ≤ k * size := Nat.le_mul_of_pos_right _ h
  refine ⟨by omega, by omega, ?_, range_size k size h⟩
  unfold Builtin.Range.small
  rw [range_size k size h]
  simp only [Builtin.Range.rangeFitsLong, Bool.and_eq_true, Bool.or_eq_true, decide_eq_true_eq, beq_iff_eq]
  have e : ((k * size : Nat) : Int) = (k : Int) * (size : Int) := Int.natCast_mul _ _
  have hk' : (k : Int) ≤ ((k * size : Nat) : Int) := Int.ofNat_le.mpr hk
  rw [if_pos (show (size : Int) > 0 by omega), Bool.and_eq_true, decide_eq_true_eq, decide_eq_true_eq]
  omega
section
variable {P : Program} {w : World} {K : PySem.W.Frag} {mg : Str → Option Value} {base : Heap} {T : List (Addr × Str)} {C : Addr}
/-! ### checking.py -/
def spNeg (K : PySem.W.Frag) : Sp := fun vs H Q _ => ∃ (nl : Addr) (l : List Int), vs = [.ref nl] ∧ SqL K H nl (iv l) ∧ Q (.bl (negAny l)) H
theorem neg_drop {l : List Int} {i : Nat} {z : Int} (hz : l[i]? = some z) (h : negAny (l.take i) = false) : negAny (l.take (i + 1)) = decide (z < 0) := by
  unfold negAny at h ⊢
  rw [List.take_add_one, List.any_append, h, hz]
  simp
abbrev s_has_negative : Stmt := top 30
theorem sc_has_negative : FnScope ["numbers", "number"] ["numbers"] (defScope s_has_negative) := ⟨rfl, rfl, rfl, by decide +kernel, rfl, by decide +kernel, by decide +kernel⟩
theorem ok_has_negative (D : Dn K mg "has_negative" s_has_negative ["numbers"]) (G : Gb K mg) : Ok P w K mg base 1 "has_negative" ["numbers"] (spNeg K) := by
  refine D.ok sc_has_negative (fun vs H Q E h => by obtain ⟨_, _, rfl, _⟩ := h; rfl) (fun f cdv A outer sh H vs Q E hr h => ?_)
  obtain ⟨nl, l, rfl, hl, q⟩ := h
  refine ⟨_, (pss_cons (ps_for PassesOwn.never rfl (pi_list (pv 0)) (pg_name (i := 1) sc_has_negative.nd rfl (.inl rfl)) (pss_one (ps_if (pt_cmpR op_lt (pv 1) pe_int (nomark _)) (pss_one (ps_ret pe_bl)) pss_nil)))
    (pss_one (ps_ret pe_bl))), ?_⟩
  refine ⟨_, rfl, nl, rfl, ⟨_, hl⟩, for_it (walk_list (K := K) (a := nl) (xs := iv l)) (fun i σ H' => H' = H ∧ negAny (l.take i) = false ∧ ∃ (y1 : Option V), σ = [some (.ref nl), y1]) ⟨rfl, rfl, none, rfl⟩ (fun i σ H' _ ⟨e, _⟩ => by rw [e]; exact hl) ?_ ?_⟩
  · rintro i x σ H1 H' hi ⟨rfl, hn, y1, rfl⟩ ⟨rfl, hx⟩
    obtain ⟨z, hz, rfl⟩ := iv_inv hx
    have hd := neg_drop hz hn
    refine ⟨_, rfl, _, _, rfl, rfl, _, rfl, ite2 (fun h => ?_) (fun h => ?_)⟩
    · refine qb q ?_
      symm
      rw [h] at hd
      unfold negAny at hd ⊢
      rw [List.any_eq_true] at hd ⊢
      obtain ⟨y, h1, h2⟩ := hd
      exact ⟨y, List.mem_of_mem_take h1, h2⟩
    · exact ⟨rfl, by rw [hd]; exact Bool.not_eq_true _ |>.mp h, _, rfl⟩
  · rintro σ H' ⟨rfl, hn, y1, rfl⟩
    rw [iv_len, List.take_length] at hn
    exact qb q hn.symm
def spDivd (K : PySem.W.Frag) : Sp := fun vs H Q _ => ∃ (nl : Addr) (l : List Int) (size : Nat), vs = [.ref nl, .int size] ∧ 0 < size ∧ H nl = some (.lst (iv l)) ∧ Q (.bl (decide (l.length % size = 0))) H
abbrev s_can_be_divided : Stmt := top 31
theorem sc_can_be_divided : FnScope ["numbers", "size"] ["numbers", "size"] (defScope s_can_be_divided) := ⟨rfl, rfl, rfl, by decide +kernel, rfl, by decide +kernel, by decide +kernel⟩
theorem ok_can_be_divided (D : Dn K mg "can_be_divided" s_can_be_divided ["numbers", "size"]) (G : Gb K mg) : Ok P w K mg base 1 "can_be_divided" ["numbers", "size"] (spDivd K) := by
  refine D.ok sc_can_be_divided (fun vs H Q E h => by obtain ⟨_, _, _, rfl, _⟩ := h; rfl) (fun f cdv A outer sh H vs Q E hr h => ?_)
  obtain ⟨nl, l, size, rfl, hs, hl, q⟩ := h
  refine ⟨_, (pss_one (ps_ret (pe_cmpR op_eq (pe_op op_mod (pe_callB call_len_seq (by rfl) G.len PySem.boot_len (pa_cons (pv 0) pa_nil)) (pv 1)) pe_int (nomark _)))), ?_⟩
  refine ⟨_, rfl, nl, iv l, rfl, .inl (SqL.of hl), _, rfl, _, _, rfl, rfl, ?_, rfl, qb q ?_⟩
  · show (0 : Int) < (size : Int)
    omega
  · rw [dec_int, iv_len, Bool.eq_iff_iff, beq_iff_eq, decide_eq_true_eq]
    omega
def spDivided (T : List (Addr × Str)) (K : PySem.W.Frag) : Sp := fun vs H Q _ => ∃ (nl : Addr) (l : List Int) (size k : Nat), vs = [.ref nl, .int size] ∧ 0 < size ∧ size ≤ 7 ∧ l.length ≤ 70 ∧ l.length = k * size ∧ H nl = some (.lst (iv l)) ∧
  ∀ H' p, Stay T H H' → New H p → GsAt H' p (chunks l size k) → Q (.ref p) H'
theorem chunks_snoc (l : List Int) (size i : Nat) : chunks l size (i + 1) = chunks l size i ++ [(l.drop (i * size)).take size] := by
  unfold chunks
  rw [List.range_succ, List.map_append]
  rfl
theorem chunks_len (l : List Int) (size i : Nat) : (chunks l size i).length = i := by
  unfold chunks
  rw [List.length_map, List.length_range]
abbrev s_divided : Stmt := top 32
theorem sc_divided : FnScope ["numbers", "size", "at"] ["numbers", "size"] (defScope s_divided) := ⟨rfl, rfl, rfl, by decide +kernel, rfl, by decide +kernel, by decide +kernel⟩
theorem ok_divided (D : Dn K mg "divided" s_divided ["numbers", "size"]) (G : Gb K mg) : Ok P w K mg base 1 "divided" ["numbers", "size"] (spDivided T K) := by
  refine D.ok sc_divided (fun vs H Q E h => by obtain ⟨_, _, _, _, rfl, _⟩ := h; rfl) (fun f cdv A outer sh H vs Q E hr h => ?_)
  obtain ⟨nl, l, size, k, rfl, hs, hs7, hl70, hk, hl, q⟩ := h
  refine ⟨_, (pss_one (ps_ret (pe_lc (own := [("at", 2)]) rfl sc_divided.nd (pi_range3 (by rfl) G.range (pa_cons pe_int (pa_cons (pe_callB call_len_seq (by rfl) G.len PySem.boot_len (pa_cons (pv 0) pa_nil)) (pa_cons (pv 1) pa_nil)))) (blkOk_by (own := [("at", 2)]) (N := ["numbers", "size", "at"]) (sc := defScope s_divided) (by decide +kernel)) (fun _ _ _ _ _ => (pg_name (i := 2) sc_divided.nd rfl (Or.inl rfl))) (fun _ _ _ _ _ => pts_nil) (fun _ _ _ _ _ => (pe_slice (r := rSlL K) sl_list (pv 0) (po_some (pv 2)) (po_some (pe_op op_add (pv 2) (pv 1)))))))), ?_⟩
  refine ⟨_, rfl, nl, iv l, rfl, .inl (SqL.of hl), _, rfl, _, _, _, k, rfl, ?_, fun D hD => ?_⟩
  · rw [iv_len, hk]
    exact range_ok k size hs (by omega) (by omega)
  · refine lc_it (walk_rangeC (lo := 0) (c := (size : Int)) (n := k)) (fun i H' => Stay T H H' ∧ ∃ vs, H' D = some (.lst vs) ∧ GsL H' D vs (chunks l size i)) ⟨StayB.new hD, [], upd_same, GsL.nil⟩
      (fun i H' _ h => trivial) ?_ ?_
    · rintro i x H1 H' hi ⟨st, vs, hd, gs⟩ ⟨rfl, rfl⟩
      have hi2 : (i + 1) * size ≤ k * size := Nat.mul_le_mul_right _ hi
      have hi3 : (i + 1) * size = i * size + size := by rw [Nat.add_mul, Nat.one_mul]
      have nnl : nl ≠ D := ne_of_none hl hD
      refine ⟨rfl, lcYes ?_⟩
      refine ⟨_, rfl, _, rfl, _, rfl, _, rfl, _, rfl, _, _, rfl, rfl, _, rfl, nl, iv l, rfl, SqL.of (Stay.lst st hl), fun p hp => ?_⟩
      have e1 : (0 : Int) + (i : Nat) * (size : Int) = ((i * size : Nat) : Int) := by rw [Int.natCast_mul, Int.zero_add]
      have e2 : (0 : Int) + (i : Nat) * (size : Int) + (size : Int) = ((i * size + size : Nat) : Int) := by rw [e1, Int.natCast_add]
      have ec : cutV (iv l) (some ((0 : Int) + (i : Nat) * (size : Int))) (some ((0 : Int) + (i : Nat) * (size : Int) + (size : Int))) = iv ((l.drop (i * size)).take size) := by
        rw [e2, e1, cut_both _ _ _ (Nat.le_add_right _ _) (by rw [iv_len]; omega), Nat.add_sub_cancel_left, iv_drop, iv_take]
      have nD : D ≠ p := ne_of_none hd hp
      have st2 := st.trans (StayB.new (T := T) (A := []) (o := .lst (cutV (iv l) (some ((0 : Int) + (i : Nat) * (size : Int))) (some ((0 : Int) + (i : Nat) * (size : Int) + (size : Int))))) hp)
      have hd2 := Stay.lst (T := T) (StayB.new (o := .lst (cutV (iv l) (some ((0 : Int) + (i : Nat) * (size : Int))) (some ((0 : Int) + (i : Nat) * (size : Int) + (size : Int))))) hp) hd
      have gs2 := GsL.stay (T := T) (StayB.new (o := .lst (cutV (iv l) (some ((0 : Int) + (i : Nat) * (size : Int))) (some ((0 : Int) + (i : Nat) * (size : Int) + (size : Int))))) hp) gs
      refine ⟨vs, hd2, ?_, StayB.wrN st2 hD hd2, _, upd_same, ?_⟩
      · rw [gs.len, chunks_len]
        have hk' : k ≤ k * size := Nat.le_mul_of_pos_right _ hs
        exact Nat.lt_of_le_of_lt (show i ≤ 70 by omega) (by decide)
      · rw [chunks_snoc]
        exact GsL.snoc gs2.upd (by rw [upd_ne nD.symm, upd_same, ec]) nD.symm
    · rintro H' ⟨st, vs, hd, gs⟩
      exact q H' D st (New.of hD) ⟨vs, hd, gs⟩
theorem bakes_iff {p : Product} {t : Int} : bakes p t = (decide ((p.minTemperature : Int) ≤ t) && decide (t ≤ (p.maxTemperature : Int))) := rfl
def spIsB (T : List (Addr × Str)) (K : PySem.W.Frag) : Sp := fun vs H Q _ => ∃ (pl gl : Addr) (cap : Int) (ps : List Product) (g : List Int), vs = [.ref pl, .int cap, .ref gl] ∧ PsAt K H pl ps ∧ ps.length ≤ 6 ∧ H gl = some (.lst (iv g)) ∧ g.length = ps.length + 1 ∧
  ∀ H', Stay T H H' → Q (.bl (batchOk ps cap g)) H'
abbrev s_is_batch : Stmt := top 33
theorem sc_is_batch : FnScope ["products", "capacity", "group", "product", "tins"] ["products", "capacity", "group"] (defScope s_is_batch) := ⟨rfl, rfl, rfl, by decide +kernel, rfl, by decide +kernel, by decide +kernel⟩
theorem ok_is_batch (D : Dn K mg "is_batch" s_is_batch ["products", "capacity", "group"]) (G : Gb K mg) (o_can_be_baked : Ok P w K mg base 1 "can_be_baked" ["product", "temperature"] (spBake K)) : Ok P w K mg base 2 "is_batch" ["products", "capacity", "group"] (spIsB T K) := by
  refine D.ok sc_is_batch (fun vs H Q E h => by obtain ⟨_, _, _, _, _, rfl, _⟩ := h; rfl) (fun f cdv A outer sh H vs Q E hr h => ?_)
  obtain ⟨pl, gl, cap, ps, g, rfl, ⟨vs, hpl, hps⟩, hlen, hg, hgl, q⟩ := h
  refine ⟨_, (pss_cons (ps_if (pt_cmpR op_gt (pe_callB (cr_sum rfl) (by rfl) G.sum boot_sum_ (pa_cons (pe_slice (r := rSlL K) sl_list (pv 2) (po_some pe_int) po_none) pa_nil)) (pv 1) (nomark _)) (pss_one (ps_ret pe_bl)) pss_nil)
    (pss_cons (ps_for PassesOwn.never rfl (pi_zip (by rfl) G.zip (pa_cons (pv 0) (pa_cons (pe_slice (r := rSlL K) sl_list (pv 2) (po_some pe_int) po_none) pa_nil))) (pg_tup rfl (pgs_cons (pg_name (i := 3) sc_is_batch.nd rfl (.inl rfl)) (pgs_cons (pg_name (i := 4) sc_is_batch.nd rfl (.inl rfl)) pgs_nil))) (pss_one (ps_if (PW.pt (pw_and (pt_cmpR op_gt (pv 4) pe_int (nomark _)) (pw_and1 (pt_not (pt_val (pe_ok o_can_be_baked hr (by decide) (by rfl) (pa_cons (pv 3) (pa_cons (pe_ix (r := rIxL K) ix_list (pv 2) pe_int (fun _ _ => rfl)) pa_nil)))))))) (pss_one (ps_ret pe_bl)) pss_nil)))
    (pss_one (ps_ret pe_bl)))), ?_⟩
  have ec : cutV (iv g) (some 1) none = iv (g.drop 1) := by
    rw [show (some (1 : Int)) = some ((1 : Nat) : Int) from rfl, cut_from, iv_drop]
  refine ⟨_, rfl, _, rfl, gl, iv g, rfl, SqL.of hg, fun p hp => ?_⟩
  have st1 : Stay T H (upd H p (.lst (cutV (iv g) (some 1) none))) := StayB.new hp
  refine ⟨p, g.drop 1, rfl, SqL.of (by rw [upd_same, ec]; rfl), _, rfl, _, _, rfl, rfl, _, rfl, ite2 (fun h => ?_) (fun h => ?_)⟩
  · refine qb (q _ st1) ?_
    have h' : cap < (g.drop 1).sum := of_decide_eq_true h
    unfold batchOk
    rw [decide_eq_false (show ¬ (g.drop 1).sum ≤ cap by omega), Bool.false_and]
  · have h' : (g.drop 1).sum ≤ cap := by
      have : ¬ cap < (g.drop 1).sum := fun z => h (decide_eq_true z)
      omega
    refine ⟨_, rfl, _, rfl, _, rfl, gl, iv g, rfl, SqL.of (Stay.lst st1 hg), fun r hr' => ?_⟩
    have st2 := st1.trans (StayB.new (T := T) (A := []) (o := .lst (cutV (iv g) (some 1) none)) hr')
    have hbk : batchOk ps cap g = (List.range ps.length).all fun i => !(decide (0 < (g.drop 1).getD i 0) && !bakes (pAt ps i) (g.getD 0 0)) := by
      unfold batchOk
      rw [decide_eq_true h', Bool.true_and]
    have hr2 : (upd (upd H p (.lst (cutV (iv g) (some 1) none))) r (.lst (cutV (iv g) (some 1) none))) r = some (.lst (iv (g.drop 1))) := by rw [upd_same, ec]
    have gdl : (g.drop 1).length = ps.length := by
      rw [List.length_drop, hgl]
      rfl
    refine ⟨pl, r, vs, iv (g.drop 1), rfl, SqL.of (Stay.lst st2 hpl), SqL.of hr2, for_it (walk_zip (K := K) (a := pl) (b := r) (xs := vs) (ys := iv (g.drop 1)) (n := ps.length) (by rw [iv_len, hps.len, gdl, Nat.min_self]))
      (fun i σ H' => Stay T H H' ∧ H' r = some (.lst (iv (g.drop 1))) ∧ ((List.range i).all fun i => !(decide (0 < (g.drop 1).getD i 0) && !bakes (pAt ps i) (g.getD 0 0))) = true ∧ ∃ (y3 y4 : Option V), σ = [some (.ref pl), some (.int cap), some (.ref gl), y3, y4])
      ⟨st2, hr2, rfl, none, none, rfl⟩ (fun i σ H' _ h => ⟨SqL.of (Stay.lst h.1 hpl), SqL.of h.2.1⟩) ?_ ?_⟩
    · rintro i x σ H1 H' hi ⟨st3, hr3, hall, y3, y4, rfl⟩ ⟨t, u, z, rfl, ht, rfl, hu, hz⟩
      have hu : vs[i]? = some u := hu
      have hz : (iv (g.drop 1))[i]? = some z := hz
      obtain ⟨hi', hp'⟩ := (Stay.psl st3 hps).inv hu
      rw [iv_getD (by omega)] at hz
      cases hz
      have st4 : Stay T H1 (upd H1 t (.tup [u, .int ((g.drop 1).getD i 0)])) := StayB.new ht
      have hpt := Stay.pr st4 hp'
      have hg4 := Stay.lst (st3.trans st4) hg
      have hr4 := Stay.lst st4 hr3
      have nx : ∀ (b : Bool), (!(decide (0 < (g.drop 1).getD i 0) && !bakes (pAt ps i) (g.getD 0 0))) = b → ((List.range (i + 1)).all fun i => !(decide (0 < (g.drop 1).getD i 0) && !bakes (pAt ps i) (g.getD 0 0))) = b := fun b e => by
        rw [List.range_succ, List.all_append, hall, Bool.true_and]
        simp only [List.all_cons, List.all_nil, Bool.and_true]
        exact e
      refine ⟨t, _, rfl, SqT.of upd_same, rfl, _, _, rfl, _, _, rfl, rfl, ?_⟩
      refine ⟨_, rfl, _, _, rfl, rfl, _, rfl, ite2 (fun h => ?_) (fun h => ?_)⟩
      · have g0 : (iv g)[0]? = some (.int (g.getD 0 0)) := iv_getD (by omega)
        refine ⟨_, rfl, _, rfl, _, _, _, _, rfl, rfl, SqL.of hg4, atI_nat (j := 0) g0, _, _, _, rfl, hpt, _, rfl, ite2 (fun h2 => ?_) (fun h2 => ?_)⟩
        · refine qb (q _ (st3.trans st4)) ?_
          have hb : bakes (pAt ps i) (g.getD 0 0) = false := not_t h2
          have z := nx false (by rw [h, hb]; rfl)
          rw [hbk]
          symm
          rw [List.all_eq_false] at z ⊢
          obtain ⟨j, hj, z⟩ := z
          exact ⟨j, List.mem_range.mpr (Nat.lt_of_lt_of_le (List.mem_range.mp hj) hi), z⟩
        · refine ⟨st3.trans st4, hr4, nx true ?_, _, _, rfl⟩
          have hb : bakes (pAt ps i) (g.getD 0 0) = true := not_f h2
          rw [hb, Bool.not_true, Bool.and_false]
          rfl
      · refine ⟨st3.trans st4, hr4, nx true ?_, _, _, rfl⟩
        have h' : decide (0 < (g.drop 1).getD i 0) = false := Bool.not_eq_true _ |>.mp h
        rw [h', Bool.false_and]
        rfl
    · rintro σ H' ⟨st3, hr3, hall, y3, y4, rfl⟩
      exact qb (q _ st3) (by rw [hbk, hall])
def spAll (T : List (Addr × Str)) (K : PySem.W.Frag) : Sp := fun vs H Q _ => ∃ (Gl : Addr) (i : Nat) (gs : List (List Int)), vs = [.ref Gl, .int i] ∧ GsAt H Gl gs ∧ gs.length ≤ 70 ∧ (∀ g ∈ gs, i + 1 < g.length) ∧
  ∀ H', Stay T H H' → Q (.int (gs.map fun g => g.getD (1 + i) 0).sum) H'
abbrev s_tins_in_all : Stmt := top 34
theorem sc_tins_in_all : FnScope ["groups", "place", "group"] ["groups", "place"] (defScope s_tins_in_all) := ⟨rfl, rfl, rfl, by decide +kernel, rfl, by decide +kernel, by decide +kernel⟩
theorem ok_tins_in_all (D : Dn K mg "tins_in_all" s_tins_in_all ["groups", "place"]) (G : Gb K mg) : Ok P w K mg base 1 "tins_in_all" ["groups", "place"] (spAll T K) := by
  refine D.ok sc_tins_in_all (fun vs H Q E h => by obtain ⟨_, _, _, rfl, _⟩ := h; rfl) (fun f cdv A outer sh H vs Q E hr h => ?_)
  obtain ⟨Gl, i, gs, rfl, ⟨vs, hG, hgs⟩, hlen, hil, q⟩ := h
  refine ⟨_, (pss_one (ps_ret (pe_callB (cr_sum rfl) (by rfl) G.sum boot_sum_ (pa_cons (pe_lc (own := [("group", 2)]) rfl sc_tins_in_all.nd (pi_list (pv 0)) (blkOk_by (own := [("group", 2)]) (N := ["groups", "place", "group"]) (sc := defScope s_tins_in_all) (by decide +kernel)) (fun _ _ _ _ _ => (pg_name (i := 2) sc_tins_in_all.nd rfl (Or.inl rfl))) (fun _ _ _ _ _ => pts_nil) (fun _ _ _ _ _ => (pe_ix (r := rIxL K) ix_list (pv 2) (pe_op op_add pe_int (pv 1)) (fun _ _ => rfl)))) pa_nil)))), ?_⟩
  refine ⟨_, rfl, Gl, rfl, ⟨_, SqL.of hG⟩, fun D hD => ?_⟩
  refine lc_it (walk_list (K := K) (a := Gl) (xs := vs)) (fun k H' => Stay T H H' ∧ H' D = some (.lst (iv ((gs.take k).map fun g => g.getD (1 + i) 0)))) ⟨StayB.new hD, by rw [upd_same]; rfl⟩ (fun k H' _ h => SqL.of (h.1.lst hG)) ?_ ?_
  · rintro k x H1 H' hk ⟨st, hd⟩ ⟨rfl, hx⟩
    obtain ⟨a, g, rfl, hgk, hga⟩ := (GsL.stay st hgs).inv hx
    have hgi := hil g (List.mem_of_getElem? hgk)
    refine ⟨rfl, lcYes ?_⟩
    refine ⟨_, rfl, _, rfl, _, _, rfl, rfl, _, _, _, _, rfl, rfl, SqL.of hga, at_of (j := 1 + i) (by omega) (iv_getD (by omega)), _, hd, ?_, StayB.wrN st hD hd, ?_⟩
    · rw [iv_len, List.length_map, List.length_take]
      exact Nat.lt_of_le_of_lt (show min k gs.length ≤ 70 by omega) (by decide)
    · rw [upd_same, List.take_add_one, hgk, List.map_append, iv_append]
      rfl
  · rintro H' ⟨st, hd⟩
    rw [hgs.len, List.take_length] at hd
    exact ⟨D, _, rfl, SqL.of hd, q H' st⟩
def spSol (T : List (Addr × Str)) (K : PySem.W.Frag) : Sp := fun vs H Q _ => ∃ (pl Gl : Addr) (cap : Int) (ps : List Product) (gs : List (List Int)), vs = [.ref pl, .int cap, .ref Gl] ∧ PsAt K H pl ps ∧ ps.length ≤ 6 ∧ GsAt H Gl gs ∧ gs.length ≤ 70 ∧ (∀ g ∈ gs, g.length = ps.length + 1) ∧
  ∀ H', Stay T H H' → Q (.bl (solOk ps cap gs)) H'
theorem dp_ints {H : Hp} : ∀ (l : List Int), DpAll K H (iv l) (l.map PyData.int)
  | [] => .nil
  | x :: r => .cons (.int x) (dp_ints r)
abbrev s_is_solution : Stmt := top 35
theorem sc_is_solution : FnScope ["products", "capacity", "groups", "group", "place"] ["products", "capacity", "groups"] (defScope s_is_solution) := ⟨rfl, rfl, rfl, by decide +kernel, rfl, by decide +kernel, by decide +kernel⟩
theorem ok_is_solution (D : Dn K mg "is_solution" s_is_solution ["products", "capacity", "groups"]) (G : Gb K mg) (o_is_batch : Ok P w K mg base 2 "is_batch" ["products", "capacity", "group"] (spIsB T K)) (o_tins_in_all : Ok P w K mg base 1 "tins_in_all" ["groups", "place"] (spAll T K))
    (o_tins_of : Ok P w K mg base 1 "tins_of" ["products"] (spTins T K)) : Ok P w K mg base 3 "is_solution" ["products", "capacity", "groups"] (spSol T K) := by
  refine D.ok sc_is_solution (fun vs H Q E h => by obtain ⟨_, _, _, _, _, rfl, _⟩ := h; rfl) (fun f cdv A outer sh H vs Q E hr h => ?_)
  obtain ⟨pl, Gl, cap, ps, gs, rfl, ⟨vs, hpl, hps⟩, hlen, ⟨ws, hG, hgs⟩, h70, hgl, q⟩ := h
  refine ⟨_, (pss_cons (ps_for PassesOwn.never rfl (pi_list (pv 2)) (pg_name (i := 3) sc_is_solution.nd rfl (.inl rfl)) (pss_one (ps_if (pt_not (pt_val (pe_ok o_is_batch hr (by decide) (by rfl) (pa_cons (pv 0) (pa_cons (pv 1) (pa_cons (pv 3) pa_nil)))))) (pss_one (ps_ret pe_bl)) pss_nil)))
    (pss_one (ps_ret (pe_cmpR (op_eqD hr.units) (pe_lc (own := [("place", 4)]) rfl sc_is_solution.nd (pi_range1 (by rfl) G.range (pa_cons (pe_callB call_len_seq (by rfl) G.len PySem.boot_len (pa_cons (pv 0) pa_nil)) pa_nil)) (blkOk_by (own := [("place", 4)]) (N := ["products", "capacity", "groups", "group", "place"]) (sc := defScope s_is_solution) (by decide +kernel)) (fun _ _ _ _ _ => (pg_name (i := 4) sc_is_solution.nd rfl (Or.inl rfl))) (fun _ _ _ _ _ => pts_nil) (fun _ _ _ _ _ => (pe_ok o_tins_in_all hr (by decide) (by rfl) (pa_cons (pv 2) (pa_cons (pv 4) pa_nil))))) (pe_ok o_tins_of hr (by decide) (by rfl) (pa_cons (pv 0) pa_nil)) (nomark _))))), ?_⟩
  refine ⟨_, rfl, Gl, rfl, ⟨_, SqL.of hG⟩, for_it (walk_list (K := K) (a := Gl) (xs := ws)) (fun k σ H' => Stay T H H' ∧ ((gs.take k).all (batchOk ps cap)) = true ∧ ∃ (y3 y4 : Option V), σ = [some (.ref pl), some (.int cap), some (.ref Gl), y3, y4])
    ⟨StayB.refl, rfl, none, none, rfl⟩ (fun k σ H' _ h => SqL.of (Stay.lst h.1 hG)) ?_ ?_⟩
  · rintro k x σ H1 H' hk ⟨st, hall, y3, y4, rfl⟩ ⟨rfl, hx⟩
    obtain ⟨a, g, rfl, hgk, hga⟩ := (GsL.stay st hgs).inv hx
    have nx : ((gs.take (k + 1)).all (batchOk ps cap)) = batchOk ps cap g := by
      rw [List.take_add_one, hgk, List.all_append, hall, Bool.true_and]
      simp
    refine ⟨_, rfl, _, rfl, _, rfl, pl, a, cap, ps, g, rfl, Stay.ps st ⟨vs, hpl, hps⟩, hlen, hga, hgl g (List.mem_of_getElem? hgk), fun H2 st2 => ⟨_, rfl, ite2 (fun h => ?_) (fun h => ?_)⟩⟩
    · have hb : batchOk ps cap g = false := not_t h
      refine qb (q _ (st.trans st2)) ?_
      unfold solOk
      have z : gs.all (batchOk ps cap) = false := List.all_eq_false.mpr ⟨g, List.mem_of_getElem? hgk, by rw [hb]; exact Bool.false_ne_true⟩
      rw [z, Bool.false_and]
    · exact ⟨st.trans st2, by rw [nx]; exact not_f h, _, _, rfl⟩
  · rintro σ H' ⟨st, hall, y3, y4, rfl⟩
    rw [hgs.len, List.take_length] at hall
    have hpl1 := Stay.lst st hpl
    have hps1 := Stay.psl st hps
    have hG1 := Stay.lst st hG
    have hgs1 := hgs.stay st
    refine ⟨_, rfl, pl, vs, rfl, .inl (SqL.of hpl1), _, rfl, by omega, ?_, fun D hD => ?_⟩
    · rw [hps.len]
      omega
    rw [hps.len, Int.toNat_natCast]
    refine lc_it (walk_range (lo := 0) (n := ps.length)) (fun k H2 => Stay T H' H2 ∧ H2 D = some (.lst (iv ((List.range k).map fun (i : Nat) => (gs.map fun g => g.getD (1 + i) 0).sum)))) ⟨StayB.new hD, by rw [upd_same]; rfl⟩ (fun k H' _ h => trivial) ?_ ?_
    · rintro k x H2 H3 hk ⟨st2, hd⟩ ⟨rfl, rfl⟩
      refine ⟨rfl, lcYes ?_⟩
      refine ⟨_, rfl, _, rfl, Gl, k, gs, ?_, GsAt.stay st2 ⟨ws, hG1, hgs1⟩, h70, fun g hg => by rw [hgl g hg]; omega, fun H4 st4 => ⟨_, Stay.lst st4 hd, ?_, StayB.wrN (st2.trans st4) hD (Stay.lst st4 hd), ?_⟩⟩
      · show [V.ref Gl, V.int (0 + (k : Int))] = _
        rw [Int.zero_add]
      · rw [iv_len, List.length_map, List.length_range]
        exact size6 (by omega)
      · rw [upd_same, List.range_succ, List.map_append, iv_append]
        rfl
    · rintro H2 ⟨st2, hd⟩
      refine ⟨_, rfl, pl, ps, rfl, Stay.ps (st.trans st2) ⟨vs, hpl, hps⟩, hlen, fun H3 r st3 nr hr' => ?_⟩
      refine ⟨.list (((List.range ps.length).map fun (i : Nat) => (gs.map fun g => g.getD (1 + i) 0).sum).map PyData.int), .list ((ps.map fun p => (p.tins : Int)).map PyData.int), .lst (SqL.of (Stay.lst st3 hd)) (dp_ints _), .lst (SqL.of hr') (dp_ints _), PySem.W.ke_shaped_ints _, PySem.W.ke_shaped_ints _, ?_⟩
      refine qb (q _ ((st.trans st2).trans st3)) ?_
      show PyData.eqvAll _ _ = _
      rw [PySem.W.ked_eqvAll]
      unfold solOk
      rw [hall, Bool.true_and]
end
end Ov

set_option Elab.async false
set_option linter.all false
set_option maxRecDepth 100000
set_option maxHeartbeats 4000000
namespace Ov
open PySem PySem.Spec PyProof.Rows L2 LamX
open Sr99 (Product Oven Batch)
section
variable {P : Program} {w : World} {K : PySem.W.Frag} {mg : Str → Option Value} {base : Heap} {T : List (Addr × Str)} {C : Addr}
/-! ### reading.py -/
/-- a call stands in the list -/
def RdAt (l : List Int) (at_ : Nat) (p : Int) (ns : List Int) : Prop := okNs p ns ∧ l[at_]? = some p ∧ (p = 15 → l[at_ + 1]? = some (ns.length : Int) ∧ (l.drop (at_ + 2)).take ns.length = ns ∧ at_ + 2 + ns.length ≤ l.length) ∧ (p ≠ 15 → (l.drop (at_ + 1)).take ns.length = ns ∧ at_ + 1 + ns.length ≤ l.length)
def stM (p : Int) (at_ : Nat) : Nat := if p = 15 then at_ + 2 else at_ + 1
def spRow : Sp := fun vs H Q _ => ∃ p, vs = [.int p] ∧ Q (.bl (decide (p = 15))) H
abbrev s_has_row : Stmt := top 62
theorem sc_has_row : FnScope ["number"] ["number"] (defScope s_has_row) := ⟨rfl, rfl, rfl, by decide +kernel, rfl, by decide +kernel, by decide +kernel⟩
theorem ok_has_row (D : Dn K mg "has_row" s_has_row ["number"]) (G : Gb K mg) : Ok P w K mg base 1 "has_row" ["number"] spRow := by
  refine D.ok sc_has_row (fun vs H Q E h => by obtain ⟨_, rfl, _⟩ := h; rfl) (fun f cdv A outer sh H vs Q E hr h => ?_)
  obtain ⟨p, rfl, q⟩ := h
  refine ⟨_, (pss_one (ps_ret (pe_cmpR op_eq (pv 0) (pe_gl G.CHECK_BATCHES (by rfl)) (nomark _)))), ?_⟩
  refine ⟨_, rfl, rfl, qb q ?_⟩
  rw [dec_int, Bool.eq_iff_iff, beq_iff_eq, decide_eq_true_eq]
def spStart (K : PySem.W.Frag) : Sp := fun vs H Q _ => ∃ (cl : Addr) (l : List Int) (at_ : Nat) (p : Int) (ns : List Int), vs = [.ref cl, .int at_] ∧ SqL K H cl (iv l) ∧ RdAt l at_ p ns ∧ Q (.int (stM p at_ : Nat)) H
abbrev s_start_of_numbers : Stmt := top 63
theorem sc_start_of_numbers : FnScope ["calls", "at"] ["calls", "at"] (defScope s_start_of_numbers) := ⟨rfl, rfl, rfl, by decide +kernel, rfl, by decide +kernel, by decide +kernel⟩
theorem ok_start_of_numbers (D : Dn K mg "start_of_numbers" s_start_of_numbers ["calls", "at"]) (G : Gb K mg) (o_has_row : Ok P w K mg base 1 "has_row" ["number"] spRow) : Ok P w K mg base 2 "start_of_numbers" ["calls", "at"] (spStart K) := by
  refine D.ok sc_start_of_numbers (fun vs H Q E h => by obtain ⟨_, _, _, _, _, rfl, _⟩ := h; rfl) (fun f cdv A outer sh H vs Q E hr h => ?_)
  obtain ⟨cl, l, at_, p, ns, rfl, hl, rd, q⟩ := h
  refine ⟨_, (pss_one (ps_ret (pe_ifExp (pt_val (pe_ok o_has_row hr (by decide) (by rfl) (pa_cons (pe_ix (r := rIxL K) ix_list (pv 0) (pv 1) (fun _ _ => rfl)) pa_nil))) (pe_op op_add (pv 1) pe_int) (pe_op op_add (pv 1) pe_int)))), ?_⟩
  refine ⟨_, rfl, _, rfl, _, _, _, _, rfl, rfl, hl, atI_nat (iv_get rd.2.1), p, rfl, _, rfl, ite2 (fun h => ?_) (fun h => ?_)⟩
  · have h' : p = 15 := of_decide_eq_true h
    refine ⟨_, rfl, _, _, rfl, rfl, qi q ?_⟩
    unfold stM
    rw [if_pos h']
    rfl
  · have h' : ¬ p = 15 := fun z => h (decide_eq_true z)
    refine ⟨_, rfl, _, _, rfl, rfl, qi q ?_⟩
    unfold stM
    rw [if_neg h']
    rfl
def spEnd (K : PySem.W.Frag) : Sp := fun vs H Q _ => ∃ (cl : Addr) (l : List Int) (at_ : Nat) (p : Int) (ns : List Int), vs = [.ref cl, .int at_] ∧ SqL K H cl (iv l) ∧ RdAt l at_ p ns ∧ Q (.int (stM p at_ + ns.length : Nat)) H
abbrev s_end_of_call : Stmt := top 64
theorem sc_end_of_call : FnScope ["calls", "at", "many"] ["calls", "at"] (defScope s_end_of_call) := ⟨rfl, rfl, rfl, by decide +kernel, rfl, by decide +kernel, by decide +kernel⟩
theorem ok_end_of_call (D : Dn K mg "end_of_call" s_end_of_call ["calls", "at"]) (G : Gb K mg) (o_has_row : Ok P w K mg base 1 "has_row" ["number"] spRow) (o_start_of_numbers : Ok P w K mg base 2 "start_of_numbers" ["calls", "at"] (spStart K)) : Ok P w K mg base 3 "end_of_call" ["calls", "at"] (spEnd K) := by
  refine D.ok sc_end_of_call (fun vs H Q E h => by obtain ⟨_, _, _, _, _, rfl, _⟩ := h; rfl) (fun f cdv A outer sh H vs Q E hr h => ?_)
  obtain ⟨cl, l, at_, p, ns, rfl, hl, rd, q⟩ := h
  refine ⟨_, (pss_cons (ps_set (i := 2) sc_end_of_call.nd rfl (.inl rfl) (pe_ifExp (pt_val (pe_ok o_has_row hr (by decide) (by rfl) (pa_cons (pe_ix (r := rIxL K) ix_list (pv 0) (pv 1) (fun _ _ => rfl)) pa_nil))) (pe_ix (r := rIxL K) ix_list (pv 0) (pe_op op_add (pv 1) pe_int) (fun _ _ => rfl)) (pe_ix (r := rIxT K) ix_tup (pe_glT G.MANY_NUMBERS (by rfl)) (pe_ix (r := rIxL K) ix_list (pv 0) (pv 1) (fun _ _ => rfl)) (fun _ _ => rfl))))
    (pss_one (ps_ret (pe_op op_add (pe_ok o_start_of_numbers hr (by decide) (by rfl) (pa_cons (pv 0) (pa_cons (pv 1) pa_nil))) (pv 2))))), ?_⟩
  refine ⟨_, rfl, _, rfl, _, _, _, _, rfl, rfl, hl, atI_nat (iv_get rd.2.1), p, rfl, _, rfl, ite2 (fun h => ?_) (fun h => ?_)⟩
  · have h' : p = 15 := of_decide_eq_true h
    refine ⟨_, rfl, _, rfl, _, _, rfl, rfl, _, _, _, _, rfl, rfl, hl, at_of (j := at_ + 1) (by omega) (iv_get (rd.2.2.1 h').1), ?_⟩
    refine ⟨_, rfl, _, rfl, cl, l, at_, p, ns, rfl, hl, rd, _, rfl, _, _, rfl, rfl, q⟩
  · have h' : ¬ p = 15 := fun z => h (decide_eq_true z)
    obtain ⟨h0, h16, _, hc⟩ : 0 ≤ p ∧ p ≤ 16 ∧ p ≠ 15 ∧ cnt[p.toNat]? = some ns.length := by
      rcases rd.1 with e | e
      · exact absurd e.1 h'
      · exact e
    have hm : manyV[p.toNat]? = some (.int (ns.length : Nat)) := by
      have e : manyV = nv cnt := rfl
      rw [e]
      unfold nv
      refine iv_get ?_
      unfold SrCommon.natsToInts
      rw [List.getElem?_map, hc]
      rfl
    intro ma hma
    refine ⟨_, rfl, _, rfl, _, _, _, _, rfl, rfl, hl, atI_nat (iv_get rd.2.1), ma, manyV, p, _, rfl, rfl, hma, at_of (j := p.toNat) (by omega) hm, ?_⟩
    refine ⟨_, rfl, _, rfl, cl, l, at_, p, ns, rfl, hl, rd, _, rfl, _, _, rfl, rfl, q⟩
def spNums (T : List (Addr × Str)) (K : PySem.W.Frag) : Sp := fun vs H Q _ => ∃ (cl : Addr) (l : List Int) (at_ : Nat) (p : Int) (ns : List Int), vs = [.ref cl, .int at_] ∧ SqL K H cl (iv l) ∧ RdAt l at_ p ns ∧
  ∀ H' r, Stay T H H' → H r = none → H' r = some (.lst (iv ns)) → Q (.ref r) H'
abbrev s_numbers_of : Stmt := top 65
theorem sc_numbers_of : FnScope ["calls", "at"] ["calls", "at"] (defScope s_numbers_of) := ⟨rfl, rfl, rfl, by decide +kernel, rfl, by decide +kernel, by decide +kernel⟩
theorem ok_numbers_of (D : Dn K mg "numbers_of" s_numbers_of ["calls", "at"]) (G : Gb K mg) (o_start_of_numbers : Ok P w K mg base 2 "start_of_numbers" ["calls", "at"] (spStart K)) (o_end_of_call : Ok P w K mg base 3 "end_of_call" ["calls", "at"] (spEnd K)) : Ok P w K mg base 4 "numbers_of" ["calls", "at"] (spNums T K) := by
  refine D.ok sc_numbers_of (fun vs H Q E h => by obtain ⟨_, _, _, _, _, rfl, _⟩ := h; rfl) (fun f cdv A outer sh H vs Q E hr h => ?_)
  obtain ⟨cl, l, at_, p, ns, rfl, hl, rd, q⟩ := h
  refine ⟨_, (pss_one (ps_ret (pe_slice (r := rSlL K) sl_list (pv 0) (po_some (pe_ok o_start_of_numbers hr (by decide) (by rfl) (pa_cons (pv 0) (pa_cons (pv 1) pa_nil)))) (po_some (pe_ok o_end_of_call hr (by decide) (by rfl) (pa_cons (pv 0) (pa_cons (pv 1) pa_nil))))))), ?_⟩
  have e : cutV (iv l) (some (stM p at_ : Nat)) (some ((stM p at_ + ns.length : Nat) : Int)) = iv ns := by
    unfold stM
    by_cases h : p = 15
    · rw [if_pos h, cut_both _ _ _ (Nat.le_add_right _ _) (by rw [iv_len]; exact (rd.2.2.1 h).2.2), Nat.add_sub_cancel_left, iv_drop, iv_take, (rd.2.2.1 h).2.1]
    · rw [if_neg h, cut_both _ _ _ (Nat.le_add_right _ _) (by rw [iv_len]; exact (rd.2.2.2 h).2), Nat.add_sub_cancel_left, iv_drop, iv_take, (rd.2.2.2 h).1]
  refine ⟨_, rfl, _, rfl, _, rfl, cl, l, at_, p, ns, rfl, hl, rd, _, rfl, _, rfl, _, rfl, cl, l, at_, p, ns, rfl, hl, rd, _, rfl, cl, iv l, rfl, hl, fun r hr' => ?_⟩
  exact q _ r (StayB.new hr') hr' (by rw [upd_same, e])
end
end Ov

set_option Elab.async false
set_option linter.all false
set_option maxRecDepth 100000
set_option maxHeartbeats 4000000
namespace Ov
open PySem PySem.Spec PyProof.Rows L2 LamX
open Sr99 (Product Oven Batch)
section
variable {P : Program} {w : World} {K : PySem.W.Frag} {mg : Str → Option Value} {base : Heap} {T : List (Addr × Str)} {C : Addr}
/-! ### queries.py -/
theorem size54 {n : Nat} (h : n ≤ 1000) : n < sizeLine := Nat.lt_of_le_of_lt h (by decide)
abbrev OkPl (P : Program) (w : World) (K : PySem.W.Frag) (mg : Str → Option Value) (base : Heap) (T : List (Addr × Str)) : Prop := Ok P w K mg base 6 "planned" ["products", "capacity"] (spPlanned T K)
def tps (o : Oven) : List Int := SrCommon.natsToInts (Sr99.temperaturesOf (Sr99.batches o))
def spPT (T : List (Addr × Str)) (K : PySem.W.Frag) (C : Addr) : Sp := fun vs H Q _ => ∃ (a : Addr) (o : Oven), vs = [.ref a] ∧ OvAt K C H a (some o) ∧ OkO o ∧ Tabs T H ∧
  ∀ H' p, Stay T H H' → New H p → H' p = some (.lst (iv (tps o))) → (Sr99.batches o).length ≤ 54 → Q (.ref p) H'
abbrev s_planned_temperatures : Stmt := top 47
theorem sc_planned_temperatures : FnScope ["oven", "temperature", "put"] ["oven"] (defScope s_planned_temperatures) := ⟨rfl, rfl, rfl, by decide +kernel, rfl, by decide +kernel, by decide +kernel⟩
theorem ok_planned_temperatures (D : Dn K mg "planned_temperatures" s_planned_temperatures ["oven"]) (G : Gb K mg) (cl : ClT K mg C) (o_planned : OkPl P w K mg base T) : Ok P w K mg base 7 "planned_temperatures" ["oven"] (spPT T K C) := by
  refine D.ok sc_planned_temperatures (fun vs H Q E h => by obtain ⟨_, _, rfl, _⟩ := h; rfl) (fun f cdv A outer sh H vs Q E hr h => ?_)
  obtain ⟨a, o, rfl, ov, ok, tb, q⟩ := h
  obtain ⟨dx, pl, ha, hps⟩ := id ov
  refine ⟨_, (pss_one (ps_ret (pe_lc (own := [("temperature", 1), ("put", 2)]) (g := gTup K 2 (gCons (gName 1) (gCons (gName 2) gNil))) rfl sc_planned_temperatures.nd (pi_list (pe_ok o_planned hr (by decide) (by rfl) (pa_cons (pe_fld (pv 0) rfl) (pa_cons (pe_fld (pv 0) rfl) pa_nil)))) (blkOk_by (own := [("temperature", 1), ("put", 2)]) (N := ["oven", "temperature", "put"]) (sc := defScope s_planned_temperatures) (by decide +kernel)) (fun _ _ _ _ _ => (pg_tup rfl (pgs_cons (pg_name (i := 1) sc_planned_temperatures.nd rfl (Or.inl rfl)) (pgs_cons (pg_name (i := 2) sc_planned_temperatures.nd rfl (Or.inl rfl)) pgs_nil)))) (fun _ _ _ _ _ => pts_nil) (fun _ _ _ _ _ => (pv 1))))), ?_⟩
  refine ⟨_, rfl, a, C, dx, _, _, rfl, ha, cl.cl, cl.nP, oF_pro _ _, _, rfl, a, C, dx, _, _, rfl, ha, cl.cl, cl.nC, oF_cap _ _, pl, o, rfl, ok, hps, tb, fun H1 bl st1 nbl hbl h54 => ?_⟩
  obtain ⟨ws, hws, bs⟩ := hbl
  refine ⟨bl, rfl, ⟨_, SqL.of hws⟩, fun D hD => ?_⟩
  refine lc_it (walk_list (K := K) (a := bl) (xs := ws)) (fun k H' => Stay T H1 H' ∧ H' D = some (.lst (iv ((tps o).take k)))) ⟨StayB.new hD, by rw [upd_same]; rfl⟩ (fun k H' _ h => SqL.of (h.1.lst hws)) ?_ ?_
  · rintro k x H2 H' hk ⟨st, hd⟩ ⟨rfl, hx⟩
    obtain ⟨b, hb, t, ql, rfl, ht, hq, hn⟩ := (bs.stay st).inv hx
    have hk' : k < (Sr99.batches o).length := (List.getElem?_eq_some_iff.mp hb).1
    refine ⟨t, _, rfl, ht, rfl, _, _, rfl, _, _, rfl, rfl, rfl, lcYes ?_⟩
    refine ⟨_, rfl, _, hd, ?_, StayB.wrN st hD hd, ?_⟩
    · rw [iv_len, List.length_take]
      exact size54 (by omega)
    · have e : (tps o)[k]? = some (b.temperature : Int) := by
        unfold tps SrCommon.natsToInts Sr99.temperaturesOf
        rw [List.getElem?_map, List.getElem?_map, hb]
        rfl
      rw [upd_same, List.take_add_one, e, iv_append]
      rfl
  · rintro H' ⟨st, hd⟩
    have e : (tps o).length = ws.length := by
      unfold tps SrCommon.natsToInts Sr99.temperaturesOf
      rw [List.length_map, List.length_map, bs.len]
    rw [← e, List.take_length] at hd
    exact q H' D (st1.trans st) (New.back st1 (New.of hD)) hd h54
abbrev s_min_batches : Stmt := top 48
theorem sc_min_batches : FnScope ["oven", "numbers"] ["oven", "numbers"] (defScope s_min_batches) := ⟨rfl, rfl, rfl, by decide +kernel, rfl, by decide +kernel, by decide +kernel⟩
theorem ok_min_batches (D : Dn K mg "min_batches" s_min_batches ["oven", "numbers"]) (G : Gb K mg) (cl : ClT K mg C) (o_planned : OkPl P w K mg base T) : Ok P w K mg base 7 "min_batches" ["oven", "numbers"] (spOp T K C 6 (preN 0)) := by
  refine D.ok sc_min_batches (fun vs H Q E h => by obtain ⟨_, _, _, _, rfl, _⟩ := h; rfl) (fun f cdv A outer sh H vs Q E hr h => ?_)
  obtain ⟨a, nl, s, ns, rfl, ov, ok, hnl, tb, pre, q⟩ := h
  match s, ns, pre with
  | none, _, pre => exact absurd rfl pre.1
  | some o, [], _ =>
    refine ⟨_, (pss_one (ps_ret (pe_lst (pa_cons (pe_callB call_len_seq (by rfl) G.len PySem.boot_len (pa_cons (pe_ok o_planned hr (by decide) (by rfl) (pa_cons (pe_fld (pv 0) rfl) (pa_cons (pe_fld (pv 0) rfl) pa_nil))) pa_nil)) pa_nil)))), ?_⟩
    rw [step_min] at q
    obtain ⟨dx, pl, ha, hps⟩ := id ov
    refine ⟨_, rfl, a, C, dx, _, _, rfl, ha, cl.cl, cl.nP, oF_pro _ _, _, rfl, a, C, dx, _, _, rfl, ha, cl.cl, cl.nC, oF_cap _ _, pl, o, rfl, ok o rfl, hps, tb, fun H1 bl st1 nbl hbl h54 => ?_⟩
    obtain ⟨ws, hws, bs⟩ := hbl
    refine ⟨bl, ws, rfl, .inl (SqL.of hws), (by show 1 ≤ sizeLine; decide), give q st1.b (ov.stay st1) ?_⟩
    rw [bs.len]
    rfl
abbrev s_temperatures : Stmt := top 50
theorem sc_temperatures : FnScope ["oven", "numbers", "found"] ["oven", "numbers"] (defScope s_temperatures) := ⟨rfl, rfl, rfl, by decide +kernel, rfl, by decide +kernel, by decide +kernel⟩
theorem ok_temperatures (D : Dn K mg "temperatures" s_temperatures ["oven", "numbers"]) (G : Gb K mg) (cl : ClT K mg C) (o_planned_temperatures : Ok P w K mg base 7 "planned_temperatures" ["oven"] (spPT T K C)) : Ok P w K mg base 8 "temperatures" ["oven", "numbers"] (spOp T K C 8 (preN 0)) := by
  refine D.ok sc_temperatures (fun vs H Q E h => by obtain ⟨_, _, _, _, rfl, _⟩ := h; rfl) (fun f cdv A outer sh H vs Q E hr h => ?_)
  obtain ⟨a, nl, s, ns, rfl, ov, ok, hnl, tb, pre, q⟩ := h
  match s, ns, pre with
  | none, _, pre => exact absurd rfl pre.1
  | some o, [], _ =>
    refine ⟨_, (pss_cons (ps_set (i := 2) sc_temperatures.nd rfl (.inl rfl) (pe_ok o_planned_temperatures hr (by decide) (by rfl) (pa_cons (pv 0) pa_nil)))
    (pss_one (ps_ret (pe_op op_cat (pe_lst (pa_cons (pe_callB call_len_seq (by rfl) G.len PySem.boot_len (pa_cons (pv 2) pa_nil)) pa_nil)) (pv 2))))), ?_⟩
    rw [step_temps] at q
    refine ⟨_, rfl, a, o, rfl, ov, ok o rfl, tb, fun H1 tl st1 ntl htl h54 => ?_⟩
    have tl_len : (tps o).length = (Sr99.batches o).length := by
      unfold tps SrCommon.natsToInts Sr99.temperaturesOf
      rw [List.length_map, List.length_map]
    refine ⟨_, rfl, tl, iv (tps o), rfl, .inl (SqL.of htl), (by show 1 ≤ sizeLine; decide), fun l hl => ?_⟩
    have st2 : Stay T H1 (upd H1 l (.lst [.int (iv (tps o)).length])) := StayB.new hl
    refine ⟨_, rfl, l, tl, _, _, rfl, rfl, upd_same, Stay.lst st2 htl, ?_, give q (st1.trans st2).b (ov.stay (st1.trans st2)) ?_⟩
    · rw [iv_len]
      exact size7 (by show 1 + (tps o).length ≤ 1000; omega)
    · rw [iv_len, tl_len]
      rfl
theorem batchesFrom_tins {o : Oven} : ∀ (fuel : Nat) (rem : List Nat) (b : Batch), b ∈ Sr99.batchesFrom o fuel rem → b.tins.length = o.products.length
  | 0, _, _, h => absurd h (by simp [Sr99.batchesFrom])
  | fuel + 1, rem, b, h => by
    rw [Sr99.batchesFrom] at h
    split at h
    · cases h
    · rcases List.mem_cons.mp h with h | h
      · rw [h]
        exact fill_len o rem _
      · exact batchesFrom_tins fuel _ b h
theorem batch_tins {o : Oven} {i : Nat} {b : Batch} (h : (Sr99.batches o)[i]? = some b) : b.tins.length = o.products.length := batchesFrom_tins _ _ _ (List.mem_of_getElem? h)
abbrev s_batch : Stmt := top 49
theorem sc_batch : FnScope ["oven", "numbers", "batches", "temperature", "put"] ["oven", "numbers"] (defScope s_batch) := ⟨rfl, rfl, rfl, by decide +kernel, rfl, by decide +kernel, by decide +kernel⟩
theorem ok_batch (D : Dn K mg "batch" s_batch ["oven", "numbers"]) (G : Gb K mg) (cl : ClT K mg C) (o_planned : OkPl P w K mg base T) : Ok P w K mg base 7 "batch" ["oven", "numbers"] (spOp T K C 7 (preN 1)) := by
  refine D.ok sc_batch (fun vs H Q E h => by obtain ⟨_, _, _, _, rfl, _⟩ := h; rfl) (fun f cdv A outer sh H vs Q E hr h => ?_)
  obtain ⟨a, nl, s, ns, rfl, ov, ok, hnl, tb, pre, q⟩ := h
  match s, ns, pre with
  | none, _, pre => exact absurd rfl pre.1
  | some o, [x], _ =>
    refine ⟨_, (pss_cons (ps_set (i := 2) sc_batch.nd rfl (.inl rfl) (pe_ok o_planned hr (by decide) (by rfl) (pa_cons (pe_fld (pv 0) rfl) (pa_cons (pe_fld (pv 0) rfl) pa_nil))))
    (pss_cons (ps_if (pt_not (pt_chain op_le op_lt pe_int (pe_ix (r := rIxL K) ix_list (pv 1) pe_int (fun _ _ => rfl)) (pe_callB call_len_seq (by rfl) G.len PySem.boot_len (pa_cons (pv 2) pa_nil)))) (pss_one (ps_ret (pe_lst (pa_cons (pe_gl G.NOT_THERE (by rfl)) pa_nil)))) pss_nil)
    (pss_cons (ps_asg (pe_ix (r := rIxL K) ix_list (pv 2) (pe_ix (r := rIxL K) ix_list (pv 1) pe_int (fun _ _ => rfl)) (fun _ _ => rfl)) (pg_tup rfl (pgs_cons (pg_name (i := 3) sc_batch.nd rfl (.inl rfl)) (pgs_cons (pg_name (i := 4) sc_batch.nd rfl (.inl rfl)) pgs_nil))))
    (pss_one (ps_ret (pe_op op_cat (pe_lst (pa_cons (pv 3) pa_nil)) (pv 4))))))), ?_⟩
    obtain ⟨dx, pl, ha, hps⟩ := id ov
    refine ⟨_, rfl, a, C, dx, _, _, rfl, ha, cl.cl, cl.nP, oF_pro _ _, _, rfl, a, C, dx, _, _, rfl, ha, cl.cl, cl.nC, oF_cap _ _, pl, o, rfl, ok o rfl, hps, tb, fun H1 bl st1 nbl hbl h54 => ?_⟩
    obtain ⟨ws, hws, bs⟩ := hbl
    have hnl1 := Stay.lst st1 hnl
    have ov1 := ov.stay st1
    refine ⟨_, rfl, _, _, _, _, rfl, rfl, SqL.of hnl1, atI_nat (j := 0) rfl, ?_⟩
    have bad : ¬ (0 ≤ x ∧ x < (ws.length : Int)) → stepM (some o) 7 [x] = (some o, [-2]) := fun z => by
      rw [step_batch]
      by_cases hx : x < 0
      · rw [if_pos hx]
      · rw [if_neg hx, List.getElem?_eq_none (by rw [← bs.len]; omega)]
    refine ⟨_, _, rfl, rfl, _, rfl, ite2 (fun h1 => ?_) (fun h1 => ?_)⟩
    · refine ⟨_, rfl, bl, ws, rfl, .inl (SqL.of hws), _, _, rfl, rfl, _, rfl, ite2 (fun h2 => ?_) (fun h2 => ?_)⟩
      · refine ⟨size7 (by decide), give (T := T) (l := [-2]) ?_ st1.b ov1 rfl⟩
        rw [bad (fun z => by rw [decide_eq_true z.2] at h2; cases h2)] at q
        exact q
      · have h0 : 0 ≤ x := of_decide_eq_true h1
        have h3 : x < (ws.length : Int) := of_decide_eq_true (not_f h2)
        have hv : ws[x.toNat]? = some ws[x.toNat] := List.getElem?_eq_getElem (by omega)
        obtain ⟨b, hb, t, ql, e, ht, hq, hn⟩ := bs.inv hv
        rw [e] at hv
        rw [step_batch, if_neg (by omega), hb] at q
        have btl := batch_tins hb
        have few := (ok o rfl).few
        refine ⟨_, rfl, _, rfl, _, _, _, _, rfl, rfl, SqL.of hnl1, atI_nat (j := 0) rfl, _, _, _, _, rfl, rfl, SqL.of hws, at_of (j := x.toNat) (by omega) hv, t, _, rfl, ht, rfl, _, _, rfl, _, _, rfl, rfl, ?_⟩
        refine ⟨_, rfl, (by show 1 ≤ sizeLine; decide), fun l hl => ?_⟩
        have st2 := st1.trans (StayB.new (T := T) (A := []) (o := .lst [.int (b.temperature : Int)]) hl)
        refine ⟨_, rfl, l, ql, _, _, rfl, rfl, upd_same, Stay.lst (T := T) (StayB.new hl) hq, ?_, give q st2.b (ov.stay st2) rfl⟩
        rw [nv_len, btl]
        exact size7 (by show 1 + _ ≤ 1000; omega)
    · refine ⟨_, rfl, iteT ⟨size7 (by decide), give (T := T) (l := [-2]) ?_ st1.b ov1 rfl⟩⟩
      rw [bad (fun z => h1 (decide_eq_true z.1))] at q
      exact q
theorem best_form {o : Oven} (x : Int) (hx : 0 ≤ x) {us : List Int} (hp : us.Perm (tps o)) (hs : us.Pairwise (· ≤ ·)) : bestI x us = SrCommon.natsToInts (Sr99.temperaturesOf (Sr99.orderBatches x.toNat (Sr99.batches o))) := by
  have z := best_is x.toNat (Sr99.batches o)
  rw [Int.toNat_of_nonneg hx] at z
  rw [rising_is (Sr99.batches o) hp hs]
  exact z
theorem tcI_form (x : Int) (hx : 0 ≤ x) (l : List Nat) : tcI x (SrCommon.natsToInts l) = ((Sr99.totalChange x.toNat l : Nat) : Int) := by
  have z := tcI_eq x.toNat l
  rw [Int.toNat_of_nonneg hx] at z
  exact z
theorem order_len54 {o : Oven} (t : Nat) (h : (Sr99.batches o).length ≤ 54) : (SrCommon.natsToInts (Sr99.temperaturesOf (Sr99.orderBatches t (Sr99.batches o)))).length ≤ 54 := by
  have e : (Sr99.orderBatches t (Sr99.batches o)).length = (Sr99.batches o).length := by
    have := (sortT_perm (Sr99.batches o)).length_eq
    unfold Sr99.orderBatches
    dsimp only
    split
    · rw [List.length_reverse, this]
    · exact this
  unfold SrCommon.natsToInts Sr99.temperaturesOf
  rw [List.length_map, List.length_map, e]
  exact h
abbrev s_best_order : Stmt := top 51
theorem sc_best_order : FnScope ["oven", "numbers", "start", "found"] ["oven", "numbers"] (defScope s_best_order) := ⟨rfl, rfl, rfl, by decide +kernel, rfl, by decide +kernel, by decide +kernel⟩
theorem ok_best_order (D : Dn K mg "best_order" s_best_order ["oven", "numbers"]) (G : Gb K mg) (cl : ClT K mg C) (o_is_temperature : Ok P w K mg base 1 "is_temperature" ["number"] (spI1 Sr99.isTemperature)) (o_best_ordered : Ok P w K mg base 2 "best_ordered" ["start", "temperatures"] (spBest T K)) (o_total_change : Ok P w K mg base 1 "total_change" ["start", "temperatures"] (spTotal K))
    (o_planned_temperatures : Ok P w K mg base 7 "planned_temperatures" ["oven"] (spPT T K C)) : Ok P w K mg base 8 "best_order" ["oven", "numbers"] (spOp T K C 9 (preN 1)) := by
  refine D.ok sc_best_order (fun vs H Q E h => by obtain ⟨_, _, _, _, rfl, _⟩ := h; rfl) (fun f cdv A outer sh H vs Q E hr h => ?_)
  obtain ⟨a, nl, s, ns, rfl, ov, ok, hnl, tb, pre, q⟩ := h
  match s, ns, pre with
  | none, _, pre => exact absurd rfl pre.1
  | some o, [x], _ =>
    refine ⟨_, (pss_cons (ps_set (i := 2) sc_best_order.nd rfl (.inl rfl) (pe_ix (r := rIxL K) ix_list (pv 1) pe_int (fun _ _ => rfl)))
    (pss_cons (ps_if (pt_not (pt_val (pe_ok o_is_temperature hr (by decide) (by rfl) (pa_cons (pv 2) pa_nil)))) (pss_one (ps_ret (pe_lst (pa_cons (pe_gl G.OUT_OF_RANGE (by rfl)) pa_nil)))) pss_nil)
    (pss_cons (ps_set (i := 3) sc_best_order.nd rfl (.inl rfl) (pe_ok o_best_ordered hr (by decide) (by rfl) (pa_cons (pv 2) (pa_cons (pe_ok o_planned_temperatures hr (by decide) (by rfl) (pa_cons (pv 0) pa_nil)) pa_nil))))
    (pss_one (ps_ret (pe_op op_cat (pe_lst (pa_cons (pe_ok o_total_change hr (by decide) (by rfl) (pa_cons (pv 2) (pa_cons (pv 3) pa_nil))) pa_nil)) (pv 3))))))), ?_⟩
    rw [step_best] at q
    refine ⟨_, rfl, _, _, _, _, rfl, rfl, SqL.of hnl, atI_nat (j := 0) rfl, ?_⟩
    refine ⟨_, rfl, _, rfl, _, rfl, ite2 (fun h1 => ?_) (fun h1 => ?_)⟩
    · refine ⟨size7 (by decide), give (T := T) (l := [-22]) ?_ StayB.refl ov rfl⟩
      rw [if_pos (not_t h1)] at q
      exact q
    · have hx := not_f h1
      rw [if_neg (by rw [hx]; exact Bool.noConfusion)] at q
      refine ⟨_, rfl, _, rfl, a, o, rfl, ov, ok o rfl, tb, fun H1 tl st1 ntl htl h54 => ?_⟩
      refine ⟨x, tl, tps o, rfl, SqL.of htl, fun H2 r us st2 nr hp hs hr2 => ?_⟩
      have st12 := st1.trans st2
      rw [best_form x (temp_true hx).1 hp hs] at hr2
      have hol := order_len54 x.toNat h54
      have htc := tcI_form x (temp_true hx).1 (Sr99.temperaturesOf (Sr99.orderBatches x.toNat (Sr99.batches o)))
      refine ⟨_, rfl, _, rfl, x, r, _, rfl, SqL.of hr2, (by show 1 ≤ sizeLine; decide), fun l hl => ?_⟩
      have st3 := st12.trans (StayB.new (T := T) (A := []) (o := .lst [.int (tcI x (SrCommon.natsToInts (Sr99.temperaturesOf (Sr99.orderBatches x.toNat (Sr99.batches o)))))]) hl)
      refine ⟨_, rfl, l, r, _, _, rfl, rfl, upd_same, Stay.lst (T := T) (StayB.new hl) hr2, ?_, give q st3.b (ov.stay st3) ?_⟩
      · rw [iv_len]
        exact size7 (by show 1 + _ ≤ 1000; omega)
      · rw [htc]
        rfl
abbrev s_min_change : Stmt := top 52
theorem sc_min_change : FnScope ["oven", "numbers", "start"] ["oven", "numbers"] (defScope s_min_change) := ⟨rfl, rfl, rfl, by decide +kernel, rfl, by decide +kernel, by decide +kernel⟩
theorem ok_min_change (D : Dn K mg "min_change" s_min_change ["oven", "numbers"]) (G : Gb K mg) (cl : ClT K mg C) (o_is_temperature : Ok P w K mg base 1 "is_temperature" ["number"] (spI1 Sr99.isTemperature)) (o_best_ordered : Ok P w K mg base 2 "best_ordered" ["start", "temperatures"] (spBest T K)) (o_total_change : Ok P w K mg base 1 "total_change" ["start", "temperatures"] (spTotal K))
    (o_planned_temperatures : Ok P w K mg base 7 "planned_temperatures" ["oven"] (spPT T K C)) : Ok P w K mg base 8 "min_change" ["oven", "numbers"] (spOp T K C 10 (preN 1)) := by
  refine D.ok sc_min_change (fun vs H Q E h => by obtain ⟨_, _, _, _, rfl, _⟩ := h; rfl) (fun f cdv A outer sh H vs Q E hr h => ?_)
  obtain ⟨a, nl, s, ns, rfl, ov, ok, hnl, tb, pre, q⟩ := h
  match s, ns, pre with
  | none, _, pre => exact absurd rfl pre.1
  | some o, [x], _ =>
    refine ⟨_, (pss_cons (ps_set (i := 2) sc_min_change.nd rfl (.inl rfl) (pe_ix (r := rIxL K) ix_list (pv 1) pe_int (fun _ _ => rfl)))
    (pss_cons (ps_if (pt_not (pt_val (pe_ok o_is_temperature hr (by decide) (by rfl) (pa_cons (pv 2) pa_nil)))) (pss_one (ps_ret (pe_lst (pa_cons (pe_gl G.OUT_OF_RANGE (by rfl)) pa_nil)))) pss_nil)
    (pss_one (ps_ret (pe_lst (pa_cons (pe_ok o_total_change hr (by decide) (by rfl) (pa_cons (pv 2) (pa_cons (pe_ok o_best_ordered hr (by decide) (by rfl) (pa_cons (pv 2) (pa_cons (pe_ok o_planned_temperatures hr (by decide) (by rfl) (pa_cons (pv 0) pa_nil)) pa_nil))) pa_nil))) pa_nil)))))), ?_⟩
    rw [step_minch] at q
    refine ⟨_, rfl, _, _, _, _, rfl, rfl, SqL.of hnl, atI_nat (j := 0) rfl, ?_⟩
    refine ⟨_, rfl, _, rfl, _, rfl, ite2 (fun h1 => ?_) (fun h1 => ?_)⟩
    · refine ⟨size7 (by decide), give (T := T) (l := [-22]) ?_ StayB.refl ov rfl⟩
      rw [if_pos (not_t h1)] at q
      exact q
    · have hx := not_f h1
      rw [if_neg (by rw [hx]; exact Bool.noConfusion)] at q
      refine ⟨_, rfl, _, rfl, _, rfl, a, o, rfl, ov, ok o rfl, tb, fun H1 tl st1 ntl htl h54 => ?_⟩
      refine ⟨x, tl, tps o, rfl, SqL.of htl, fun H2 r us st2 nr hp hs hr2 => ?_⟩
      have st12 := st1.trans st2
      rw [best_form x (temp_true hx).1 hp hs] at hr2
      have htc := tcI_form x (temp_true hx).1 (Sr99.temperaturesOf (Sr99.orderBatches x.toNat (Sr99.batches o)))
      refine ⟨x, r, _, rfl, SqL.of hr2, (by show 1 ≤ sizeLine; decide), give q st12.b (ov.stay st12) ?_⟩
      rw [htc]
      rfl
abbrev s_are_compatible : Stmt := top 53
theorem sc_are_compatible : FnScope ["oven", "numbers", "place", "other"] ["oven", "numbers"] (defScope s_are_compatible) := ⟨rfl, rfl, rfl, by decide +kernel, rfl, by decide +kernel, by decide +kernel⟩
theorem ok_are_compatible (D : Dn K mg "are_compatible" s_are_compatible ["oven", "numbers"]) (G : Gb K mg) (cl : ClT K mg C) (M : Ms P w K mg base T C) (o_have_common_temperature : Ok P w K mg base 1 "have_common_temperature" ["product", "other"] (spComm K)) : Ok P w K mg base 2 "are_compatible" ["oven", "numbers"] (spOp T K C 11 (preN 2)) := by
  refine D.ok sc_are_compatible (fun vs H Q E h => by obtain ⟨_, _, _, _, rfl, _⟩ := h; rfl) (fun f cdv A outer sh H vs Q E hr h => ?_)
  obtain ⟨a, nl, s, ns, rfl, ov, ok, hnl, tb, pre, q⟩ := h
  match s, ns, pre with
  | none, _, pre => exact absurd rfl pre.1
  | some o, [x, y], _ =>
    refine ⟨_, (pss_cons (ps_par (i := 2) (j := 3) rfl sc_are_compatible.nd rfl rfl (by decide) rfl rfl (pa_cons (pe_ix (r := rIxL K) ix_list (pv 1) pe_int (fun _ _ => rfl)) (pa_cons (pe_ix (r := rIxL K) ix_list (pv 1) pe_int (fun _ _ => rfl)) pa_nil)) rfl)
    (pss_cons (ps_if (PW.pt (pw_or (pt_not (pt_val (pe_okm (pv 0) M.has_product hr (by decide) (pa_cons (pv 2) pa_nil)))) (pw_or1 (pt_not (pt_val (pe_okm (pv 0) M.has_product hr (by decide) (pa_cons (pv 3) pa_nil))))))) (pss_one (ps_ret (pe_lst (pa_cons (pe_gl G.NOT_THERE (by rfl)) pa_nil)))) pss_nil)
    (pss_one (ps_ret (pe_lst (pa_cons (pe_ifExp (pt_val (pe_ok o_have_common_temperature hr (by decide) (by rfl) (pa_cons (pe_ix (r := rIxL K) ix_list (pe_fld (pv 0) rfl) (pv 2) (fun _ _ => rfl)) (pa_cons (pe_ix (r := rIxL K) ix_list (pe_fld (pv 0) rfl) (pv 3) (fun _ _ => rfl)) pa_nil)))) pe_int pe_int) pa_nil)))))), ?_⟩
    rw [step_comp] at q
    obtain ⟨dx, pl, ha, vs, hpl, hps⟩ := id ov
    refine ⟨_, rfl, _, _, _, _, rfl, rfl, SqL.of hnl, atI_nat (j := 0) rfl, _, rfl, _, _, _, _, rfl, rfl, SqL.of hnl, atI_nat (j := 1) rfl, _, _, rfl, ?_⟩
    refine ⟨_, rfl, a, dx, _, rfl, ha, no_hp _ _, _, rfl, a, some o, x, rfl, ov, _, rfl, ite2 (fun h1 => ?_) (fun h1 => ?_)⟩
    · refine iteT ⟨size7 (by decide), give (T := T) (l := [-2]) ?_ StayB.refl ov rfl⟩
      rw [if_pos (.inl (show Sr99.isProduct o x = false from not_t h1))] at q
      exact q
    · refine ⟨_, rfl, a, dx, _, rfl, ha, no_hp _ _, _, rfl, a, some o, y, rfl, ov, _, rfl, ite2 (fun h2 => ?_) (fun h2 => ?_)⟩
      · refine ⟨size7 (by decide), give (T := T) (l := [-2]) ?_ StayB.refl ov rfl⟩
        rw [if_pos (.inr (show Sr99.isProduct o y = false from not_t h2))] at q
        exact q
      · have hx : Sr99.isProduct o x = true := not_f h1
        have hy : Sr99.isProduct o y = true := not_f h2
        rw [if_neg (fun z => by
          rcases z with z | z
          · rw [hx] at z; cases z
          · rw [hy] at z; cases z)] at q
        have px := prod_true hx
        have py := prod_true hy
        obtain ⟨v, hv, hpv⟩ := hps.get (i := x.toNat) (by show x.toNat < o.products.length; omega)
        obtain ⟨u, hu, hpu⟩ := hps.get (i := y.toNat) (by show y.toNat < o.products.length; omega)
        refine ⟨_, rfl, a, C, dx, _, _, rfl, ha, cl.cl, cl.nP, oF_pro _ _, _, rfl, _, _, _, _, rfl, rfl, SqL.of hpl, at_of (j := x.toNat) (by omega) hv, ?_⟩
        refine ⟨_, rfl, a, C, dx, _, _, rfl, ha, cl.cl, cl.nP, oF_pro _ _, _, rfl, _, _, _, _, rfl, rfl, SqL.of hpl, at_of (j := y.toNat) (by omega) hu, ?_⟩
        refine ⟨v, u, _, _, rfl, hpv, hpu, _, rfl, ite2 (fun h3 => ?_) (fun h3 => ?_)⟩
        · have h3' : max (Sr99.productAt o x.toNat).minTemperature (Sr99.productAt o y.toNat).minTemperature ≤ min (Sr99.productAt o x.toNat).maxTemperature (Sr99.productAt o y.toNat).maxTemperature := of_decide_eq_true h3
          rw [if_pos h3'] at q
          exact ⟨size7 (by decide), give q StayB.refl ov rfl⟩
        · have h3' : ¬ (max (Sr99.productAt o x.toNat).minTemperature (Sr99.productAt o y.toNat).minTemperature ≤ min (Sr99.productAt o x.toNat).maxTemperature (Sr99.productAt o y.toNat).maxTemperature) := fun z => h3 (decide_eq_true z)
          rw [if_neg h3'] at q
          exact ⟨size7 (by decide), give q StayB.refl ov rfl⟩
end
end Ov

set_option Elab.async false
set_option linter.all false
set_option maxRecDepth 100000
set_option maxHeartbeats 4000000
namespace Ov
open PySem PySem.Spec PyProof.Rows L2 LamX
open Sr99 (Product Oven Batch)
section
variable {P : Program} {w : World} {K : PySem.W.Frag} {mg : Str → Option Value} {base : Heap} {T : List (Addr × Str)} {C : Addr}
abbrev s_fill_batch : Stmt := top 54
theorem sc_fill_batch : FnScope ["oven", "numbers", "put"] ["oven", "numbers"] (defScope s_fill_batch) := ⟨rfl, rfl, rfl, by decide +kernel, rfl, by decide +kernel, by decide +kernel⟩
theorem ok_fill_batch (D : Dn K mg "fill_batch" s_fill_batch ["oven", "numbers"]) (G : Gb K mg) (cl : ClT K mg C) (o_is_temperature : Ok P w K mg base 1 "is_temperature" ["number"] (spI1 Sr99.isTemperature)) (o_tins_of : Ok P w K mg base 1 "tins_of" ["products"] (spTins T K))
    (o_filled : Ok P w K mg base 5 "filled" ["products", "remaining", "capacity", "temperature"] (spFilled T K)) : Ok P w K mg base 6 "fill_batch" ["oven", "numbers"] (spOp T K C 12 (preN 1)) := by
  refine D.ok sc_fill_batch (fun vs H Q E h => by obtain ⟨_, _, _, _, rfl, _⟩ := h; rfl) (fun f cdv A outer sh H vs Q E hr h => ?_)
  obtain ⟨a, nl, s, ns, rfl, ov, ok, hnl, tb, pre, q⟩ := h
  match s, ns, pre with
  | none, _, pre => exact absurd rfl pre.1
  | some o, [x], _ =>
    refine ⟨_, (pss_cons (ps_if (pt_not (pt_val (pe_ok o_is_temperature hr (by decide) (by rfl) (pa_cons (pe_ix (r := rIxL K) ix_list (pv 1) pe_int (fun _ _ => rfl)) pa_nil)))) (pss_one (ps_ret (pe_lst (pa_cons (pe_gl G.OUT_OF_RANGE (by rfl)) pa_nil)))) pss_nil)
    (pss_cons (ps_set (i := 2) sc_fill_batch.nd rfl (.inl rfl) (pe_ok o_filled hr (by decide) (by rfl) (pa_cons (pe_fld (pv 0) rfl) (pa_cons (pe_ok o_tins_of hr (by decide) (by rfl) (pa_cons (pe_fld (pv 0) rfl) pa_nil)) (pa_cons (pe_fld (pv 0) rfl) (pa_cons (pe_ix (r := rIxL K) ix_list (pv 1) pe_int (fun _ _ => rfl)) pa_nil))))))
    (pss_one (ps_ret (pe_op op_cat (pe_lst (pa_cons (pe_callB (cr_sum rfl) (by rfl) G.sum boot_sum_ (pa_cons (pv 2) pa_nil)) pa_nil)) (pv 2)))))), ?_⟩
    rw [step_fill] at q
    obtain ⟨dx, pl, ha, hps⟩ := id ov
    have few := (ok o rfl).few
    refine ⟨_, rfl, _, _, _, _, rfl, rfl, SqL.of hnl, atI_nat (j := 0) rfl, _, rfl, _, rfl, ite2 (fun h1 => ?_) (fun h1 => ?_)⟩
    · refine ⟨size7 (by decide), give (T := T) (l := [-22]) ?_ StayB.refl ov rfl⟩
      rw [if_pos (not_t h1)] at q
      exact q
    · have hx := not_f h1
      have hx2 := temp_true hx
      rw [if_neg (by rw [hx]; exact Bool.noConfusion)] at q
      refine ⟨_, rfl, a, C, dx, _, _, rfl, ha, cl.cl, cl.nP, oF_pro _ _, ?_⟩
      refine ⟨_, rfl, a, C, dx, _, _, rfl, ha, cl.cl, cl.nP, oF_pro _ _, pl, _, rfl, hps, few, fun H1 rl st1 nrl hrl => ?_⟩
      rw [tins_nv] at hrl
      have ov1 := ov.stay st1
      refine ⟨_, rfl, a, C, dx, _, _, rfl, Stay.ins st1 ha, cl.cl, cl.nC, oF_cap _ _, _, rfl, _, _, _, _, rfl, rfl, SqL.of (Stay.lst st1 hnl), atI_nat (j := 0) rfl, ?_⟩
      refine ⟨pl, rl, o.capacity, x.toNat, o.products, _, by rw [← toNat_v hx2.1]; rfl, Stay.ps st1 hps, few, hrl, List.length_map _, st1.tabs tb, fun H2 r st2 nr hr2 => ?_⟩
      rw [filled_is] at hr2
      have st12 := st1.trans st2
      refine ⟨_, rfl, r, _, rfl, SqL.of hr2, (by show 1 ≤ sizeLine; decide), fun l hl => ?_⟩
      have st3 := st12.trans (StayB.new (T := T) (A := []) (o := .lst [.int (SrCommon.natsToInts (Sr99.fill o (o.products.map fun p => p.tins) x.toNat)).sum]) hl)
      refine ⟨_, rfl, l, r, _, _, rfl, rfl, upd_same, Stay.lst (T := T) (StayB.new hl) hr2, ?_, give q st3.b (ov.stay st3) ?_⟩
      · rw [nv_len, fill_len]
        exact size7 (by show 1 + _ ≤ 1000; omega)
      · rw [nv_sum]
        rfl
abbrev s_min_batches_if_tins : Stmt := top 55
theorem sc_min_batches_if_tins : FnScope ["oven", "numbers", "place", "tins"] ["oven", "numbers"] (defScope s_min_batches_if_tins) := ⟨rfl, rfl, rfl, by decide +kernel, rfl, by decide +kernel, by decide +kernel⟩
theorem ok_min_batches_if_tins (D : Dn K mg "min_batches_if_tins" s_min_batches_if_tins ["oven", "numbers"]) (G : Gb K mg) (cl : ClT K mg C) (M : Ms P w K mg base T C) (o_are_tins : Ok P w K mg base 1 "are_tins" ["number"] (spI1 Sr99.isTinCount)) (o_with_tins : Ok P w K mg base 2 "with_tins" ["products", "place", "tins"] (spWithT T K)) (o_planned : OkPl P w K mg base T) :
    Ok P w K mg base 7 "min_batches_if_tins" ["oven", "numbers"] (spOp T K C 13 (preN 2)) := by
  refine D.ok sc_min_batches_if_tins (fun vs H Q E h => by obtain ⟨_, _, _, _, rfl, _⟩ := h; rfl) (fun f cdv A outer sh H vs Q E hr h => ?_)
  obtain ⟨a, nl, s, ns, rfl, ov, ok, hnl, tb, pre, q⟩ := h
  match s, ns, pre with
  | none, _, pre => exact absurd rfl pre.1
  | some o, [x, y], _ =>
    refine ⟨_, (pss_cons (ps_par (i := 2) (j := 3) rfl sc_min_batches_if_tins.nd rfl rfl (by decide) rfl rfl (pa_cons (pe_ix (r := rIxL K) ix_list (pv 1) pe_int (fun _ _ => rfl)) (pa_cons (pe_ix (r := rIxL K) ix_list (pv 1) pe_int (fun _ _ => rfl)) pa_nil)) rfl)
    (pss_cons (ps_if (pt_not (pt_val (pe_okm (pv 0) M.has_product hr (by decide) (pa_cons (pv 2) pa_nil)))) (pss_one (ps_ret (pe_lst (pa_cons (pe_gl G.NOT_THERE (by rfl)) pa_nil)))) pss_nil)
    (pss_cons (ps_if (pt_not (pt_val (pe_ok o_are_tins hr (by decide) (by rfl) (pa_cons (pv 3) pa_nil)))) (pss_one (ps_ret (pe_lst (pa_cons (pe_gl G.OUT_OF_RANGE (by rfl)) pa_nil)))) pss_nil)
    (pss_one (ps_ret (pe_lst (pa_cons (pe_callB call_len_seq (by rfl) G.len PySem.boot_len (pa_cons (pe_ok o_planned hr (by decide) (by rfl) (pa_cons (pe_ok o_with_tins hr (by decide) (by rfl) (pa_cons (pe_fld (pv 0) rfl) (pa_cons (pv 2) (pa_cons (pv 3) pa_nil)))) (pa_cons (pe_fld (pv 0) rfl) pa_nil))) pa_nil)) pa_nil))))))), ?_⟩
    rw [step_ifTins] at q
    obtain ⟨dx, pl, ha, hps⟩ := id ov
    refine ⟨_, rfl, _, _, _, _, rfl, rfl, SqL.of hnl, atI_nat (j := 0) rfl, _, rfl, _, _, _, _, rfl, rfl, SqL.of hnl, atI_nat (j := 1) rfl, _, _, rfl, ?_⟩
    refine ⟨_, rfl, a, dx, _, rfl, ha, no_hp _ _, _, rfl, a, _, _, rfl, ov, _, rfl, ite2 (fun h1 => ?_) (fun h1 => ?_)⟩
    · refine ⟨size7 (by decide), give (T := T) (l := [-2]) ?_ StayB.refl ov rfl⟩
      rw [if_pos (show Sr99.isProduct o x = false from not_t h1)] at q
      exact q
    · have p1 : Sr99.isProduct o x = true := not_f h1
      rw [if_neg (by rw [p1]; exact Bool.noConfusion)] at q
      refine ⟨_, rfl, _, rfl, _, rfl, ite2 (fun h2 => ?_) (fun h2 => ?_)⟩
      · refine ⟨size7 (by decide), give (T := T) (l := [-22]) ?_ StayB.refl ov rfl⟩
        rw [if_pos (not_t h2)] at q
        exact q
      · have p2 : Sr99.isTinCount y = true := not_f h2
        rw [if_neg (by rw [p2]; exact Bool.noConfusion)] at q
        have b1 := prod_true p1
        have b2 := tins_true p2
        have e1 : V.int x = V.int (x.toNat : Int) := toNat_v b1.1
        have hx : x.toNat < (prods (some o)).length := by show x.toNat < o.products.length; omega
        refine ⟨_, rfl, a, C, dx, _, _, rfl, ha, cl.cl, cl.nP, oF_pro _ _, _, rfl, _, rfl, pl, x.toNat, y.toNat, _, by rw [← e1, ← toNat_v b2.1]; rfl, hps, hx, fun H1 r st1 nw hps1 => ?_⟩
        have ov1 := ov.stay st1
        refine ⟨_, rfl, a, C, dx, _, _, rfl, Stay.ins st1 ha, cl.cl, cl.nC, oF_cap _ _, r, Sr99.withProduct o x.toNat { Sr99.productAt o x.toNat with tins := y.toNat }, rfl, (ok o rfl).tins p1 p2, hps1, st1.tabs tb, fun H2 bl st2 nbl hbl h54 => ?_⟩
        obtain ⟨ws, hws, bs⟩ := hbl
        refine ⟨bl, ws, rfl, .inl (SqL.of hws), (by show 1 ≤ sizeLine; decide), give q (st1.trans st2).b (ov.stay (st1.trans st2)) ?_⟩
        rw [bs.len]
        rfl
abbrev s_min_batches_if_capacity : Stmt := top 56
theorem sc_min_batches_if_capacity : FnScope ["oven", "numbers"] ["oven", "numbers"] (defScope s_min_batches_if_capacity) := ⟨rfl, rfl, rfl, by decide +kernel, rfl, by decide +kernel, by decide +kernel⟩
theorem ok_min_batches_if_capacity (D : Dn K mg "min_batches_if_capacity" s_min_batches_if_capacity ["oven", "numbers"]) (G : Gb K mg) (cl : ClT K mg C) (o_is_capacity : Ok P w K mg base 1 "is_capacity" ["number"] (spI1 Sr99.isCapacity)) (o_planned : OkPl P w K mg base T) :
    Ok P w K mg base 7 "min_batches_if_capacity" ["oven", "numbers"] (spOp T K C 14 (preN 1)) := by
  refine D.ok sc_min_batches_if_capacity (fun vs H Q E h => by obtain ⟨_, _, _, _, rfl, _⟩ := h; rfl) (fun f cdv A outer sh H vs Q E hr h => ?_)
  obtain ⟨a, nl, s, ns, rfl, ov, ok, hnl, tb, pre, q⟩ := h
  match s, ns, pre with
  | none, _, pre => exact absurd rfl pre.1
  | some o, [x], _ =>
    refine ⟨_, (pss_cons (ps_if (pt_not (pt_val (pe_ok o_is_capacity hr (by decide) (by rfl) (pa_cons (pe_ix (r := rIxL K) ix_list (pv 1) pe_int (fun _ _ => rfl)) pa_nil)))) (pss_one (ps_ret (pe_lst (pa_cons (pe_gl G.OUT_OF_RANGE (by rfl)) pa_nil)))) pss_nil)
    (pss_one (ps_ret (pe_lst (pa_cons (pe_callB call_len_seq (by rfl) G.len PySem.boot_len (pa_cons (pe_ok o_planned hr (by decide) (by rfl) (pa_cons (pe_fld (pv 0) rfl) (pa_cons (pe_ix (r := rIxL K) ix_list (pv 1) pe_int (fun _ _ => rfl)) pa_nil))) pa_nil)) pa_nil))))), ?_⟩
    rw [step_ifCap] at q
    obtain ⟨dx, pl, ha, hps⟩ := id ov
    refine ⟨_, rfl, _, _, _, _, rfl, rfl, SqL.of hnl, atI_nat (j := 0) rfl, _, rfl, _, rfl, ite2 (fun h1 => ?_) (fun h1 => ?_)⟩
    · refine ⟨size7 (by decide), give (T := T) (l := [-22]) ?_ StayB.refl ov rfl⟩
      rw [if_pos (not_t h1)] at q
      exact q
    · have hx := not_f h1
      have hx2 := cap_true hx
      rw [if_neg (by rw [hx]; exact Bool.noConfusion)] at q
      refine ⟨_, rfl, a, C, dx, _, _, rfl, ha, cl.cl, cl.nP, oF_pro _ _, _, rfl, _, _, _, _, rfl, rfl, SqL.of hnl, atI_nat (j := 0) rfl, ?_⟩
      refine ⟨pl, { o with capacity := x.toNat }, by rw [← toNat_v (by omega)]; rfl, (ok o rfl).cap hx, hps, tb, fun H1 bl st1 nbl hbl h54 => ?_⟩
      obtain ⟨ws, hws, bs⟩ := hbl
      refine ⟨bl, ws, rfl, .inl (SqL.of hws), (by show 1 ≤ sizeLine; decide), give q st1.b (ov.stay st1) ?_⟩
      rw [bs.len]
      rfl
abbrev s_check_batches : Stmt := top 57
theorem sc_check_batches : FnScope ["oven", "numbers", "size", "groups"] ["oven", "numbers"] (defScope s_check_batches) := ⟨rfl, rfl, rfl, by decide +kernel, rfl, by decide +kernel, by decide +kernel⟩
theorem ok_check_batches (D : Dn K mg "check_batches" s_check_batches ["oven", "numbers"]) (G : Gb K mg) (cl : ClT K mg C) (o_can_be_divided : Ok P w K mg base 1 "can_be_divided" ["numbers", "size"] (spDivd K)) (o_has_negative : Ok P w K mg base 1 "has_negative" ["numbers"] (spNeg K)) (o_divided : Ok P w K mg base 1 "divided" ["numbers", "size"] (spDivided T K))
    (o_is_solution : Ok P w K mg base 3 "is_solution" ["products", "capacity", "groups"] (spSol T K)) : Ok P w K mg base 4 "check_batches" ["oven", "numbers"] (spOp T K C 15 fun s ns => s ≠ none ∧ ns.length ≤ 70) := by
  refine D.ok sc_check_batches (fun vs H Q E h => by obtain ⟨_, _, _, _, rfl, _⟩ := h; rfl) (fun f cdv A outer sh H vs Q E hr h => ?_)
  obtain ⟨a, nl, s, ns, rfl, ov, ok, hnl, tb, pre, q⟩ := h
  match s, pre with
  | none, pre => exact absurd rfl pre.1
  | some o, ⟨_, h70⟩ =>
    refine ⟨_, (pss_cons (ps_set (i := 2) sc_check_batches.nd rfl (.inl rfl) (pe_op op_add pe_int (pe_callB call_len_seq (by rfl) G.len PySem.boot_len (pa_cons (pe_fld (pv 0) rfl) pa_nil))))
    (pss_cons (ps_if (PW.pt (pw_or (pt_not (pt_val (pe_ok o_can_be_divided hr (by decide) (by rfl) (pa_cons (pv 1) (pa_cons (pv 2) pa_nil))))) (pw_or1 (pt_val (pe_ok o_has_negative hr (by decide) (by rfl) (pa_cons (pv 1) pa_nil)))))) (pss_one (ps_ret (pe_lst (pa_cons (pe_gl G.OUT_OF_RANGE (by rfl)) pa_nil)))) pss_nil)
    (pss_cons (ps_set (i := 3) sc_check_batches.nd rfl (.inl rfl) (pe_ok o_divided hr (by decide) (by rfl) (pa_cons (pv 1) (pa_cons (pv 2) pa_nil))))
    (pss_one (ps_ret (pe_lst (pa_cons (pe_ifExp (pt_val (pe_ok o_is_solution hr (by decide) (by rfl) (pa_cons (pe_fld (pv 0) rfl) (pa_cons (pe_fld (pv 0) rfl) (pa_cons (pv 3) pa_nil))))) pe_int pe_int) (pa_cons (pe_callB call_len_seq (by rfl) G.len PySem.boot_len (pa_cons (pv 3) pa_nil)) pa_nil)))))))), ?_⟩
    rw [step_check] at q
    obtain ⟨dx, pl, ha, vs, hpl, hps⟩ := id ov
    have few := (ok o rfl).few
    have esz : V.int (1 + ((vs.length : Nat) : Int)) = V.int ((1 + o.products.length : Nat) : Int) := by
      rw [hps.len, Int.natCast_add]
      rfl
    refine ⟨_, rfl, a, C, dx, _, _, rfl, ha, cl.cl, cl.nP, oF_pro _ _, pl, vs, rfl, .inl (SqL.of hpl), _, _, rfl, rfl, ?_⟩
    refine ⟨_, rfl, _, rfl, nl, ns, 1 + o.products.length, by rw [← esz]; rfl, by omega, hnl, _, rfl, ite2 (fun h1 => ?_) (fun h1 => ?_)⟩
    · refine iteT ⟨size7 (by decide), give (T := T) (l := [-22]) ?_ StayB.refl ov rfl⟩
      rw [if_pos (.inl (of_decide_eq_false (not_t h1)))] at q
      exact q
    · have hd : ns.length % (1 + o.products.length) = 0 := of_decide_eq_true (not_f h1)
      refine ⟨_, rfl, nl, ns, rfl, SqL.of hnl, _, rfl, ite2 (fun h2 => ?_) (fun h2 => ?_)⟩
      · refine ⟨size7 (by decide), give (T := T) (l := [-22]) ?_ StayB.refl ov rfl⟩
        rw [if_pos (.inr h2)] at q
        exact q
      · have hl : ns.length = (ns.length / (1 + o.products.length)) * (1 + o.products.length) := by
          have := Nat.div_add_mod ns.length (1 + o.products.length)
          rw [hd, Nat.add_zero, Nat.mul_comm] at this
          exact this.symm
        rw [if_neg (fun z => by
          rcases z with z | z
          · exact z hd
          · exact h2 z)] at q
        have hk70 : ns.length / (1 + o.products.length) ≤ 70 := Nat.le_trans (Nat.div_le_self _ _) h70
        refine ⟨_, rfl, _, rfl, nl, ns, 1 + o.products.length, ns.length / (1 + o.products.length), by rw [← esz]; rfl, by omega, by omega, h70, hl, hnl, fun H1 gl st1 ngl hgl => ?_⟩
        have ha1 := Stay.ins st1 ha
        have clen := chunks_len ns (1 + o.products.length) (ns.length / (1 + o.products.length))
        refine ⟨_, rfl, a, C, dx, _, _, rfl, ha1, cl.cl, cl.nP, oF_pro _ _, _, rfl, a, C, dx, _, _, rfl, ha1, cl.cl, cl.nC, oF_cap _ _, _, rfl, ?_⟩
        refine ⟨pl, gl, _, o.products, _, rfl, Stay.ps st1 ⟨vs, hpl, hps⟩, few, hgl, by rw [clen]; exact hk70, fun g hg => by rw [(chunks_mem hl hg).1, Nat.add_comm], fun H2 st2 => ?_⟩
        have st12 := st1.trans st2
        obtain ⟨gv, hgv, gs⟩ := hgl.stay st2
        have fin : ∀ (b : Bool) (v : Int), solOk o.products (o.capacity : Int) (chunks ns (1 + o.products.length) (ns.length / (1 + o.products.length))) = b → v = (if b = true then 1 else 0) → [V.int v, V.int (gv.length : Nat)] = iv [if solOk o.products (o.capacity : Int) (chunks ns (1 + o.products.length) (ns.length / (1 + o.products.length))) = true then 1 else 0, ((ns.length / (1 + o.products.length) : Nat) : Int)] := fun b v e1 e2 => by
          rw [e1, ← e2, gs.len, clen]
          rfl
        refine ⟨_, rfl, ite2 (fun h3 => ?_) (fun h3 => ?_)⟩
        · exact ⟨_, rfl, gl, gv, rfl, .inl (SqL.of hgv), (by show 2 ≤ sizeLine; decide), give q st12.b (ov.stay st12) (fin true 1 h3 rfl)⟩
        · exact ⟨_, rfl, gl, gv, rfl, .inl (SqL.of hgv), (by show 2 ≤ sizeLine; decide), give q st12.b (ov.stay st12) (fin false 0 (Bool.not_eq_true _ |>.mp h3) rfl)⟩
def descL (ps : List Product) : List Int := ps.flatMap fun p => [(p.minTemperature : Int), (p.maxTemperature : Int), (p.tins : Int)]
theorem descL_len (ps : List Product) : (descL ps).length = 3 * ps.length := by
  unfold descL
  induction ps with
  | nil => rfl
  | cons p r ih =>
    rw [List.flatMap_cons, List.length_append, ih]
    show 3 + 3 * r.length = 3 * (r.length + 1)
    omega
abbrev s_describe : Stmt := top 58
theorem sc_describe : FnScope ["oven", "numbers", "found", "product"] ["oven", "numbers"] (defScope s_describe) := ⟨rfl, rfl, rfl, by decide +kernel, rfl, by decide +kernel, by decide +kernel⟩
theorem ok_describe (D : Dn K mg "describe" s_describe ["oven", "numbers"]) (G : Gb K mg) (cl : ClT K mg C) : Ok P w K mg base 1 "describe" ["oven", "numbers"] (spOp T K C 16 (preN 0)) := by
  refine D.ok sc_describe (fun vs H Q E h => by obtain ⟨_, _, _, _, rfl, _⟩ := h; rfl) (fun f cdv A outer sh H vs Q E hr h => ?_)
  obtain ⟨a, nl, s, ns, rfl, ov, ok, hnl, tb, pre, q⟩ := h
  match s, ns, pre with
  | none, _, pre => exact absurd rfl pre.1
  | some o, [], _ =>
    refine ⟨_, (pss_cons (ps_set (i := 2) sc_describe.nd rfl (.inl rfl) (pe_lst (pa_cons (pe_fld (pv 0) rfl) (pa_cons (pe_callB call_len_seq (by rfl) G.len PySem.boot_len (pa_cons (pe_fld (pv 0) rfl) pa_nil)) pa_nil))))
    (pss_cons (ps_for PassesOwn.never rfl (pi_list (pe_fld (pv 0) rfl)) (pg_name (i := 3) sc_describe.nd rfl (.inl rfl)) (pss_one (ps_expr (pe_bm PySem.F.plainAttrs_list PySem.F.slot_list_extend PySem.F.type_list_extend mt_extend (pv 2) (pa_cons (pe_callTy call_list_of (by rfl) G.list boot_list_ (pa_cons (pv 3) pa_nil)) pa_nil)))))
    (pss_one (ps_ret (pv 2))))), ?_⟩
    rw [step_desc] at q
    obtain ⟨dx, pl, ha, vs, hpl, hps⟩ := id ov
    have few := (ok o rfl).few
    refine ⟨_, rfl, a, C, dx, _, _, rfl, ha, cl.cl, cl.nC, oF_cap _ _, _, rfl, a, C, dx, _, _, rfl, ha, cl.cl, cl.nP, oF_pro _ _, pl, vs, rfl, .inl (SqL.of hpl), (by show 2 ≤ sizeLine; decide), fun fo hfo => ?_⟩
    have st0 : Stay T H (upd H fo (.lst [.int (o.capacity : Int), .int (vs.length : Nat)])) := StayB.new hfo
    refine ⟨_, rfl, a, C, dx, _, _, rfl, Stay.ins st0 ha, cl.cl, cl.nP, oF_pro _ _, pl, rfl, ⟨_, SqL.of (Stay.lst st0 hpl)⟩, for_it (walk_list (K := K) (a := pl) (xs := vs)) (fun k σ H' => Stay T H H' ∧ H' fo = some (.lst (iv ((o.capacity : Int) :: (o.products.length : Int) :: descL (o.products.take k)))) ∧ ∃ (y3 : Option V), σ = [some (.ref a), some (.ref nl), some (.ref fo), y3])
      ⟨st0, by rw [upd_same, hps.len]; rfl, none, rfl⟩ (fun k σ H' _ h => SqL.of (Stay.lst h.1 hpl)) ?_ ?_⟩
    · rintro k x σ H1 H' hk ⟨st, hd, y3, rfl⟩ ⟨rfl, hx⟩
      obtain ⟨hk', t, rfl, ht⟩ := (Stay.psl st hps).inv hx
      refine ⟨_, rfl, .inl ⟨rfl, _, SqL.of hd⟩, _, rfl, t, _, rfl, .inr ht, fun l hl => ?_⟩
      have nl' : fo ≠ l := ne_of_none hd hl
      have st2 := st.trans (StayB.new (T := T) (A := []) (o := .lst (pV (pAt (prods (some o)) k))) hl)
      have hd2 := Stay.lst (T := T) (StayB.new (o := .lst (pV (pAt (prods (some o)) k))) hl) hd
      refine ⟨fo, l, _, _, rfl, rfl, hd2, upd_same, ?_, StayB.wrN st2 hfo hd2, ?_, _, rfl⟩
      · rw [iv_len]
        have e : (descL (o.products.take k)).length ≤ 18 := by
          rw [descL_len, List.length_take]
          omega
        exact size7 (by show (descL (o.products.take k)).length + 1 + 1 + 3 ≤ 1000; omega)
      · have hk2 : k < o.products.length := hk'
        rw [upd_same, List.take_add_one, List.getElem?_eq_getElem hk2]
        have e : pAt (prods (some o)) k = o.products[k] := by
          show pAt o.products k = _
          unfold pAt
          rw [List.getD_eq_getElem?_getD, List.getElem?_eq_getElem hk2] <;> rfl
        rw [e]
        have e2 : descL (o.products.take k ++ (some o.products[k]).toList) = descL (o.products.take k) ++ [((o.products[k]).minTemperature : Int), ((o.products[k]).maxTemperature : Int), ((o.products[k]).tins : Int)] := by
          unfold descL
          rw [List.flatMap_append]
          rfl
        rw [e2]
        refine congrArg (fun z => some (HO.lst z)) ?_
        show _ = iv (((o.capacity : Int) :: (o.products.length : Int) :: descL (o.products.take k)) ++ _)
        rw [iv_append]
        rfl
    · rintro σ H' ⟨st, hd, y3, rfl⟩
      have e : vs.length = o.products.length := hps.len
      rw [e, List.take_length] at hd
      exact ⟨_, rfl, q H' fo st.b (ov.stay st) (New.of hfo) hd⟩
end
end Ov

set_option Elab.async false
set_option linter.all false
set_option maxRecDepth 100000
set_option maxHeartbeats 4000000
namespace Ov
open PySem PySem.Spec PyProof.Rows L2 LamX
open Sr99 (Product Oven Batch)
/-! ### tins.py -/
def spAns (T : List (Addr × Str)) (K : PySem.W.Frag) (C : Addr) (pre : Sr99.State → Int → Prop) : Sp := fun vs H Q _ => ∃ (a nl : Addr) (s : Sr99.State) (p : Int) (ns : List Int), vs = [.ref a, .int p, .ref nl] ∧ OvAt K C H a s ∧ OkS s ∧ H nl = some (.lst (iv ns)) ∧ Tabs T H ∧ okNs p ns ∧ pre s p ∧
  ∀ H' r, StayB T [a] H H' → OvAt K C H' a (stepM s p ns).1 → New H r → H' r = some (.lst (iv (stepM s p ns).2)) → Q (.ref r) H'
theorem okNs_len {p : Int} {ns : List Int} (h : okNs p ns) {n : Nat} (h15 : p ≠ 15) (hn : cnt[p.toNat]? = some n) : ns.length = n := by
  rcases h with h | h
  · exact absurd h.1 h15
  · rw [hn] at h
    exact (Option.some.inj h.2.2.2).symm
theorem v_eq {p q : Int} (h : decide (V.int p = V.int q) = true) : p = q := V.int.inj (of_decide_eq_true h)
theorem v_ne {p q : Int} (h : ¬ decide (V.int p = V.int q) = true) : p ≠ q := fun z => h (decide_eq_true (congrArg V.int z))
/-- any call but create, without an instance -/
theorem step_none' {p : Int} {ns : List Int} (hn : okNs p ns) (h0 : p ≠ 0) : stepM none p ns = (none, [-11]) := by
  have hp : p = 1 ∨ p = 2 ∨ p = 3 ∨ p = 4 ∨ p = 5 ∨ p = 6 ∨ p = 7 ∨ p = 8 ∨ p = 9 ∨ p = 10 ∨ p = 11 ∨ p = 12 ∨ p = 13 ∨ p = 14 ∨ p = 15 ∨ p = 16 := by
    rcases hn with z | z <;> omega
  rcases hp with e | e | e | e | e | e | e | e | e | e | e | e | e | e | e | e <;> subst e
  · match ns, (okNs_len hn (by decide) rfl : ns.length = 3) with
    | [x, y, z], _ => exact step_none 1 [x, y, z] (.addProduct x y z) rfl (fun _ z => by cases z)
  · match ns, (okNs_len hn (by decide) rfl : ns.length = 2) with
    | [x, y], _ => exact step_none 2 [x, y] (.setTins x y) rfl (fun _ z => by cases z)
  · match ns, (okNs_len hn (by decide) rfl : ns.length = 3) with
    | [x, y, z], _ => exact step_none 3 [x, y, z] (.setTemperatures x y z) rfl (fun _ z => by cases z)
  · match ns, (okNs_len hn (by decide) rfl : ns.length = 1) with
    | [x], _ => exact step_none 4 [x] (.removeProduct x) rfl (fun _ z => by cases z)
  · match ns, (okNs_len hn (by decide) rfl : ns.length = 1) with
    | [x], _ => exact step_none 5 [x] (.setCapacity x) rfl (fun _ z => by cases z)
  · match ns, (okNs_len hn (by decide) rfl : ns.length = 0) with
    | [], _ => exact step_none 6 [] (.minBatches) rfl (fun _ z => by cases z)
  · match ns, (okNs_len hn (by decide) rfl : ns.length = 1) with
    | [x], _ => exact step_none 7 [x] (.batch x) rfl (fun _ z => by cases z)
  · match ns, (okNs_len hn (by decide) rfl : ns.length = 0) with
    | [], _ => exact step_none 8 [] (.temperatures) rfl (fun _ z => by cases z)
  · match ns, (okNs_len hn (by decide) rfl : ns.length = 1) with
    | [x], _ => exact step_none 9 [x] (.bestOrder x) rfl (fun _ z => by cases z)
  · match ns, (okNs_len hn (by decide) rfl : ns.length = 1) with
    | [x], _ => exact step_none 10 [x] (.minChange x) rfl (fun _ z => by cases z)
  · match ns, (okNs_len hn (by decide) rfl : ns.length = 2) with
    | [x, y], _ => exact step_none 11 [x, y] (.areCompatible x y) rfl (fun _ z => by cases z)
  · match ns, (okNs_len hn (by decide) rfl : ns.length = 1) with
    | [x], _ => exact step_none 12 [x] (.fillBatch x) rfl (fun _ z => by cases z)
  · match ns, (okNs_len hn (by decide) rfl : ns.length = 2) with
    | [x, y], _ => exact step_none 13 [x, y] (.minBatchesIfTins x y) rfl (fun _ z => by cases z)
  · match ns, (okNs_len hn (by decide) rfl : ns.length = 1) with
    | [x], _ => exact step_none 14 [x] (.minBatchesIfCapacity x) rfl (fun _ z => by cases z)
  · exact step_none 15 ns (.checkBatches ns) rfl (fun _ z => by cases z)
  · match ns, (okNs_len hn (by decide) rfl : ns.length = 0) with
    | [], _ => exact step_none 16 [] (.describe) rfl (fun _ z => by cases z)
section
variable {P : Program} {w : World} {K : PySem.W.Frag} {mg : Str → Option Value} {base : Heap} {T : List (Addr × Str)} {C : Addr}
abbrev OkOp (P : Program) (w : World) (K : PySem.W.Frag) (mg : Str → Option Value) (base : Heap) (T : List (Addr × Str)) (C : Addr) (k : Nat) (x : Str) (p : Int) (pre : Sr99.State → List Int → Prop) : Prop := Ok P w K mg base k x ["oven", "numbers"] (spOp T K C p pre)
abbrev OkAns (P : Program) (w : World) (K : PySem.W.Frag) (mg : Str → Option Value) (base : Heap) (T : List (Addr × Str)) (C : Addr) (k : Nat) (x : Str) (pre : Sr99.State → Int → Prop) : Prop := Ok P w K mg base k x ["oven", "number", "numbers"] (spAns T K C pre)
abbrev s_answer_to_change : Stmt := top 68
theorem sc_answer_to_change : FnScope ["oven", "number", "numbers"] ["oven", "number", "numbers"] (defScope s_answer_to_change) := ⟨rfl, rfl, rfl, by decide +kernel, rfl, by decide +kernel, by decide +kernel⟩
theorem ok_answer_to_change (D : Dn K mg "answer_to_change" s_answer_to_change ["oven", "number", "numbers"]) (G : Gb K mg) (o_create : OkOp P w K mg base T C 2 "create" 0 fun _ ns => ns.length = 1) (o_add_product : OkOp P w K mg base T C 2 "add_product" 1 (preN 3)) (o_set_tins : OkOp P w K mg base T C 3 "set_tins" 2 (preN 2))
    (o_set_temperatures : OkOp P w K mg base T C 3 "set_temperatures" 3 (preN 3)) (o_remove_product : OkOp P w K mg base T C 2 "remove_product" 4 (preN 1)) (o_set_capacity : OkOp P w K mg base T C 2 "set_capacity" 5 (preN 1)) :
    OkAns P w K mg base T C 4 "answer_to_change" fun s p => (p = 0 ∨ s ≠ none) ∧ p < 6 := by
  refine D.ok sc_answer_to_change (fun vs H Q E h => by obtain ⟨_, _, _, _, _, rfl, _⟩ := h; rfl) (fun f cdv A outer sh H vs Q E hr h => ?_)
  obtain ⟨a, nl, s, p, ns, rfl, ov, ok, hnl, tb, hn, ⟨h0, h6⟩, q⟩ := h
  refine ⟨_, (pss_cons (ps_if (pt_cmpR op_eq (pv 1) (pe_gl G.CREATE (by rfl)) (nomark _)) (pss_one (ps_ret (pe_ok o_create hr (by decide) (by rfl) (pa_cons (pv 0) (pa_cons (pv 2) pa_nil))))) pss_nil)
    (pss_cons (ps_if (pt_cmpR op_eq (pv 1) pe_int (nomark _)) (pss_one (ps_ret (pe_ok o_add_product hr (by decide) (by rfl) (pa_cons (pv 0) (pa_cons (pv 2) pa_nil))))) pss_nil)
    (pss_cons (ps_if (pt_cmpR op_eq (pv 1) pe_int (nomark _)) (pss_one (ps_ret (pe_ok o_set_tins hr (by decide) (by rfl) (pa_cons (pv 0) (pa_cons (pv 2) pa_nil))))) pss_nil)
    (pss_cons (ps_if (pt_cmpR op_eq (pv 1) pe_int (nomark _)) (pss_one (ps_ret (pe_ok o_set_temperatures hr (by decide) (by rfl) (pa_cons (pv 0) (pa_cons (pv 2) pa_nil))))) pss_nil)
    (pss_cons (ps_if (pt_cmpR op_eq (pv 1) pe_int (nomark _)) (pss_one (ps_ret (pe_ok o_remove_product hr (by decide) (by rfl) (pa_cons (pv 0) (pa_cons (pv 2) pa_nil))))) pss_nil)
    (pss_one (ps_ret (pe_ok o_set_capacity hr (by decide) (by rfl) (pa_cons (pv 0) (pa_cons (pv 2) pa_nil)))))))))), ?_⟩
  refine ⟨_, rfl, rfl, _, rfl, ite2 (fun h => ?_) (fun h => ?_)⟩
  · obtain rfl := v_eq h
    exact ⟨_, rfl, _, rfl, a, nl, s, ns, rfl, ov, ok, hnl, tb, okNs_len hn (by decide) rfl, q⟩
  have n0 := v_ne h
  have hs : s ≠ none := h0.resolve_left n0
  refine ⟨_, rfl, rfl, _, rfl, ite2 (fun h => ?_) (fun h => ?_)⟩
  · obtain rfl := v_eq h
    exact ⟨_, rfl, _, rfl, a, nl, s, ns, rfl, ov, ok, hnl, tb, ⟨hs, okNs_len hn (by decide) rfl⟩, q⟩
  have n1 := v_ne h
  refine ⟨_, rfl, rfl, _, rfl, ite2 (fun h => ?_) (fun h => ?_)⟩
  · obtain rfl := v_eq h
    exact ⟨_, rfl, _, rfl, a, nl, s, ns, rfl, ov, ok, hnl, tb, ⟨hs, okNs_len hn (by decide) rfl⟩, q⟩
  have n2 := v_ne h
  refine ⟨_, rfl, rfl, _, rfl, ite2 (fun h => ?_) (fun h => ?_)⟩
  · obtain rfl := v_eq h
    exact ⟨_, rfl, _, rfl, a, nl, s, ns, rfl, ov, ok, hnl, tb, ⟨hs, okNs_len hn (by decide) rfl⟩, q⟩
  have n3 := v_ne h
  refine ⟨_, rfl, rfl, _, rfl, ite2 (fun h => ?_) (fun h => ?_)⟩
  · obtain rfl := v_eq h
    exact ⟨_, rfl, _, rfl, a, nl, s, ns, rfl, ov, ok, hnl, tb, ⟨hs, okNs_len hn (by decide) rfl⟩, q⟩
  have n4 := v_ne h
  have e : p = 5 := by
    rcases hn with z | z
    · omega
    · omega
  subst e
  exact ⟨_, rfl, _, rfl, a, nl, s, ns, rfl, ov, ok, hnl, tb, ⟨hs, okNs_len hn (by decide) rfl⟩, q⟩
abbrev s_answer_to_query : Stmt := top 69
theorem sc_answer_to_query : FnScope ["oven", "number", "numbers"] ["oven", "number", "numbers"] (defScope s_answer_to_query) := ⟨rfl, rfl, rfl, by decide +kernel, rfl, by decide +kernel, by decide +kernel⟩
theorem ok_answer_to_query (D : Dn K mg "answer_to_query" s_answer_to_query ["oven", "number", "numbers"]) (G : Gb K mg) (o_min_batches : OkOp P w K mg base T C 7 "min_batches" 6 (preN 0)) (o_batch : OkOp P w K mg base T C 7 "batch" 7 (preN 1)) (o_temperatures : OkOp P w K mg base T C 8 "temperatures" 8 (preN 0))
    (o_best_order : OkOp P w K mg base T C 8 "best_order" 9 (preN 1)) (o_min_change : OkOp P w K mg base T C 8 "min_change" 10 (preN 1)) :
    OkAns P w K mg base T C 9 "answer_to_query" fun s p => s ≠ none ∧ 6 ≤ p ∧ p < 11 := by
  refine D.ok sc_answer_to_query (fun vs H Q E h => by obtain ⟨_, _, _, _, _, rfl, _⟩ := h; rfl) (fun f cdv A outer sh H vs Q E hr h => ?_)
  obtain ⟨a, nl, s, p, ns, rfl, ov, ok, hnl, tb, hn, ⟨hs, h6, h11⟩, q⟩ := h
  refine ⟨_, (pss_cons (ps_if (pt_cmpR op_eq (pv 1) pe_int (nomark _)) (pss_one (ps_ret (pe_ok o_min_batches hr (by decide) (by rfl) (pa_cons (pv 0) (pa_cons (pv 2) pa_nil))))) pss_nil)
    (pss_cons (ps_if (pt_cmpR op_eq (pv 1) pe_int (nomark _)) (pss_one (ps_ret (pe_ok o_batch hr (by decide) (by rfl) (pa_cons (pv 0) (pa_cons (pv 2) pa_nil))))) pss_nil)
    (pss_cons (ps_if (pt_cmpR op_eq (pv 1) pe_int (nomark _)) (pss_one (ps_ret (pe_ok o_temperatures hr (by decide) (by rfl) (pa_cons (pv 0) (pa_cons (pv 2) pa_nil))))) pss_nil)
    (pss_cons (ps_if (pt_cmpR op_eq (pv 1) pe_int (nomark _)) (pss_one (ps_ret (pe_ok o_best_order hr (by decide) (by rfl) (pa_cons (pv 0) (pa_cons (pv 2) pa_nil))))) pss_nil)
    (pss_one (ps_ret (pe_ok o_min_change hr (by decide) (by rfl) (pa_cons (pv 0) (pa_cons (pv 2) pa_nil))))))))), ?_⟩
  refine ⟨_, rfl, rfl, _, rfl, ite2 (fun h => ?_) (fun h => ?_)⟩
  · obtain rfl := v_eq h
    exact ⟨_, rfl, _, rfl, a, nl, s, ns, rfl, ov, ok, hnl, tb, ⟨hs, okNs_len hn (by decide) rfl⟩, q⟩
  have n6 := v_ne h
  refine ⟨_, rfl, rfl, _, rfl, ite2 (fun h => ?_) (fun h => ?_)⟩
  · obtain rfl := v_eq h
    exact ⟨_, rfl, _, rfl, a, nl, s, ns, rfl, ov, ok, hnl, tb, ⟨hs, okNs_len hn (by decide) rfl⟩, q⟩
  have n7 := v_ne h
  refine ⟨_, rfl, rfl, _, rfl, ite2 (fun h => ?_) (fun h => ?_)⟩
  · obtain rfl := v_eq h
    exact ⟨_, rfl, _, rfl, a, nl, s, ns, rfl, ov, ok, hnl, tb, ⟨hs, okNs_len hn (by decide) rfl⟩, q⟩
  have n8 := v_ne h
  refine ⟨_, rfl, rfl, _, rfl, ite2 (fun h => ?_) (fun h => ?_)⟩
  · obtain rfl := v_eq h
    exact ⟨_, rfl, _, rfl, a, nl, s, ns, rfl, ov, ok, hnl, tb, ⟨hs, okNs_len hn (by decide) rfl⟩, q⟩
  have n9 := v_ne h
  have e : p = 10 := by omega
  subst e
  exact ⟨_, rfl, _, rfl, a, nl, s, ns, rfl, ov, ok, hnl, tb, ⟨hs, okNs_len hn (by decide) rfl⟩, q⟩
abbrev s_answer_to_later_query : Stmt := top 70
theorem sc_answer_to_later_query : FnScope ["oven", "number", "numbers"] ["oven", "number", "numbers"] (defScope s_answer_to_later_query) := ⟨rfl, rfl, rfl, by decide +kernel, rfl, by decide +kernel, by decide +kernel⟩
theorem ok_answer_to_later_query (D : Dn K mg "answer_to_later_query" s_answer_to_later_query ["oven", "number", "numbers"]) (G : Gb K mg) (o_are_compatible : OkOp P w K mg base T C 2 "are_compatible" 11 (preN 2)) (o_fill_batch : OkOp P w K mg base T C 6 "fill_batch" 12 (preN 1)) (o_min_batches_if_tins : OkOp P w K mg base T C 7 "min_batches_if_tins" 13 (preN 2))
    (o_min_batches_if_capacity : OkOp P w K mg base T C 7 "min_batches_if_capacity" 14 (preN 1)) (o_check_batches : OkOp P w K mg base T C 4 "check_batches" 15 fun s ns => s ≠ none ∧ ns.length ≤ 70) (o_describe : OkOp P w K mg base T C 1 "describe" 16 (preN 0)) :
    OkAns P w K mg base T C 8 "answer_to_later_query" fun s p => s ≠ none ∧ 11 ≤ p := by
  refine D.ok sc_answer_to_later_query (fun vs H Q E h => by obtain ⟨_, _, _, _, _, rfl, _⟩ := h; rfl) (fun f cdv A outer sh H vs Q E hr h => ?_)
  obtain ⟨a, nl, s, p, ns, rfl, ov, ok, hnl, tb, hn, ⟨hs, h11⟩, q⟩ := h
  refine ⟨_, (pss_cons (ps_if (pt_cmpR op_eq (pv 1) pe_int (nomark _)) (pss_one (ps_ret (pe_ok o_are_compatible hr (by decide) (by rfl) (pa_cons (pv 0) (pa_cons (pv 2) pa_nil))))) pss_nil)
    (pss_cons (ps_if (pt_cmpR op_eq (pv 1) pe_int (nomark _)) (pss_one (ps_ret (pe_ok o_fill_batch hr (by decide) (by rfl) (pa_cons (pv 0) (pa_cons (pv 2) pa_nil))))) pss_nil)
    (pss_cons (ps_if (pt_cmpR op_eq (pv 1) pe_int (nomark _)) (pss_one (ps_ret (pe_ok o_min_batches_if_tins hr (by decide) (by rfl) (pa_cons (pv 0) (pa_cons (pv 2) pa_nil))))) pss_nil)
    (pss_cons (ps_if (pt_cmpR op_eq (pv 1) pe_int (nomark _)) (pss_one (ps_ret (pe_ok o_min_batches_if_capacity hr (by decide) (by rfl) (pa_cons (pv 0) (pa_cons (pv 2) pa_nil))))) pss_nil)
    (pss_cons (ps_if (pt_cmpR op_eq (pv 1) pe_int (nomark _)) (pss_one (ps_ret (pe_ok o_check_batches hr (by decide) (by rfl) (pa_cons (pv 0) (pa_cons (pv 2) pa_nil))))) pss_nil)
    (pss_one (ps_ret (pe_ok o_describe hr (by decide) (by rfl) (pa_cons (pv 0) (pa_cons (pv 2) pa_nil)))))))))), ?_⟩
  refine ⟨_, rfl, rfl, _, rfl, ite2 (fun h => ?_) (fun h => ?_)⟩
  · obtain rfl := v_eq h
    exact ⟨_, rfl, _, rfl, a, nl, s, ns, rfl, ov, ok, hnl, tb, ⟨hs, okNs_len hn (by decide) rfl⟩, q⟩
  have n11 := v_ne h
  refine ⟨_, rfl, rfl, _, rfl, ite2 (fun h => ?_) (fun h => ?_)⟩
  · obtain rfl := v_eq h
    exact ⟨_, rfl, _, rfl, a, nl, s, ns, rfl, ov, ok, hnl, tb, ⟨hs, okNs_len hn (by decide) rfl⟩, q⟩
  have n12 := v_ne h
  refine ⟨_, rfl, rfl, _, rfl, ite2 (fun h => ?_) (fun h => ?_)⟩
  · obtain rfl := v_eq h
    exact ⟨_, rfl, _, rfl, a, nl, s, ns, rfl, ov, ok, hnl, tb, ⟨hs, okNs_len hn (by decide) rfl⟩, q⟩
  have n13 := v_ne h
  refine ⟨_, rfl, rfl, _, rfl, ite2 (fun h => ?_) (fun h => ?_)⟩
  · obtain rfl := v_eq h
    exact ⟨_, rfl, _, rfl, a, nl, s, ns, rfl, ov, ok, hnl, tb, ⟨hs, okNs_len hn (by decide) rfl⟩, q⟩
  have n14 := v_ne h
  refine ⟨_, rfl, rfl, _, rfl, ite2 (fun h => ?_) (fun h => ?_)⟩
  · obtain rfl := v_eq h
    have h70 : ns.length ≤ 70 := by
      rcases hn with z | z
      · exact z.2
      · exact absurd rfl z.2.2.1
    exact ⟨_, rfl, _, rfl, a, nl, s, ns, rfl, ov, ok, hnl, tb, ⟨hs, h70⟩, q⟩
  have n15 := v_ne h
  have e : p = 16 := by
    rcases hn with z | z
    · omega
    · omega
  subst e
  exact ⟨_, rfl, _, rfl, a, nl, s, ns, rfl, ov, ok, hnl, tb, ⟨hs, okNs_len hn (by decide) rfl⟩, q⟩
abbrev s_answer_to : Stmt := top 71
theorem sc_answer_to : FnScope ["oven", "number", "numbers"] ["oven", "number", "numbers"] (defScope s_answer_to) := ⟨rfl, rfl, rfl, by decide +kernel, rfl, by decide +kernel, by decide +kernel⟩
theorem ok_answer_to (D : Dn K mg "answer_to" s_answer_to ["oven", "number", "numbers"]) (G : Gb K mg) (M : Ms P w K mg base T C) (o_answer_to_change : OkAns P w K mg base T C 4 "answer_to_change" fun s p => (p = 0 ∨ s ≠ none) ∧ p < 6)
    (o_answer_to_query : OkAns P w K mg base T C 9 "answer_to_query" fun s p => s ≠ none ∧ 6 ≤ p ∧ p < 11) (o_answer_to_later_query : OkAns P w K mg base T C 8 "answer_to_later_query" fun s p => s ≠ none ∧ 11 ≤ p) : OkAns P w K mg base T C 10 "answer_to" fun _ _ => True := by
  refine D.ok sc_answer_to (fun vs H Q E h => by obtain ⟨_, _, _, _, _, rfl, _⟩ := h; rfl) (fun f cdv A outer sh H vs Q E hr h => ?_)
  obtain ⟨a, nl, s, p, ns, rfl, ov, ok, hnl, tb, hn, _, q⟩ := h
  refine ⟨_, (pss_cons (ps_if (PW.pt (pw_and (pt_cmpR op_ne (pv 1) (pe_gl G.CREATE (by rfl)) (nomark _)) (pw_and1 (pt_not (pt_val (pe_okm0 (pv 0) M.is_there hr (by decide))))))) (pss_one (ps_ret (pe_lst (pa_cons (pe_gl G.NO_INSTANCE (by rfl)) pa_nil)))) pss_nil)
    (pss_cons (ps_if (pt_cmpR op_lt (pv 1) pe_int (nomark _)) (pss_one (ps_ret (pe_ok o_answer_to_change hr (by decide) (by rfl) (pa_cons (pv 0) (pa_cons (pv 1) (pa_cons (pv 2) pa_nil)))))) pss_nil)
    (pss_cons (ps_if (pt_cmpR op_lt (pv 1) pe_int (nomark _)) (pss_one (ps_ret (pe_ok o_answer_to_query hr (by decide) (by rfl) (pa_cons (pv 0) (pa_cons (pv 1) (pa_cons (pv 2) pa_nil)))))) pss_nil)
    (pss_one (ps_ret (pe_ok o_answer_to_later_query hr (by decide) (by rfl) (pa_cons (pv 0) (pa_cons (pv 1) (pa_cons (pv 2) pa_nil))))))))), ?_⟩
  obtain ⟨dx, pl, ha, hps⟩ := id ov
  refine ⟨_, rfl, rfl, _, rfl, ite2 (fun h => ?_) (fun h => ?_)⟩
  · have n0 : p ≠ 0 := fun z => by
      rw [z] at h
      exact Bool.noConfusion (show false = true from h)
    refine ⟨_, rfl, a, dx, _, rfl, ha, no_it _ _, a, s, rfl, ov, _, rfl, ite2 (fun h2 => ?_) (fun h2 => ?_)⟩
    · have hs : s = none := by
        cases s with
        | none => rfl
        | some o => exact Bool.noConfusion (show false = true from h2)
      subst hs
      rw [step_none' hn n0] at q
      exact ⟨size7 (by decide), give q StayB.refl ov rfl⟩
    · have hs : s ≠ none := fun z => by
        rw [z] at h2
        exact h2 rfl
      refine ⟨_, rfl, _, _, rfl, rfl, _, rfl, ite2 (fun h => ?_) (fun h => ?_)⟩
      · exact ⟨_, rfl, _, rfl, _, rfl, a, nl, s, p, ns, rfl, ov, ok, hnl, tb, hn, ⟨.inr hs, of_decide_eq_true h⟩, q⟩
      have n6 : ¬ p < 6 := fun z => h (decide_eq_true z)
      refine ⟨_, rfl, _, _, rfl, rfl, _, rfl, ite2 (fun h => ?_) (fun h => ?_)⟩
      · exact ⟨_, rfl, _, rfl, _, rfl, a, nl, s, p, ns, rfl, ov, ok, hnl, tb, hn, ⟨hs, by omega, of_decide_eq_true h⟩, q⟩
      have n11 : ¬ p < 11 := fun z => h (decide_eq_true z)
      exact ⟨_, rfl, _, rfl, _, rfl, a, nl, s, p, ns, rfl, ov, ok, hnl, tb, hn, ⟨hs, by omega⟩, q⟩
  · have p0 : p = 0 := Classical.byContradiction fun z => h (by
      show (!decide (V.int p = V.int 0)) = true
      rw [decide_eq_false (fun e => z (V.int.inj e))]
      rfl)
    have hs : p = 0 ∨ s ≠ none := .inl p0
    refine ⟨_, rfl, _, _, rfl, rfl, _, rfl, ite2 (fun h => ?_) (fun h => ?_)⟩
    · exact ⟨_, rfl, _, rfl, _, rfl, a, nl, s, p, ns, rfl, ov, ok, hnl, tb, hn, ⟨hs, of_decide_eq_true h⟩, q⟩
    · exact absurd (decide_eq_true (show p < 6 by omega)) h
end
end Ov

set_option Elab.async false
set_option linter.all false
set_option maxRecDepth 100000
set_option maxHeartbeats 4000000
namespace Ov
open PySem PySem.Spec PyProof.Rows L2 LamX
open Sr99 (Product Oven Batch)
section
variable {T : List (Addr × Str)} {A B : List Addr} {K : PySem.W.Frag} {H H1 H2 : Hp} {C : Addr}
theorem StayB.mono (s : StayB T A H H1) (h : ∀ x ∈ A, x ∈ B) : StayB T B H H1 := by
  refine ⟨fun b o e n hb => s.keep b o e n fun z => hb (h b z), s.tabs, fun x hx C dx fs e => ?_⟩
  by_cases m : x ∈ A
  · obtain ⟨C', dx', fs', e1, e2⟩ := s.insK x m C dx fs e
    refine ⟨C', dx', fs', e1, fun pl z => ?_⟩
    rcases e2 pl z with y | y | y
    · exact .inl y
    · exact .inr (.inl y)
    · exact .inr (.inr (h pl y))
  · exact ⟨C, dx, fs, s.keep x _ e (fun ps z => by cases z) m, fun _ z => .inl z⟩
/-- a list that is neither the instance nor the list that grows -/
theorem seq_far {cl a fo : Addr} {xs : List V} {dx : Addr} {fs : List (Str × V)} {o : HO} (h : SqL K H cl xs) (hn : H fo = none) (ha : H a = some (.ins C dx fs)) : ∀ H', StayB T [a, fo] (upd H fo o) H' → SqL K H' cl xs := by
  intro H' s
  have far : ∀ u, H cl = some u → (∀ ps, u ≠ .tbl ps) → (∀ C dx fs, u ≠ .ins C dx fs) → H' cl = some u := fun u e n1 n2 => by
    have c1 : cl ≠ fo := ne_of_none e hn
    have c2 : cl ≠ a := fun z => by
      rw [z, ha] at e
      exact n2 _ _ _ (Option.some.inj e).symm
    exact s.keep cl u (by rw [upd_ne c1]; exact e) n1 (by simp [c1, c2])
  rcases h with (h | ⟨q, h⟩) | h
  · exact .inl (.inl (far _ h (fun ps z => by cases z) (fun _ _ _ z => by cases z)))
  · exact .inl (.inr ⟨q, far _ h (fun ps z => by cases z) (fun _ _ _ z => by cases z)⟩)
  · exact .inr h
theorem seq_new {cl a : Addr} {xs : List V} (h : SqL K H cl xs) (hn : H a = none) (s1 : Stay T H H1) (s2 : StayB T [a] H1 H2) : SqL K H2 cl xs := by
  have far : ∀ u, H cl = some u → (∀ ps, u ≠ .tbl ps) → H2 cl = some u := fun u e n1 => by
    have c1 : cl ≠ a := ne_of_none e hn
    exact s2.keep cl u (s1.keep cl u e n1 (by simp)) n1 (by simp [c1])
  rcases h with (h | ⟨q, h⟩) | h
  · exact .inl (.inl (far _ h (fun ps z => by cases z)))
  · exact .inl (.inr ⟨q, far _ h (fun ps z => by cases z)⟩)
  · exact .inr h
theorem PsAt.upd_lst {pl fo : Addr} {xs : List V} {ps : List Product} {o : HO} (h : PsAt K H pl ps) (e : H fo = some (.lst xs)) (na : pl ≠ fo) : PsAt K (upd H fo o) pl ps := by
  obtain ⟨vs, h1, h2⟩ := h
  refine ⟨vs, by rw [upd_ne na]; exact h1, psl_keep (A := [fo]) (fun b v e2 _ hb => ?_) h2 fun b hb => ?_⟩
  · have nb : b ≠ fo := fun z => hb (by rw [z]; simp)
    rw [upd_ne nb]
    exact e2
  · have eb : b = fo := by simpa using hb
    rw [eb]
    exact ⟨_, e, rfl⟩
theorem capV_ref (s : Sr99.State) (a : Addr) : capV s ≠ .ref a := by
  cases s <;> exact V.noConfusion
theorem pl_far {a fo dx pl dx3 pl3 : Addr} {s s3 : Sr99.State} {xs : List V} (st : StayB T [a] H H1) (ha : H a = some (.ins C dx (oF (capV s) pl))) (hf : H fo = some (.lst xs)) (n : pl ≠ fo) (ha3 : H1 a = some (.ins C dx3 (oF (capV s3) pl3))) (hp3 : PsAt K H1 pl3 (prods s3)) : pl3 ≠ fo := by
  obtain ⟨C', dx', fs', e1, e2⟩ := st.insK a (by simp) _ _ _ ha
  rw [ha3] at e1
  cases e1
  rcases e2 pl3 (List.mem_cons_of_mem _ (List.mem_singleton.mpr rfl)) with z | z | z
  · rw [pin_oF (fun x => capV_ref s x) z]
    exact n
  · exact (New.lst z hf).symm
  · have e : pl3 = a := by simpa using z
    obtain ⟨vs, h1, _⟩ := hp3
    rw [e, ha3] at h1
    cases h1
end
structure MkI (P : Program) (w : World) (K : PySem.W.Frag) (mg : Str → Option Value) (base : Heap) (T : List (Addr × Str)) (C : Addr) : Prop where
  ex : ∃ f fd, Mk K C f ∧ Binds K fd ["self"] [] ∧ FnOk P w K mg base CX0 1 f fd ["self"] (spInit T K C)
theorem size10 {n : Nat} (h : n ≤ 10000000) : n ≤ sizeLine := Nat.le_trans h (by decide)
section
variable {P : Program} {w : World} {K : PySem.W.Frag} {mg : Str → Option Value} {base : Heap} {T : List (Addr × Str)} {C : Addr}
def spTop (T : List (Addr × Str)) (K : PySem.W.Frag) : Sp := fun vs H Q _ => ∃ (cl : Addr) (l : List Int), vs = [.ref cl] ∧ SqL K H cl (iv l) ∧ PySr99.answers_asked l = true ∧ Tabs T H ∧ ∀ H' r, H' r = some (.lst (iv (PySr99.answers l))) → Q (.ref r) H'
abbrev s_answers : Stmt := top 72
theorem sc_answers : FnScope ["calls", "oven", "found", "at", "told"] ["calls"] (defScope s_answers) := ⟨rfl, rfl, rfl, by decide +kernel, rfl, by decide +kernel, by decide +kernel⟩
theorem fn_answers {f : Addr} {fd : FuncData} (F : Fun K "answers" "answers" s_answers f fd) (G : Gb K mg) (cl : ClT K mg C) (I : MkI P w K mg base T C) (o_answer_to : OkAns P w K mg base T C 10 "answer_to" fun _ _ => True) (o_numbers_of : Ok P w K mg base 4 "numbers_of" ["calls", "at"] (spNums T K)) (o_end_of_call : Ok P w K mg base 3 "end_of_call" ["calls", "at"] (spEnd K)) :
    FnOk P w K mg base CX0 11 f fd ["calls"] (spTop T K) := by
  obtain ⟨fi, fdi, mk, bi, Fi⟩ := I.ex
  refine F.ok sc_answers (fun vs H Q E h => by obtain ⟨_, _, rfl, _⟩ := h; rfl) (fun cdv A outer sh H vs Q E hr h => ?_)
  obtain ⟨c, l, rfl, hc, asked, tb, q⟩ := h
  obtain ⟨⟨cs0, left0⟩, lim⟩ := left_start asked
  refine ⟨_, (pss_cons (ps_set (i := 1) sc_answers.nd rfl (.inl rfl) (pe_make0 mk Fi (hr.mono (by decide)) (by rfl) cl.gC bi .nil pass0))
    (pss_cons (ps_set (i := 2) sc_answers.nd rfl (.inl rfl) (pe_lst pa_nil))
    (pss_cons (ps_set (i := 3) sc_answers.nd rfl (.inl rfl) pe_int)
    (pss_cons (ps_while PassesOwn.never (pt_cmpR op_lt (pv 3) (pe_callB call_len_seq (by rfl) G.len PySem.boot_len (pa_cons (pv 0) pa_nil)) (nomark _)) (pss_cons (ps_set (i := 4) sc_answers.nd rfl (.inl rfl) (pe_ok o_answer_to hr (by decide) (by rfl) (pa_cons (pv 1) (pa_cons (pe_ix (r := rIxL K) ix_list (pv 0) (pv 3) (fun _ _ => rfl)) (pa_cons (pe_ok o_numbers_of hr (by decide) (by rfl) (pa_cons (pv 0) (pa_cons (pv 3) pa_nil))) pa_nil)))))
    (pss_cons (ps_expr (pe_bm PySem.F.plainAttrs_list PySem.F.slot_list_append PySem.F.type_list_append mt_append (pv 2) (pa_cons (pe_callB call_len_seq (by rfl) G.len PySem.boot_len (pa_cons (pv 4) pa_nil)) pa_nil)))
    (pss_cons (ps_expr (pe_bm PySem.F.plainAttrs_list PySem.F.slot_list_extend PySem.F.type_list_extend mt_extend (pv 2) (pa_cons (pv 4) pa_nil)))
    (pss_one (ps_set (i := 3) sc_answers.nd rfl (.inl rfl) (pe_ok o_end_of_call hr (by decide) (by rfl) (pa_cons (pv 0) (pa_cons (pv 3) pa_nil)))))))))
    (pss_one (ps_ret (pv 2))))))), ?_⟩
  refine fun a dx0 hx hdx hne => ⟨a, dx0, rfl, upd_same, fun H1 st1 ov1 => ⟨rfl, ?_⟩⟩
  have stA : Stay T H (upd H dx0 (.own a)) := StayB.new hdx
  have stB : Stay T (upd H dx0 (.own a)) (upd (upd H dx0 (.own a)) a (.ins C dx0 [])) := StayB.new (by rw [upd_ne hne.symm]; exact hx)
  have stAB := stA.trans stB
  have hc1 : SqL K H1 c (iv l) := seq_new hc hx stAB st1
  have tb1 := st1.tabs (stAB.tabs tb)
  obtain ⟨dx, pl, ha1, hp1⟩ := ov1
  refine ⟨(by show 0 ≤ sizeLine; decide), fun fo hfo => ?_⟩
  have hcl := fun H' (s : StayB T [a, fo] (upd H1 fo (.lst [])) H') => seq_far (K := K) hc1 hfo ha1 H' s
  have naf : a ≠ fo := ne_of_none ha1 hfo
  have st0 : Stay T H1 (upd H1 fo (.lst [])) := StayB.new hfo
  have npf : pl ≠ fo := by
    obtain ⟨vs, h1, _⟩ := hp1
    exact ne_of_none h1 hfo
  have tb2 := st0.tabs tb1
  have hfI : ∀ (C : Addr) (dx : Addr) (fs : List (Str × V)), (upd H1 fo (.lst [])) fo = some (.ins C dx fs) → False := fun C dx fs e => by
    rw [upd_same] at e
    cases e
  refine ⟨fun m σ H' => ∃ (at_ : Nat) (out : List Int) (s : Sr99.State) (cs : List (List (List Int))) (y4 : Option V) (dx pl : Addr), m = cs.length ∧ σ = [some (.ref c), some (.ref a), some (.ref fo), some (.int at_), y4] ∧ StayB T [a, fo] (upd H1 fo (.lst [])) H' ∧
      H' a = some (.ins C dx (oF (capV s) pl)) ∧ PsAt K H' pl (prods s) ∧ pl ≠ fo ∧ OkS s ∧ H' fo = some (.lst (iv out)) ∧ Left l at_ out s cs,
    ⟨_, 0, [], none, cs0, none, dx, pl, rfl, rfl, StayB.refl, Stay.ins st0 ha1, Stay.ps st0 hp1, npf, (fun o e => nomatch e), upd_same, left0⟩, ?_⟩
  rintro m σ H2 ⟨at_, out, s, cs, y4, dx, pl, rfl, rfl, st2, ha2, hp2, np2, ok, hfo2, left⟩
  have hc2 := hcl H2 st2
  refine ⟨_, rfl, _, rfl, c, iv l, rfl, .inl hc2, _, _, rfl, rfl, _, rfl, ite2 (fun h => ?_) (fun h => ?_)⟩
  · have hat : at_ < l.length := by
      have := of_decide_eq_true h
      rw [iv_len] at this
      omega
    obtain ⟨p, ns, cs', hok, hlt, hp, h15, hn15, hlen, left'⟩ := left_turn left hat
    have rd : RdAt l at_ p ns := ⟨hok, hp, h15, hn15⟩
    refine ⟨fun σ' H' => ∃ m', m' < cs.length ∧ ∃ (at_ : Nat) (out : List Int) (s : Sr99.State) (cs : List (List (List Int))) (y4 : Option V) (dx pl : Addr), m' = cs.length ∧ σ' = [some (.ref c), some (.ref a), some (.ref fo), some (.int at_), y4] ∧ StayB T [a, fo] (upd H1 fo (.lst [])) H' ∧
      H' a = some (.ins C dx (oF (capV s) pl)) ∧ PsAt K H' pl (prods s) ∧ pl ≠ fo ∧ OkS s ∧ H' fo = some (.lst (iv out)) ∧ Left l at_ out s cs, fun _ _ z => z, ?_⟩
    refine ⟨_, rfl, _, rfl, _, rfl, _, _, _, _, rfl, rfl, hc2, atI_nat (iv_get hp), _, rfl, _, rfl, c, l, at_, p, ns, rfl, hc2, rd, fun H3 r st3 hr3 hr3' => ?_⟩
    have ha3 := Stay.ins st3 ha2
    have hp3 := Stay.ps st3 hp2
    have hfo3 := Stay.lst st3 hfo2
    have st23 := st2.trans st3.b
    refine ⟨a, r, s, p, ns, rfl, ⟨dx, pl, ha3, hp3⟩, ok, hr3', st23.tabs tb2, hok, trivial, fun H4 t st4 ov4 nt ht => ?_⟩
    obtain ⟨dx4, pl4, ha4, hp4⟩ := ov4
    have np4 := pl_far st4 ha3 hfo3 np2 ha4 hp4
    have hfo4 : H4 fo = some (.lst (iv out)) := StayB.lst st4 hfo3 (by simpa using naf.symm)
    have ntf : fo ≠ t := New.lst nt hfo3
    have st24 := st23.trans (st4.mono (B := [a, fo]) (fun x hx => by simp at hx; simp [hx]))
    have hout : out.length + 1 + (stepM s p ns).2.length ≤ 10000000 := by
      have := hlen
      rw [List.length_append, List.length_cons] at this
      omega
    refine ⟨_, rfl, .inl ⟨rfl, _, SqL.of hfo4⟩, _, rfl, t, _, rfl, .inl (SqL.of ht), fo, iv out, _, rfl, rfl, hfo4, ?_, ?_⟩
    · rw [iv_len]
      exact Nat.lt_of_le_of_lt (show out.length ≤ 10000000 by omega) (by decide)
    have wI : ∀ (o : HO), ∀ (C : Addr) (dx : Addr) (fs : List (Str × V)), (upd H1 fo (.lst [])) fo = some (.ins C dx fs) → ∃ C' dx' fs', o = .ins C' dx' fs' ∧ ∀ pl : Addr, PIn fs' pl → PIn fs pl ∨ New (upd H1 fo (.lst [])) pl ∨ pl ∈ [a, fo] := fun o C dx fs e => (hfI C dx fs e).elim
    have st5 := StayB.wr (o := .lst (iv out ++ [.int (iv (stepM s p ns).2).length])) st24 (by simp) hfo4 rfl (wI _)
    have ht5 : upd H4 fo (.lst (iv out ++ [.int (iv (stepM s p ns).2).length])) t = some (.lst (iv (stepM s p ns).2)) := by
      rw [upd_ne ntf.symm]
      exact ht
    refine ⟨_, rfl, .inl ⟨rfl, _, SqL.of upd_same⟩, _, rfl, fo, t, _, _, rfl, rfl, upd_same, ht5, ?_, ?_⟩
    · rw [List.length_append, iv_len, iv_len]
      exact size10 hout
    have st6 := StayB.wr (o := .lst (iv out ++ [.int (iv (stepM s p ns).2).length] ++ iv (stepM s p ns).2)) st5 (by simp) upd_same rfl (wI _)
    refine ⟨_, rfl, _, rfl, c, l, at_, p, ns, rfl, hcl _ st6, rd, ?_⟩
    refine ⟨_, hlt, _, out ++ ((stepM s p ns).2.length : Int) :: (stepM s p ns).2, (stepM s p ns).1, cs', _, dx4, pl4, rfl, rfl, st6, ?_, ?_, np4, step_ok s p ns ok hok, ?_, ?_⟩
    · rw [upd_ne naf, upd_ne naf]
      exact ha4
    · exact (hp4.upd_lst hfo4 np4).upd_lst upd_same np4
    · rw [upd_same, iv_append, iv_len]
      refine congrArg (fun z => some (HO.lst z)) ?_
      rw [List.append_assoc]
      rfl
    · have e : stM p at_ + ns.length = if p = 15 then at_ + 2 + ns.length else at_ + 1 + ns.length := by
        unfold stM
        split <;> rfl
      rw [e]
      exact left'
  · have hat : l.length ≤ at_ := by
      have : ¬ ((at_ : Int) < ((iv l).length : Int)) := fun z => h (decide_eq_true z)
      rw [iv_len] at this
      omega
    have e := left_end left hat
    rw [e] at hfo2
    exact ⟨_, rfl, q H2 fo hfo2⟩
end
end Ov

set_option Elab.async false
set_option linter.all false
set_option maxRecDepth 100000
set_option maxHeartbeats 4000000
namespace Ov
open PySem PySem.Spec PyProof.Rows L2 LamX
open Sr99 (Product Oven Batch)
/-! ### the end: what the top has written -/
/-- the def st stands at the module's name x -/
structure DnF (K : PySem.W.Frag) (x : Str) (st : Stmt) : Prop where
  ex : ∃ (f : Addr) (oc : Value) (od an : Option Addr) (kV doc pm cd ct : Value) (osl : Array (Option Value)), PySem.W.nsIn K mainGlobals x = some (some (.ref f)) ∧
    K.lookup f = some ⟨oc, od, .func (PySem.W.fnOf x x (defArgs st) (defBody st) (defScope st) .none kV doc pm an cd ct), osl⟩ ∧ PySem.W.codeIn K cd x = true ∧ PySem.W.keepIn K (.ref f) = true
theorem dnF_mk {K : PySem.W.Frag} {x : Str} {st : Stmt} {f : Addr} {oc : Value} {od an : Option Addr} {kV doc pm cd ct : Value} {osl : Array (Option Value)} (a : PySem.W.nsIn K mainGlobals x = some (some (.ref f)))
    (l : K.lookup f = some ⟨oc, od, .func (PySem.W.fnOf x x (defArgs st) (defBody st) (defScope st) .none kV doc pm an cd ct), osl⟩) (c : PySem.W.codeIn K cd x = true) (k : PySem.W.keepIn K (.ref f) = true) : DnF K x st :=
  ⟨f, oc, od, an, kV, doc, pm, cd, ct, osl, a, l, c, k⟩
/-- the method m of the class -/
structure DmF (K : PySem.W.Frag) (C : Addr) (m qual : Str) (st : Stmt) : Prop where
  ex : ∃ (f : Addr) (oc : Value) (od an : Option Addr) (kV doc pm cd ct : Value) (osl : Array (Option Value)), PySem.W.findIn K (.ref C) m = some (some (.ref f)) ∧ PySem.W.isFn K (.ref f) = true ∧
    K.lookup f = some ⟨oc, od, .func (PySem.W.fnOf m qual (defArgs st) (defBody st) (defScope st) .none kV doc pm an cd ct), osl⟩ ∧ PySem.W.codeIn K cd qual = true ∧ PySem.W.keepIn K (.ref f) = true
theorem dmF_mk {K : PySem.W.Frag} {C : Addr} {m qual : Str} {st : Stmt} {f : Addr} {oc : Value} {od an : Option Addr} {kV doc pm cd ct : Value} {osl : Array (Option Value)} (a : PySem.W.findIn K (.ref C) m = some (some (.ref f))) (i : PySem.W.isFn K (.ref f) = true)
    (l : K.lookup f = some ⟨oc, od, .func (PySem.W.fnOf m qual (defArgs st) (defBody st) (defScope st) .none kV doc pm an cd ct), osl⟩) (c : PySem.W.codeIn K cd qual = true) (k : PySem.W.keepIn K (.ref f) = true) : DmF K C m qual st :=
  ⟨f, oc, od, an, kV, doc, pm, cd, ct, osl, a, i, l, c, k⟩
/-- the def that makes the lambda, its code object at c, the table of code objects at Pt -/
structure DlF (K : PySem.W.Frag) (x : Str) (st : Stmt) (c Pt : Addr) : Prop where
  ex : ∃ (f : Addr) (oc : Value) (od an : Option Addr) (kV doc pm ct : Value) (osl : Array (Option Value)), PySem.W.nsIn K mainGlobals x = some (some (.ref f)) ∧
    K.lookup f = some ⟨oc, od, .func (PySem.W.fnOf x x (defArgs st) (defBody st) (defScope st) .none kV doc pm an (.ref c) ct), osl⟩ ∧ PySem.W.codeIn K (.ref c) x = true ∧ PySem.W.keepIn K (.ref f) = true
  tb : ∃ (o1 : Value) (o2 : Option Addr) (vs : Array Value) (o3 : Array (Option Value)), K.lookup c = some ⟨o1, o2, .fields vs, o3⟩ ∧ vs[11]? = some (.ref Pt)
theorem dlF_mk {K : PySem.W.Frag} {x : Str} {st : Stmt} {f c Pt : Addr} {oc o1 : Value} {od an o2 : Option Addr} {kV doc pm ct : Value} {osl o3 : Array (Option Value)} {vs : Array Value} (a : PySem.W.nsIn K mainGlobals x = some (some (.ref f)))
    (l : K.lookup f = some ⟨oc, od, .func (PySem.W.fnOf x x (defArgs st) (defBody st) (defScope st) .none kV doc pm an (.ref c) ct), osl⟩) (cd : PySem.W.codeIn K (.ref c) x = true) (k : PySem.W.keepIn K (.ref f) = true) (lc : K.lookup c = some ⟨o1, o2, .fields vs, o3⟩) (v : vs[11]? = some (.ref Pt)) : DlF K x st c Pt :=
  ⟨⟨f, oc, od, an, kV, doc, pm, ct, osl, a, l, cd, k⟩, ⟨o1, o2, vs, o3, lc, v⟩⟩
theorem DlF.tab {K : PySem.W.Frag} {x : Str} {st : Stmt} {c Pt : Addr} (D : DlF K x st c Pt) : PySem.W.tabIn K x = some (c, Pt) := by
  obtain ⟨⟨f, oc, od, an, kV, doc, pm, ct, osl, a, l, cd, k⟩, ⟨o1, o2, vs, o3, lc, v⟩⟩ := D
  unfold PySem.W.tabIn
  rw [a]
  dsimp only
  rw [l]
  dsimp only [PySem.W.fnOf]
  rw [lc]
  dsimp only
  rw [v]
section
variable {K : PySem.W.Frag} {h : Heap} {mg : Str → Option Value}
theorem DnF.dn {x : Str} {st : Stmt} {ps : List Str} (D : DnF K x st) (X : K.In h) (G : h.Ns mainGlobals mg)
    (b : ∀ (kV doc pm : Value) (an : Option Addr) (cdv ct : Value) (us : List Value), us.length = ps.length → bindArgs (PySem.W.fnOf x x (defArgs st) (defBody st) (defScope st) .none kV doc pm an cdv ct) ⟨us, []⟩ = pure (ps.zip us)) : Dn K mg x st ps := by
  obtain ⟨f, oc, od, an, kV, doc, pm, cd, ct, osl, a, l, c, k⟩ := D.ex
  exact ⟨f, _, fun_mk l c k, (fun_mk l c k).binds b, PySem.W.mg_of X G a⟩
theorem DmF.dn {C : Addr} {m qual : Str} {st : Stmt} {ps : List Str} (D : DmF K C m qual st)
    (b : ∀ (kV doc pm : Value) (an : Option Addr) (cdv ct : Value) (us : List Value), us.length = ps.length → bindArgs (PySem.W.fnOf m qual (defArgs st) (defBody st) (defScope st) .none kV doc pm an cdv ct) ⟨us, []⟩ = pure (ps.zip us)) : DnM K C m qual st ps := by
  obtain ⟨f, oc, od, an, kV, doc, pm, cd, ct, osl, a, i, l, c, k⟩ := D.ex
  exact ⟨f, _, fun_mk l c k, (fun_mk l c k).binds b, a, i, k⟩
theorem DlF.dn {x : Str} {st : Stmt} {ps : List Str} {c Pt : Addr} (D : DlF K x st c Pt) (X : K.In h) (G : h.Ns mainGlobals mg)
    (b : ∀ (kV doc pm : Value) (an : Option Addr) (cdv ct : Value) (us : List Value), us.length = ps.length → bindArgs (PySem.W.fnOf x x (defArgs st) (defBody st) (defScope st) .none kV doc pm an cdv ct) ⟨us, []⟩ = pure (ps.zip us)) : DnL K mg x st ps c := by
  obtain ⟨f, oc, od, an, kV, doc, pm, ct, osl, a, l, cd, k⟩ := D.ex
  exact ⟨f, oc, od, kV, doc, pm, an, ct, osl, l, cd, k, (fun_mk l cd k).binds b, PySem.W.mg_of X G a⟩
end
/-- a constant int of the module -/
structure CnF (K : PySem.W.Frag) (x : Str) (n : Int) : Prop where
  ex : ∃ t, PySem.W.nsIn K mainGlobals x = some (some (.int n t))
theorem cnF_mk {K : PySem.W.Frag} {x : Str} {n : Int} {t : Tok} (a : PySem.W.nsIn K mainGlobals x = some (some (.int n t))) : CnF K x n := ⟨t, a⟩
/-- the tuple MANY_NUMBERS -/
structure TpF (K : PySem.W.Frag) (x : Str) (vs : List V) : Prop where
  ex : ∃ (a : Addr) (od : Option Addr) (its : Array Value) (n : Nat) (sl : Array (Option Value)), PySem.W.nsIn K mainGlobals x = some (some (.ref a)) ∧ K.lookup a = some ⟨.type "tuple", od, .seq its n, sl⟩ ∧ its.size ≤ sizeLine ∧ Vals vs its.toList
theorem tpF_mk {K : PySem.W.Frag} {x : Str} {vs : List V} {a : Addr} {od : Option Addr} {its : Array Value} {n : Nat} {sl : Array (Option Value)} (h : PySem.W.nsIn K mainGlobals x = some (some (.ref a))) (l : K.lookup a = some ⟨.type "tuple", od, .seq its n, sl⟩) (z : its.size ≤ sizeLine) (r : Vals vs its.toList) : TpF K x vs :=
  ⟨a, od, its, n, sl, h, l, z, r⟩
structure Txt (K : PySem.W.Frag) (C c Pt : Addr) : Prop where
  gC : PySem.W.nsIn K mainGlobals "Oven" = some (some (.ref C))
  pg : PySem.W.plainGet K C Str.empty = true
  hd : PySem.W.hasDictIn K C = true
  po : PySem.W.plainOver K C = true
  sa : PySem.W.findIn K (.ref C) "__setattr__" = some (some (.builtin "object.__setattr__"))
  mk0 : PySem.W.makesIn K C = true
  kc : PySem.W.keepIn K (.ref C) = true
  nC : PySem.W.findIn K (.ref C) "capacity" = some none
  nP : PySem.W.findIn K (.ref C) "products" = some none
  many : TpF K "MANY_NUMBERS" manyV
  c_NO_INSTANCE : CnF K "NO_INSTANCE" (-11)
  c_NOT_THERE : CnF K "NOT_THERE" (-2)
  c_OUT_OF_RANGE : CnF K "OUT_OF_RANGE" (-22)
  c_FULL : CnF K "FULL" (-28)
  c_MOST_PRODUCTS : CnF K "MOST_PRODUCTS" (6)
  c_GREATEST_CAPACITY : CnF K "GREATEST_CAPACITY" (20)
  c_GREATEST_TEMPERATURE : CnF K "GREATEST_TEMPERATURE" (400)
  c_GREATEST_TINS : CnF K "GREATEST_TINS" (9)
  c_CHECK_BATCHES : CnF K "CHECK_BATCHES" (15)
  c_CREATE : CnF K "CREATE" (0)
  z_len : PySem.W.nsIn K mainGlobals "len" = some none
  z_list : PySem.W.nsIn K mainGlobals "list" = some none
  z_max : PySem.W.nsIn K mainGlobals "max" = some none
  z_min : PySem.W.nsIn K mainGlobals "min" = some none
  z_sum : PySem.W.nsIn K mainGlobals "sum" = some none
  z_zip : PySem.W.nsIn K mainGlobals "zip" = some none
  z_range : PySem.W.nsIn K mainGlobals "range" = some none
  z_sorted : PySem.W.nsIn K mainGlobals "sorted" = some none
  z_abs : PySem.W.nsIn K mainGlobals "abs" = some none
  m___init__ : DmF K C "__init__" "Oven.__init__" s_Oven___init__
  m_is_there : DmF K C "is_there" "Oven.is_there" s_Oven_is_there
  m_has_product : DmF K C "has_product" "Oven.has_product" s_Oven_has_product
  m_take_capacity : DmF K C "take_capacity" "Oven.take_capacity" s_Oven_take_capacity
  m_take_products : DmF K C "take_products" "Oven.take_products" s_Oven_take_products
  d_is_capacity : DnF K "is_capacity" s_is_capacity
  d_is_temperature : DnF K "is_temperature" s_is_temperature
  d_are_tins : DnF K "are_tins" s_are_tins
  d_is_range : DnF K "is_range" s_is_range
  d_can_be_baked : DnF K "can_be_baked" s_can_be_baked
  d_have_common_temperature : DnF K "have_common_temperature" s_have_common_temperature
  d_tins_of : DnF K "tins_of" s_tins_of
  d_with_product : DnF K "with_product" s_with_product
  d_with_tins : DnF K "with_tins" s_with_tins
  d_with_range : DnF K "with_range" s_with_range
  d_without_product : DnF K "without_product" s_without_product
  d_create : DnF K "create" s_create
  d_add_product : DnF K "add_product" s_add_product
  d_set_tins : DnF K "set_tins" s_set_tins
  d_set_temperatures : DnF K "set_temperatures" s_set_temperatures
  d_remove_product : DnF K "remove_product" s_remove_product
  d_set_capacity : DnF K "set_capacity" s_set_capacity
  d_has_negative : DnF K "has_negative" s_has_negative
  d_can_be_divided : DnF K "can_be_divided" s_can_be_divided
  d_divided : DnF K "divided" s_divided
  d_is_batch : DnF K "is_batch" s_is_batch
  d_tins_in_all : DnF K "tins_in_all" s_tins_in_all
  d_is_solution : DnF K "is_solution" s_is_solution
  d_baking_order : DlF K "baking_order" s_baking_order c Pt
  d_tins_put : DnF K "tins_put" s_tins_put
  d_filled : DnF K "filled" s_filled
  d_next_temperature : DnF K "next_temperature" s_next_temperature
  d_left_over : DnF K "left_over" s_left_over
  d_planned : DnF K "planned" s_planned
  d_total_change : DnF K "total_change" s_total_change
  d_best_ordered : DnF K "best_ordered" s_best_ordered
  d_planned_temperatures : DnF K "planned_temperatures" s_planned_temperatures
  d_min_batches : DnF K "min_batches" s_min_batches
  d_batch : DnF K "batch" s_batch
  d_temperatures : DnF K "temperatures" s_temperatures
  d_best_order : DnF K "best_order" s_best_order
  d_min_change : DnF K "min_change" s_min_change
  d_are_compatible : DnF K "are_compatible" s_are_compatible
  d_fill_batch : DnF K "fill_batch" s_fill_batch
  d_min_batches_if_tins : DnF K "min_batches_if_tins" s_min_batches_if_tins
  d_min_batches_if_capacity : DnF K "min_batches_if_capacity" s_min_batches_if_capacity
  d_check_batches : DnF K "check_batches" s_check_batches
  d_describe : DnF K "describe" s_describe
  d_has_row : DnF K "has_row" s_has_row
  d_start_of_numbers : DnF K "start_of_numbers" s_start_of_numbers
  d_end_of_call : DnF K "end_of_call" s_end_of_call
  d_numbers_of : DnF K "numbers_of" s_numbers_of
  d_answer_to_change : DnF K "answer_to_change" s_answer_to_change
  d_answer_to_query : DnF K "answer_to_query" s_answer_to_query
  d_answer_to_later_query : DnF K "answer_to_later_query" s_answer_to_later_query
  d_answer_to : DnF K "answer_to" s_answer_to
  d_answers : DnF K "answers" s_answers
theorem all_mk {P : Program} {w : World} {K : PySem.W.Frag} {h : Heap} {mg : Str → Option Value} {fa C c Pt : Addr} (X : K.In h) (N : h.Ns mainGlobals mg) (hfa : mg "answers" = some (.ref fa)) (F : Txt K C c Pt) :
    ∃ fd : FuncData, (∀ (s : Shared) (us : List Value), us.length = (["calls"] : List Str).length → BindsTo s fd ⟨us, []⟩ ((["calls"] : List Str).zip us)) ∧
      ∀ base : Heap, K.In base → base.Ns mainGlobals mg → (∀ p ∈ [(c, Pt)], TabB base mg p.1 p.2) → FnOk P w K mg base CX0 11 fa fd ["calls"] (spTop [(Pt, lamQ)] K) := by
  obtain ⟨fz, ocz, odz, anz, kVz, docz, pmz, cdz, ctz, oslz, az, lz, cz, kz⟩ := F.d_answers.ex
  have ez := hfa.symm.trans (PySem.W.mg_of X N az)
  cases ez
  have G : Gb K mg := {
    len := PySem.W.mg_none_of X N F.z_len
    list := PySem.W.mg_none_of X N F.z_list
    max := PySem.W.mg_none_of X N F.z_max
    min := PySem.W.mg_none_of X N F.z_min
    sum := PySem.W.mg_none_of X N F.z_sum
    zip := PySem.W.mg_none_of X N F.z_zip
    range := PySem.W.mg_none_of X N F.z_range
    sorted := PySem.W.mg_none_of X N F.z_sorted
    abs := PySem.W.mg_none_of X N F.z_abs
    NO_INSTANCE := F.c_NO_INSTANCE.ex.elim fun t e => ⟨t, PySem.W.mg_of X N e⟩
    NOT_THERE := F.c_NOT_THERE.ex.elim fun t e => ⟨t, PySem.W.mg_of X N e⟩
    OUT_OF_RANGE := F.c_OUT_OF_RANGE.ex.elim fun t e => ⟨t, PySem.W.mg_of X N e⟩
    FULL := F.c_FULL.ex.elim fun t e => ⟨t, PySem.W.mg_of X N e⟩
    MOST_PRODUCTS := F.c_MOST_PRODUCTS.ex.elim fun t e => ⟨t, PySem.W.mg_of X N e⟩
    GREATEST_CAPACITY := F.c_GREATEST_CAPACITY.ex.elim fun t e => ⟨t, PySem.W.mg_of X N e⟩
    GREATEST_TEMPERATURE := F.c_GREATEST_TEMPERATURE.ex.elim fun t e => ⟨t, PySem.W.mg_of X N e⟩
    GREATEST_TINS := F.c_GREATEST_TINS.ex.elim fun t e => ⟨t, PySem.W.mg_of X N e⟩
    CHECK_BATCHES := F.c_CHECK_BATCHES.ex.elim fun t e => ⟨t, PySem.W.mg_of X N e⟩
    CREATE := F.c_CREATE.ex.elim fun t e => ⟨t, PySem.W.mg_of X N e⟩
    MANY_NUMBERS := by
      obtain ⟨a, od, its, n, sl, e, l, z, r⟩ := F.many.ex
      exact ⟨a, PySem.W.mg_of X N e, fun H => .inr ⟨_, its, n, l, rfl, rfl, z, r⟩⟩ }
  have cl : ClT K mg C := ⟨⟨F.pg, F.hd, F.po, F.sa⟩, F.nC, F.nP, PySem.W.mg_of X N F.gC⟩
  refine ⟨PySem.W.fnOf "answers" "answers" (defArgs s_answers) (defBody s_answers) (defScope s_answers) .none kVz docz pmz anz cdz ctz, fun s us hu => match us, hu with | [_], _ => .of_eq rfl, fun base _ _ hTB => ?_⟩
  have TB : TabB base mg c Pt := hTB (c, Pt) (List.mem_singleton.mpr rfl)
  obtain ⟨fi, oci, odi, ani, kVi, doci, pmi, cdi, cti, osli, ai, ii, li, ci, ki⟩ := F.m___init__.ex
  have I : MkI P w K mg base [(Pt, lamQ)] C := ⟨fi, _, ⟨F.mk0, ai, ii, F.kc⟩, (fun_mk li ci ki).binds (fun _ _ _ _ _ _ us hl => match us, hl with | [_], _ => rfl), fn_init (fun_mk li ci ki) cl⟩
  have dm_is_there : DnM K C "is_there" "Oven.is_there" s_Oven_is_there ["self"] := F.m_is_there.dn (fun _ _ _ _ _ _ us hl => match us, hl with | [_], _ => rfl)
  have dm_has_product : DnM K C "has_product" "Oven.has_product" s_Oven_has_product ["self", "number"] := F.m_has_product.dn (fun _ _ _ _ _ _ us hl => match us, hl with | [_, _], _ => rfl)
  have dm_take_capacity : DnM K C "take_capacity" "Oven.take_capacity" s_Oven_take_capacity ["self", "capacity"] := F.m_take_capacity.dn (fun _ _ _ _ _ _ us hl => match us, hl with | [_, _], _ => rfl)
  have dm_take_products : DnM K C "take_products" "Oven.take_products" s_Oven_take_products ["self", "products"] := F.m_take_products.dn (fun _ _ _ _ _ _ us hl => match us, hl with | [_, _], _ => rfl)
  have M : Ms P w K mg base [(Pt, lamQ)] C := ⟨ok_is_there dm_is_there cl, ok_has_product dm_has_product cl G, ok_take_capacity dm_take_capacity cl, ok_take_products dm_take_products cl G⟩
  have D_is_capacity : Dn K mg "is_capacity" s_is_capacity ["number"] := F.d_is_capacity.dn X N (fun _ _ _ _ _ _ us hl => match us, hl with | [_], _ => rfl)
  have o_is_capacity := ok_is_capacity (P := P) (w := w) (base := base) D_is_capacity G
  have D_is_temperature : Dn K mg "is_temperature" s_is_temperature ["number"] := F.d_is_temperature.dn X N (fun _ _ _ _ _ _ us hl => match us, hl with | [_], _ => rfl)
  have o_is_temperature := ok_is_temperature (P := P) (w := w) (base := base) D_is_temperature G
  have D_are_tins : Dn K mg "are_tins" s_are_tins ["number"] := F.d_are_tins.dn X N (fun _ _ _ _ _ _ us hl => match us, hl with | [_], _ => rfl)
  have o_are_tins := ok_are_tins (P := P) (w := w) (base := base) D_are_tins G
  have D_is_range : Dn K mg "is_range" s_is_range ["lowest", "highest"] := F.d_is_range.dn X N (fun _ _ _ _ _ _ us hl => match us, hl with | [_, _], _ => rfl)
  have o_is_range := ok_is_range (P := P) (w := w) (base := base) D_is_range G
  have D_can_be_baked : Dn K mg "can_be_baked" s_can_be_baked ["product", "temperature"] := F.d_can_be_baked.dn X N (fun _ _ _ _ _ _ us hl => match us, hl with | [_, _], _ => rfl)
  have o_can_be_baked := ok_can_be_baked (P := P) (w := w) (base := base) D_can_be_baked G
  have D_have_common_temperature : Dn K mg "have_common_temperature" s_have_common_temperature ["product", "other"] := F.d_have_common_temperature.dn X N (fun _ _ _ _ _ _ us hl => match us, hl with | [_, _], _ => rfl)
  have o_have_common_temperature := ok_have_common_temperature (P := P) (w := w) (base := base) D_have_common_temperature G
  have D_tins_of : Dn K mg "tins_of" s_tins_of ["products"] := F.d_tins_of.dn X N (fun _ _ _ _ _ _ us hl => match us, hl with | [_], _ => rfl)
  have o_tins_of := ok_tins_of (P := P) (w := w) (base := base) (T := [(Pt, lamQ)]) D_tins_of G
  have D_with_product : Dn K mg "with_product" s_with_product ["products", "place", "product"] := F.d_with_product.dn X N (fun _ _ _ _ _ _ us hl => match us, hl with | [_, _, _], _ => rfl)
  have o_with_product := ok_with_product (P := P) (w := w) (base := base) (T := [(Pt, lamQ)]) D_with_product G
  have D_with_tins : Dn K mg "with_tins" s_with_tins ["products", "place", "tins"] := F.d_with_tins.dn X N (fun _ _ _ _ _ _ us hl => match us, hl with | [_, _, _], _ => rfl)
  have o_with_tins := ok_with_tins (P := P) (w := w) (base := base) (T := [(Pt, lamQ)]) D_with_tins G o_with_product
  have D_with_range : Dn K mg "with_range" s_with_range ["products", "place", "lowest", "highest"] := F.d_with_range.dn X N (fun _ _ _ _ _ _ us hl => match us, hl with | [_, _, _, _], _ => rfl)
  have o_with_range := ok_with_range (P := P) (w := w) (base := base) (T := [(Pt, lamQ)]) D_with_range G o_with_product
  have D_without_product : Dn K mg "without_product" s_without_product ["products", "place"] := F.d_without_product.dn X N (fun _ _ _ _ _ _ us hl => match us, hl with | [_, _], _ => rfl)
  have o_without_product := ok_without_product (P := P) (w := w) (base := base) (T := [(Pt, lamQ)]) D_without_product G
  have D_create : Dn K mg "create" s_create ["oven", "numbers"] := F.d_create.dn X N (fun _ _ _ _ _ _ us hl => match us, hl with | [_, _], _ => rfl)
  have o_create := ok_create (P := P) (w := w) (base := base) (T := [(Pt, lamQ)]) (C := C) D_create G M o_is_capacity
  have D_add_product : Dn K mg "add_product" s_add_product ["oven", "numbers"] := F.d_add_product.dn X N (fun _ _ _ _ _ _ us hl => match us, hl with | [_, _], _ => rfl)
  have o_add_product := ok_add_product (P := P) (w := w) (base := base) (T := [(Pt, lamQ)]) (C := C) D_add_product G M cl o_is_range o_are_tins
  have D_set_tins : Dn K mg "set_tins" s_set_tins ["oven", "numbers"] := F.d_set_tins.dn X N (fun _ _ _ _ _ _ us hl => match us, hl with | [_, _], _ => rfl)
  have o_set_tins := ok_set_tins (P := P) (w := w) (base := base) (T := [(Pt, lamQ)]) (C := C) D_set_tins G M cl o_are_tins o_with_tins
  have D_set_temperatures : Dn K mg "set_temperatures" s_set_temperatures ["oven", "numbers"] := F.d_set_temperatures.dn X N (fun _ _ _ _ _ _ us hl => match us, hl with | [_, _], _ => rfl)
  have o_set_temperatures := ok_set_temperatures (P := P) (w := w) (base := base) (T := [(Pt, lamQ)]) (C := C) D_set_temperatures G M cl o_is_range o_with_range
  have D_remove_product : Dn K mg "remove_product" s_remove_product ["oven", "numbers"] := F.d_remove_product.dn X N (fun _ _ _ _ _ _ us hl => match us, hl with | [_, _], _ => rfl)
  have o_remove_product := ok_remove_product (P := P) (w := w) (base := base) (T := [(Pt, lamQ)]) (C := C) D_remove_product G M cl o_without_product
  have D_set_capacity : Dn K mg "set_capacity" s_set_capacity ["oven", "numbers"] := F.d_set_capacity.dn X N (fun _ _ _ _ _ _ us hl => match us, hl with | [_, _], _ => rfl)
  have o_set_capacity := ok_set_capacity (P := P) (w := w) (base := base) (T := [(Pt, lamQ)]) (C := C) D_set_capacity G M cl o_is_capacity
  have D_has_negative : Dn K mg "has_negative" s_has_negative ["numbers"] := F.d_has_negative.dn X N (fun _ _ _ _ _ _ us hl => match us, hl with | [_], _ => rfl)
  have o_has_negative := ok_has_negative (P := P) (w := w) (base := base) D_has_negative G
  have D_can_be_divided : Dn K mg "can_be_divided" s_can_be_divided ["numbers", "size"] := F.d_can_be_divided.dn X N (fun _ _ _ _ _ _ us hl => match us, hl with | [_, _], _ => rfl)
  have o_can_be_divided := ok_can_be_divided (P := P) (w := w) (base := base) D_can_be_divided G
  have D_divided : Dn K mg "divided" s_divided ["numbers", "size"] := F.d_divided.dn X N (fun _ _ _ _ _ _ us hl => match us, hl with | [_, _], _ => rfl)
  have o_divided := ok_divided (P := P) (w := w) (base := base) (T := [(Pt, lamQ)]) D_divided G
  have D_is_batch : Dn K mg "is_batch" s_is_batch ["products", "capacity", "group"] := F.d_is_batch.dn X N (fun _ _ _ _ _ _ us hl => match us, hl with | [_, _, _], _ => rfl)
  have o_is_batch := ok_is_batch (P := P) (w := w) (base := base) (T := [(Pt, lamQ)]) D_is_batch G o_can_be_baked
  have D_tins_in_all : Dn K mg "tins_in_all" s_tins_in_all ["groups", "place"] := F.d_tins_in_all.dn X N (fun _ _ _ _ _ _ us hl => match us, hl with | [_, _], _ => rfl)
  have o_tins_in_all := ok_tins_in_all (P := P) (w := w) (base := base) (T := [(Pt, lamQ)]) D_tins_in_all G
  have D_is_solution : Dn K mg "is_solution" s_is_solution ["products", "capacity", "groups"] := F.d_is_solution.dn X N (fun _ _ _ _ _ _ us hl => match us, hl with | [_, _, _], _ => rfl)
  have o_is_solution := ok_is_solution (P := P) (w := w) (base := base) (T := [(Pt, lamQ)]) D_is_solution G o_is_batch o_tins_in_all o_tins_of
  have D_baking_order : DnL K mg "baking_order" s_baking_order ["products"] c := F.d_baking_order.dn X N (fun _ _ _ _ _ _ us hl => match us, hl with | [_], _ => rfl)
  have o_baking_order := ok_baking_order (P := P) (w := w) (base := base) (T := [(Pt, lamQ)]) D_baking_order G TB rfl
  have D_tins_put : Dn K mg "tins_put" s_tins_put ["product", "tins", "temperature", "room"] := F.d_tins_put.dn X N (fun _ _ _ _ _ _ us hl => match us, hl with | [_, _, _, _], _ => rfl)
  have o_tins_put := ok_tins_put (P := P) (w := w) (base := base) D_tins_put G o_can_be_baked
  have D_filled : Dn K mg "filled" s_filled ["products", "remaining", "capacity", "temperature"] := F.d_filled.dn X N (fun _ _ _ _ _ _ us hl => match us, hl with | [_, _, _, _], _ => rfl)
  have o_filled := ok_filled (P := P) (w := w) (base := base) (T := [(Pt, lamQ)]) D_filled G o_baking_order o_tins_put
  have D_next_temperature : Dn K mg "next_temperature" s_next_temperature ["products", "remaining"] := F.d_next_temperature.dn X N (fun _ _ _ _ _ _ us hl => match us, hl with | [_, _], _ => rfl)
  have o_next_temperature := ok_next_temperature (P := P) (w := w) (base := base) (T := [(Pt, lamQ)]) D_next_temperature G
  have D_left_over : Dn K mg "left_over" s_left_over ["remaining", "put"] := F.d_left_over.dn X N (fun _ _ _ _ _ _ us hl => match us, hl with | [_, _], _ => rfl)
  have o_left_over := ok_left_over (P := P) (w := w) (base := base) (T := [(Pt, lamQ)]) D_left_over G
  have D_planned : Dn K mg "planned" s_planned ["products", "capacity"] := F.d_planned.dn X N (fun _ _ _ _ _ _ us hl => match us, hl with | [_, _], _ => rfl)
  have o_planned := ok_planned (P := P) (w := w) (base := base) (T := [(Pt, lamQ)]) D_planned G o_tins_of o_next_temperature o_filled o_left_over
  have D_total_change : Dn K mg "total_change" s_total_change ["start", "temperatures"] := F.d_total_change.dn X N (fun _ _ _ _ _ _ us hl => match us, hl with | [_, _], _ => rfl)
  have o_total_change := ok_total_change (P := P) (w := w) (base := base) D_total_change G
  have D_best_ordered : Dn K mg "best_ordered" s_best_ordered ["start", "temperatures"] := F.d_best_ordered.dn X N (fun _ _ _ _ _ _ us hl => match us, hl with | [_, _], _ => rfl)
  have o_best_ordered := ok_best_ordered (P := P) (w := w) (base := base) (T := [(Pt, lamQ)]) D_best_ordered G o_total_change
  have D_planned_temperatures : Dn K mg "planned_temperatures" s_planned_temperatures ["oven"] := F.d_planned_temperatures.dn X N (fun _ _ _ _ _ _ us hl => match us, hl with | [_], _ => rfl)
  have o_planned_temperatures := ok_planned_temperatures (P := P) (w := w) (base := base) (T := [(Pt, lamQ)]) (C := C) D_planned_temperatures G cl o_planned
  have D_min_batches : Dn K mg "min_batches" s_min_batches ["oven", "numbers"] := F.d_min_batches.dn X N (fun _ _ _ _ _ _ us hl => match us, hl with | [_, _], _ => rfl)
  have o_min_batches := ok_min_batches (P := P) (w := w) (base := base) (T := [(Pt, lamQ)]) (C := C) D_min_batches G cl o_planned
  have D_batch : Dn K mg "batch" s_batch ["oven", "numbers"] := F.d_batch.dn X N (fun _ _ _ _ _ _ us hl => match us, hl with | [_, _], _ => rfl)
  have o_batch := ok_batch (P := P) (w := w) (base := base) (T := [(Pt, lamQ)]) (C := C) D_batch G cl o_planned
  have D_temperatures : Dn K mg "temperatures" s_temperatures ["oven", "numbers"] := F.d_temperatures.dn X N (fun _ _ _ _ _ _ us hl => match us, hl with | [_, _], _ => rfl)
  have o_temperatures := ok_temperatures (P := P) (w := w) (base := base) (T := [(Pt, lamQ)]) (C := C) D_temperatures G cl o_planned_temperatures
  have D_best_order : Dn K mg "best_order" s_best_order ["oven", "numbers"] := F.d_best_order.dn X N (fun _ _ _ _ _ _ us hl => match us, hl with | [_, _], _ => rfl)
  have o_best_order := ok_best_order (P := P) (w := w) (base := base) (T := [(Pt, lamQ)]) (C := C) D_best_order G cl o_is_temperature o_best_ordered o_total_change o_planned_temperatures
  have D_min_change : Dn K mg "min_change" s_min_change ["oven", "numbers"] := F.d_min_change.dn X N (fun _ _ _ _ _ _ us hl => match us, hl with | [_, _], _ => rfl)
  have o_min_change := ok_min_change (P := P) (w := w) (base := base) (T := [(Pt, lamQ)]) (C := C) D_min_change G cl o_is_temperature o_best_ordered o_total_change o_planned_temperatures
  have D_are_compatible : Dn K mg "are_compatible" s_are_compatible ["oven", "numbers"] := F.d_are_compatible.dn X N (fun _ _ _ _ _ _ us hl => match us, hl with | [_, _], _ => rfl)
  have o_are_compatible := ok_are_compatible (P := P) (w := w) (base := base) (T := [(Pt, lamQ)]) (C := C) D_are_compatible G cl M o_have_common_temperature
  have D_fill_batch : Dn K mg "fill_batch" s_fill_batch ["oven", "numbers"] := F.d_fill_batch.dn X N (fun _ _ _ _ _ _ us hl => match us, hl with | [_, _], _ => rfl)
  have o_fill_batch := ok_fill_batch (P := P) (w := w) (base := base) (T := [(Pt, lamQ)]) (C := C) D_fill_batch G cl o_is_temperature o_tins_of o_filled
  have D_min_batches_if_tins : Dn K mg "min_batches_if_tins" s_min_batches_if_tins ["oven", "numbers"] := F.d_min_batches_if_tins.dn X N (fun _ _ _ _ _ _ us hl => match us, hl with | [_, _], _ => rfl)
  have o_min_batches_if_tins := ok_min_batches_if_tins (P := P) (w := w) (base := base) (T := [(Pt, lamQ)]) (C := C) D_min_batches_if_tins G cl M o_are_tins o_with_tins o_planned
  have D_min_batches_if_capacity : Dn K mg "min_batches_if_capacity" s_min_batches_if_capacity ["oven", "numbers"] := F.d_min_batches_if_capacity.dn X N (fun _ _ _ _ _ _ us hl => match us, hl with | [_, _], _ => rfl)
  have o_min_batches_if_capacity := ok_min_batches_if_capacity (P := P) (w := w) (base := base) (T := [(Pt, lamQ)]) (C := C) D_min_batches_if_capacity G cl o_is_capacity o_planned
  have D_check_batches : Dn K mg "check_batches" s_check_batches ["oven", "numbers"] := F.d_check_batches.dn X N (fun _ _ _ _ _ _ us hl => match us, hl with | [_, _], _ => rfl)
  have o_check_batches := ok_check_batches (P := P) (w := w) (base := base) (T := [(Pt, lamQ)]) (C := C) D_check_batches G cl o_can_be_divided o_has_negative o_divided o_is_solution
  have D_describe : Dn K mg "describe" s_describe ["oven", "numbers"] := F.d_describe.dn X N (fun _ _ _ _ _ _ us hl => match us, hl with | [_, _], _ => rfl)
  have o_describe := ok_describe (P := P) (w := w) (base := base) (T := [(Pt, lamQ)]) (C := C) D_describe G cl
  have D_has_row : Dn K mg "has_row" s_has_row ["number"] := F.d_has_row.dn X N (fun _ _ _ _ _ _ us hl => match us, hl with | [_], _ => rfl)
  have o_has_row := ok_has_row (P := P) (w := w) (base := base) D_has_row G
  have D_start_of_numbers : Dn K mg "start_of_numbers" s_start_of_numbers ["calls", "at"] := F.d_start_of_numbers.dn X N (fun _ _ _ _ _ _ us hl => match us, hl with | [_, _], _ => rfl)
  have o_start_of_numbers := ok_start_of_numbers (P := P) (w := w) (base := base) D_start_of_numbers G o_has_row
  have D_end_of_call : Dn K mg "end_of_call" s_end_of_call ["calls", "at"] := F.d_end_of_call.dn X N (fun _ _ _ _ _ _ us hl => match us, hl with | [_, _], _ => rfl)
  have o_end_of_call := ok_end_of_call (P := P) (w := w) (base := base) D_end_of_call G o_has_row o_start_of_numbers
  have D_numbers_of : Dn K mg "numbers_of" s_numbers_of ["calls", "at"] := F.d_numbers_of.dn X N (fun _ _ _ _ _ _ us hl => match us, hl with | [_, _], _ => rfl)
  have o_numbers_of := ok_numbers_of (P := P) (w := w) (base := base) (T := [(Pt, lamQ)]) D_numbers_of G o_start_of_numbers o_end_of_call
  have D_answer_to_change : Dn K mg "answer_to_change" s_answer_to_change ["oven", "number", "numbers"] := F.d_answer_to_change.dn X N (fun _ _ _ _ _ _ us hl => match us, hl with | [_, _, _], _ => rfl)
  have o_answer_to_change := ok_answer_to_change (P := P) (w := w) (base := base) (T := [(Pt, lamQ)]) (C := C) D_answer_to_change G o_create o_add_product o_set_tins o_set_temperatures o_remove_product o_set_capacity
  have D_answer_to_query : Dn K mg "answer_to_query" s_answer_to_query ["oven", "number", "numbers"] := F.d_answer_to_query.dn X N (fun _ _ _ _ _ _ us hl => match us, hl with | [_, _, _], _ => rfl)
  have o_answer_to_query := ok_answer_to_query (P := P) (w := w) (base := base) (T := [(Pt, lamQ)]) (C := C) D_answer_to_query G o_min_batches o_batch o_temperatures o_best_order o_min_change
  have D_answer_to_later_query : Dn K mg "answer_to_later_query" s_answer_to_later_query ["oven", "number", "numbers"] := F.d_answer_to_later_query.dn X N (fun _ _ _ _ _ _ us hl => match us, hl with | [_, _, _], _ => rfl)
  have o_answer_to_later_query := ok_answer_to_later_query (P := P) (w := w) (base := base) (T := [(Pt, lamQ)]) (C := C) D_answer_to_later_query G o_are_compatible o_fill_batch o_min_batches_if_tins o_min_batches_if_capacity o_check_batches o_describe
  have D_answer_to : Dn K mg "answer_to" s_answer_to ["oven", "number", "numbers"] := F.d_answer_to.dn X N (fun _ _ _ _ _ _ us hl => match us, hl with | [_, _, _], _ => rfl)
  have o_answer_to := ok_answer_to (P := P) (w := w) (base := base) (T := [(Pt, lamQ)]) (C := C) D_answer_to G M o_answer_to_change o_answer_to_query o_answer_to_later_query
  exact fn_answers (fun_mk lz cz kz) G cl I o_answer_to o_numbers_of o_end_of_call
end Ov

set_option Elab.async false
open PySem PySem.W PyProof.Rows
set_option maxRecDepth 100000 in
set_option maxHeartbeats 0 in
theorem PySem.Challenge.cw_ovenbatches_s01_answers_holds : PySem.Challenge.rw_ovenbatches_s01_answers.Holds := by
  w_on; k_headR; (case hw => exact ⟨[.list [.int 0, .int 6]], by decide +kernel, by decide +kernel⟩)
  k_fillS
  refine Ov.walk_row (k := 11) (CX := L2.CX0) (x := "calls") (cs := [(222, 218)]) (sp := Ov.spTop [(218, Ov.lamQ)]) (by decide +kernel) ⟨rfl, by decide, by decide⟩ (fun w h Y => PySem.W.kIn_of Y) ?F ?T ?N ?S (fun _ _ _ _ z => z)
  case T =>
    intro w p hp
    obtain rfl := List.mem_singleton.mp hp
    refine' (Option.isSome_iff_exists.mp (by decide +kernel)).elim fun e he => ⟨"baking_order", e, he, Ov.DlF.tab (st := Ov.s_baking_order) ?DL⟩
    (case DL => refine' Ov.dlF_mk ?r1a ?r1l ?r1cd ?r1k ?r1lc ?r1v; (case r1a => k_is); (case r1l => k_is); (case r1cd => k_is); (case r1k => k_is); (case r1lc => k_is); (case r1v => rfl))
  case N =>
    intro w p hp
    obtain rfl := List.mem_singleton.mp hp
    kernel_rfl
  case S =>
    intro K H a l asked hT hS
    refine ⟨a, l, rfl, hS, asked, fun p hp => ?_, fun H' r hr => .lst (L2.SqL.of hr) (L2.dw_ints _)⟩
    obtain rfl := List.mem_singleton.mp hp
    exact LamX.TabS.nil (hT (222, 218) (List.mem_singleton.mpr rfl))
  case F =>
    intro w mg fa h Y KX G hmg
    refine' Ov.all_mk (C := _) KX G hmg { gC := ?gC, pg := ?pg, hd := ?hd, po := ?po, sa := ?sa, mk0 := ?mk, kc := ?kc, nC := ?nC, nP := ?nP, many := ?many, c_NO_INSTANCE := ?c_NO_INSTANCE, c_NOT_THERE := ?c_NOT_THERE, c_OUT_OF_RANGE := ?c_OUT_OF_RANGE, c_FULL := ?c_FULL, c_MOST_PRODUCTS := ?c_MOST_PRODUCTS, c_GREATEST_CAPACITY := ?c_GREATEST_CAPACITY, c_GREATEST_TEMPERATURE := ?c_GREATEST_TEMPERATURE, c_GREATEST_TINS := ?c_GREATEST_TINS, c_CHECK_BATCHES := ?c_CHECK_BATCHES, c_CREATE := ?c_CREATE, z_len := ?z_len, z_list := ?z_list, z_max := ?z_max, z_min := ?z_min, z_sum := ?z_sum, z_zip := ?z_zip, z_range := ?z_range, z_sorted := ?z_sorted, z_abs := ?z_abs, m___init__ := ?m___init__, m_is_there := ?m_is_there, m_has_product := ?m_has_product, m_take_capacity := ?m_take_capacity, m_take_products := ?m_take_products, d_is_capacity := ?d_is_capacity, d_is_temperature := ?d_is_temperature, d_are_tins := ?d_are_tins, d_is_range := ?d_is_range, d_can_be_baked := ?d_can_be_baked, d_have_common_temperature := ?d_have_common_temperature, d_tins_of := ?d_tins_of, d_with_product := ?d_with_product, d_with_tins := ?d_with_tins, d_with_range := ?d_with_range, d_without_product := ?d_without_product, d_create := ?d_create, d_add_product := ?d_add_product, d_set_tins := ?d_set_tins, d_set_temperatures := ?d_set_temperatures, d_remove_product := ?d_remove_product, d_set_capacity := ?d_set_capacity, d_has_negative := ?d_has_negative, d_can_be_divided := ?d_can_be_divided, d_divided := ?d_divided, d_is_batch := ?d_is_batch, d_tins_in_all := ?d_tins_in_all, d_is_solution := ?d_is_solution, d_baking_order := ?d_baking_order, d_tins_put := ?d_tins_put, d_filled := ?d_filled, d_next_temperature := ?d_next_temperature, d_left_over := ?d_left_over, d_planned := ?d_planned, d_total_change := ?d_total_change, d_best_ordered := ?d_best_ordered, d_planned_temperatures := ?d_planned_temperatures, d_min_batches := ?d_min_batches, d_batch := ?d_batch, d_temperatures := ?d_temperatures, d_best_order := ?d_best_order, d_min_change := ?d_min_change, d_are_compatible := ?d_are_compatible, d_fill_batch := ?d_fill_batch, d_min_batches_if_tins := ?d_min_batches_if_tins, d_min_batches_if_capacity := ?d_min_batches_if_capacity, d_check_batches := ?d_check_batches, d_describe := ?d_describe, d_has_row := ?d_has_row, d_start_of_numbers := ?d_start_of_numbers, d_end_of_call := ?d_end_of_call, d_numbers_of := ?d_numbers_of, d_answer_to_change := ?d_answer_to_change, d_answer_to_query := ?d_answer_to_query, d_answer_to_later_query := ?d_answer_to_later_query, d_answer_to := ?d_answer_to, d_answers := ?d_answers }
    (case gC => k_is); (case pg => k_is); (case hd => k_is); (case po => k_is); (case sa => k_is); (case mk => k_is); (case kc => k_is); (case nC => k_is); (case nP => k_is)
    (case many => (refine' Ov.tpF_mk ?q1a ?q1l ?q1z ?q1r; (case q1a => k_is); (case q1l => k_is); (case q1z => decide); (case q1r => repeat constructor)))
    (case c_NO_INSTANCE => (refine' Ov.cnF_mk ?q2a; (case q2a => k_is)))
    (case c_NOT_THERE => (refine' Ov.cnF_mk ?q3a; (case q3a => k_is)))
    (case c_OUT_OF_RANGE => (refine' Ov.cnF_mk ?q4a; (case q4a => k_is)))
    (case c_FULL => (refine' Ov.cnF_mk ?q5a; (case q5a => k_is)))
    (case c_MOST_PRODUCTS => (refine' Ov.cnF_mk ?q6a; (case q6a => k_is)))
    (case c_GREATEST_CAPACITY => (refine' Ov.cnF_mk ?q7a; (case q7a => k_is)))
    (case c_GREATEST_TEMPERATURE => (refine' Ov.cnF_mk ?q8a; (case q8a => k_is)))
    (case c_GREATEST_TINS => (refine' Ov.cnF_mk ?q9a; (case q9a => k_is)))
    (case c_CHECK_BATCHES => (refine' Ov.cnF_mk ?q10a; (case q10a => k_is)))
    (case c_CREATE => (refine' Ov.cnF_mk ?q11a; (case q11a => k_is)))
    (case z_len => k_is)
    (case z_list => k_is)
    (case z_max => k_is)
    (case z_min => k_is)
    (case z_sum => k_is)
    (case z_zip => k_is)
    (case z_range => k_is)
    (case z_sorted => k_is)
    (case z_abs => k_is)
    (case m___init__ => (refine' Ov.dmF_mk ?q12a ?q12i ?q12l ?q12c ?q12k; (case q12a => k_is); (case q12i => k_is); (case q12l => k_is); (case q12c => k_is); (case q12k => k_is)))
    (case m_is_there => (refine' Ov.dmF_mk ?q13a ?q13i ?q13l ?q13c ?q13k; (case q13a => k_is); (case q13i => k_is); (case q13l => k_is); (case q13c => k_is); (case q13k => k_is)))
    (case m_has_product => (refine' Ov.dmF_mk ?q14a ?q14i ?q14l ?q14c ?q14k; (case q14a => k_is); (case q14i => k_is); (case q14l => k_is); (case q14c => k_is); (case q14k => k_is)))
    (case m_take_capacity => (refine' Ov.dmF_mk ?q15a ?q15i ?q15l ?q15c ?q15k; (case q15a => k_is); (case q15i => k_is); (case q15l => k_is); (case q15c => k_is); (case q15k => k_is)))
    (case m_take_products => (refine' Ov.dmF_mk ?q16a ?q16i ?q16l ?q16c ?q16k; (case q16a => k_is); (case q16i => k_is); (case q16l => k_is); (case q16c => k_is); (case q16k => k_is)))
    (case d_is_capacity => (refine' Ov.dnF_mk ?q17a ?q17l ?q17c ?q17k; (case q17a => k_is); (case q17l => k_is); (case q17c => k_is); (case q17k => k_is)))
    (case d_is_temperature => (refine' Ov.dnF_mk ?q18a ?q18l ?q18c ?q18k; (case q18a => k_is); (case q18l => k_is); (case q18c => k_is); (case q18k => k_is)))
    (case d_are_tins => (refine' Ov.dnF_mk ?q19a ?q19l ?q19c ?q19k; (case q19a => k_is); (case q19l => k_is); (case q19c => k_is); (case q19k => k_is)))
    (case d_is_range => (refine' Ov.dnF_mk ?q20a ?q20l ?q20c ?q20k; (case q20a => k_is); (case q20l => k_is); (case q20c => k_is); (case q20k => k_is)))
    (case d_can_be_baked => (refine' Ov.dnF_mk ?q21a ?q21l ?q21c ?q21k; (case q21a => k_is); (case q21l => k_is); (case q21c => k_is); (case q21k => k_is)))
    (case d_have_common_temperature => (refine' Ov.dnF_mk ?q22a ?q22l ?q22c ?q22k; (case q22a => k_is); (case q22l => k_is); (case q22c => k_is); (case q22k => k_is)))
    (case d_tins_of => (refine' Ov.dnF_mk ?q23a ?q23l ?q23c ?q23k; (case q23a => k_is); (case q23l => k_is); (case q23c => k_is); (case q23k => k_is)))
    (case d_with_product => (refine' Ov.dnF_mk ?q24a ?q24l ?q24c ?q24k; (case q24a => k_is); (case q24l => k_is); (case q24c => k_is); (case q24k => k_is)))
    (case d_with_tins => (refine' Ov.dnF_mk ?q25a ?q25l ?q25c ?q25k; (case q25a => k_is); (case q25l => k_is); (case q25c => k_is); (case q25k => k_is)))
    (case d_with_range => (refine' Ov.dnF_mk ?q26a ?q26l ?q26c ?q26k; (case q26a => k_is); (case q26l => k_is); (case q26c => k_is); (case q26k => k_is)))
    (case d_without_product => (refine' Ov.dnF_mk ?q27a ?q27l ?q27c ?q27k; (case q27a => k_is); (case q27l => k_is); (case q27c => k_is); (case q27k => k_is)))
    (case d_create => (refine' Ov.dnF_mk ?q28a ?q28l ?q28c ?q28k; (case q28a => k_is); (case q28l => k_is); (case q28c => k_is); (case q28k => k_is)))
    (case d_add_product => (refine' Ov.dnF_mk ?q29a ?q29l ?q29c ?q29k; (case q29a => k_is); (case q29l => k_is); (case q29c => k_is); (case q29k => k_is)))
    (case d_set_tins => (refine' Ov.dnF_mk ?q30a ?q30l ?q30c ?q30k; (case q30a => k_is); (case q30l => k_is); (case q30c => k_is); (case q30k => k_is)))
    (case d_set_temperatures => (refine' Ov.dnF_mk ?q31a ?q31l ?q31c ?q31k; (case q31a => k_is); (case q31l => k_is); (case q31c => k_is); (case q31k => k_is)))
    (case d_remove_product => (refine' Ov.dnF_mk ?q32a ?q32l ?q32c ?q32k; (case q32a => k_is); (case q32l => k_is); (case q32c => k_is); (case q32k => k_is)))
    (case d_set_capacity => (refine' Ov.dnF_mk ?q33a ?q33l ?q33c ?q33k; (case q33a => k_is); (case q33l => k_is); (case q33c => k_is); (case q33k => k_is)))
    (case d_has_negative => (refine' Ov.dnF_mk ?q34a ?q34l ?q34c ?q34k; (case q34a => k_is); (case q34l => k_is); (case q34c => k_is); (case q34k => k_is)))
    (case d_can_be_divided => (refine' Ov.dnF_mk ?q35a ?q35l ?q35c ?q35k; (case q35a => k_is); (case q35l => k_is); (case q35c => k_is); (case q35k => k_is)))
    (case d_divided => (refine' Ov.dnF_mk ?q36a ?q36l ?q36c ?q36k; (case q36a => k_is); (case q36l => k_is); (case q36c => k_is); (case q36k => k_is)))
    (case d_is_batch => (refine' Ov.dnF_mk ?q37a ?q37l ?q37c ?q37k; (case q37a => k_is); (case q37l => k_is); (case q37c => k_is); (case q37k => k_is)))
    (case d_tins_in_all => (refine' Ov.dnF_mk ?q38a ?q38l ?q38c ?q38k; (case q38a => k_is); (case q38l => k_is); (case q38c => k_is); (case q38k => k_is)))
    (case d_is_solution => (refine' Ov.dnF_mk ?q39a ?q39l ?q39c ?q39k; (case q39a => k_is); (case q39l => k_is); (case q39c => k_is); (case q39k => k_is)))
    (case d_baking_order => refine' Ov.dlF_mk ?q40a ?q40l ?q40cd ?q40k ?q40lc ?q40v; (case q40a => k_is); (case q40l => k_is); (case q40cd => k_is); (case q40k => k_is); (case q40lc => k_is); (case q40v => rfl))
    (case d_tins_put => (refine' Ov.dnF_mk ?q41a ?q41l ?q41c ?q41k; (case q41a => k_is); (case q41l => k_is); (case q41c => k_is); (case q41k => k_is)))
    (case d_filled => (refine' Ov.dnF_mk ?q42a ?q42l ?q42c ?q42k; (case q42a => k_is); (case q42l => k_is); (case q42c => k_is); (case q42k => k_is)))
    (case d_next_temperature => (refine' Ov.dnF_mk ?q43a ?q43l ?q43c ?q43k; (case q43a => k_is); (case q43l => k_is); (case q43c => k_is); (case q43k => k_is)))
    (case d_left_over => (refine' Ov.dnF_mk ?q44a ?q44l ?q44c ?q44k; (case q44a => k_is); (case q44l => k_is); (case q44c => k_is); (case q44k => k_is)))
    (case d_planned => (refine' Ov.dnF_mk ?q45a ?q45l ?q45c ?q45k; (case q45a => k_is); (case q45l => k_is); (case q45c => k_is); (case q45k => k_is)))
    (case d_total_change => (refine' Ov.dnF_mk ?q46a ?q46l ?q46c ?q46k; (case q46a => k_is); (case q46l => k_is); (case q46c => k_is); (case q46k => k_is)))
    (case d_best_ordered => (refine' Ov.dnF_mk ?q47a ?q47l ?q47c ?q47k; (case q47a => k_is); (case q47l => k_is); (case q47c => k_is); (case q47k => k_is)))
    (case d_planned_temperatures => (refine' Ov.dnF_mk ?q48a ?q48l ?q48c ?q48k; (case q48a => k_is); (case q48l => k_is); (case q48c => k_is); (case q48k => k_is)))
    (case d_min_batches => (refine' Ov.dnF_mk ?q49a ?q49l ?q49c ?q49k; (case q49a => k_is); (case q49l => k_is); (case q49c => k_is); (case q49k => k_is)))
    (case d_batch => (refine' Ov.dnF_mk ?q50a ?q50l ?q50c ?q50k; (case q50a => k_is); (case q50l => k_is); (case q50c => k_is); (case q50k => k_is)))
    (case d_temperatures => (refine' Ov.dnF_mk ?q51a ?q51l ?q51c ?q51k; (case q51a => k_is); (case q51l => k_is); (case q51c => k_is); (case q51k => k_is)))
    (case d_best_order => (refine' Ov.dnF_mk ?q52a ?q52l ?q52c ?q52k; (case q52a => k_is); (case q52l => k_is); (case q52c => k_is); (case q52k => k_is)))
    (case d_min_change => (refine' Ov.dnF_mk ?q53a ?q53l ?q53c ?q53k; (case q53a => k_is); (case q53l => k_is); (case q53c => k_is); (case q53k => k_is)))
    (case d_are_compatible => (refine' Ov.dnF_mk ?q54a ?q54l ?q54c ?q54k; (case q54a => k_is); (case q54l => k_is); (case q54c => k_is); (case q54k => k_is)))
    (case d_fill_batch => (refine' Ov.dnF_mk ?q55a ?q55l ?q55c ?q55k; (case q55a => k_is); (case q55l => k_is); (case q55c => k_is); (case q55k => k_is)))
    (case d_min_batches_if_tins => (refine' Ov.dnF_mk ?q56a ?q56l ?q56c ?q56k; (case q56a => k_is); (case q56l => k_is); (case q56c => k_is); (case q56k => k_is)))
    (case d_min_batches_if_capacity => (refine' Ov.dnF_mk ?q57a ?q57l ?q57c ?q57k; (case q57a => k_is); (case q57l => k_is); (case q57c => k_is); (case q57k => k_is)))
    (case d_check_batches => (refine' Ov.dnF_mk ?q58a ?q58l ?q58c ?q58k; (case q58a => k_is); (case q58l => k_is); (case q58c => k_is); (case q58k => k_is)))
    (case d_describe => (refine' Ov.dnF_mk ?q59a ?q59l ?q59c ?q59k; (case q59a => k_is); (case q59l => k_is); (case q59c => k_is); (case q59k => k_is)))
    (case d_has_row => (refine' Ov.dnF_mk ?q60a ?q60l ?q60c ?q60k; (case q60a => k_is); (case q60l => k_is); (case q60c => k_is); (case q60k => k_is)))
    (case d_start_of_numbers => (refine' Ov.dnF_mk ?q61a ?q61l ?q61c ?q61k; (case q61a => k_is); (case q61l => k_is); (case q61c => k_is); (case q61k => k_is)))
    (case d_end_of_call => (refine' Ov.dnF_mk ?q62a ?q62l ?q62c ?q62k; (case q62a => k_is); (case q62l => k_is); (case q62c => k_is); (case q62k => k_is)))
    (case d_numbers_of => (refine' Ov.dnF_mk ?q63a ?q63l ?q63c ?q63k; (case q63a => k_is); (case q63l => k_is); (case q63c => k_is); (case q63k => k_is)))
    (case d_answer_to_change => (refine' Ov.dnF_mk ?q64a ?q64l ?q64c ?q64k; (case q64a => k_is); (case q64l => k_is); (case q64c => k_is); (case q64k => k_is)))
    (case d_answer_to_query => (refine' Ov.dnF_mk ?q65a ?q65l ?q65c ?q65k; (case q65a => k_is); (case q65l => k_is); (case q65c => k_is); (case q65k => k_is)))
    (case d_answer_to_later_query => (refine' Ov.dnF_mk ?q66a ?q66l ?q66c ?q66k; (case q66a => k_is); (case q66l => k_is); (case q66c => k_is); (case q66k => k_is)))
    (case d_answer_to => (refine' Ov.dnF_mk ?q67a ?q67l ?q67c ?q67k; (case q67a => k_is); (case q67l => k_is); (case q67c => k_is); (case q67k => k_is)))
    (case d_answers => (refine' Ov.dnF_mk ?q68a ?q68l ?q68c ?q68k; (case q68a => k_is); (case q68l => k_is); (case q68c => k_is); (case q68k => k_is)))
