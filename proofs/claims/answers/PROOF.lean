import PyProof.Rows.All
import Oc11Neutral
import Wide.All
import OpenK.AllK
import Wide.FinOn
import PyProof.EqAt
import PyProof.EqKinds
import PyProof.TupleCall
import Open.SpecLaws
import KE.OsGo
import KE.GoesNew
import PySem.Challenge.RW_keptconcepts_s01_answers
import HandS.ForSpec
import HandS.Comp
import HandS.Iter
import HandS.Deep
import HandS.TupAny
import HandS.NoneIn
import HandS.CallLocal
import PyOc11
set_option Elab.async false
set_option linter.all false
set_option maxRecDepth 100000
set_option maxHeartbeats 4000000

/-! ## KcMath -/
namespace KM
open Oc (C Axiom)

/-! ### bits -/
theorem bit_tb (m k : Nat) : Oc.bit m k = m.testBit k := by
  unfold Oc.bit
  rw [Nat.testBit_eq_decide_div_mod_eq]
  by_cases h : m / 2 ^ k % 2 = 1
  · simp [h]
  · simp [h]
theorem bit_mod {t n k : Nat} (h : k < n) : Oc.bit (t % 2 ^ n) k = Oc.bit t k := by
  rw [bit_tb, bit_tb, Nat.testBit_mod_two_pow]
  simp [h]
def ofBits (f : Nat → Bool) : Nat → Nat
  | 0 => 0
  | n + 1 => ofBits f n + if f n = true then 2 ^ n else 0
theorem ofBits_lt (f : Nat → Bool) : ∀ n, ofBits f n < 2 ^ n
  | 0 => by simp [ofBits]
  | n + 1 => by
    have h := ofBits_lt f n
    unfold ofBits
    rw [Nat.pow_succ]
    split <;> omega
theorem ofBits_bit (f : Nat → Bool) : ∀ n k, k < n → Oc.bit (ofBits f n) k = f k
  | 0, k, h => by omega
  | n + 1, k, h => by
    have hl := ofBits_lt f n
    rw [bit_tb]
    unfold ofBits
    by_cases e : k = n
    · subst e
      by_cases hf : f k = true
      · rw [if_pos hf, Nat.add_comm, Nat.testBit_two_pow_add_eq, Nat.testBit_lt_two_pow hl, hf]; rfl
      · rw [if_neg hf, Nat.add_zero, Nat.testBit_lt_two_pow hl]
        simpa using hf
    · have hk : k < n := by omega
      have ih := ofBits_bit f n k hk
      rw [bit_tb] at ih
      split
      · rw [Nat.add_comm, Nat.testBit_two_pow_add_gt hk, ih]
      · rw [Nat.add_zero, ih]

/-! ### atoms -/
def Sub (c : C) (at_ : List C) : Prop := ∀ y ∈ c.atoms, y ∈ at_
def isAtom : C → Bool
  | .name _ => true
  | .some _ _ => true
  | .all _ _ => true
  | _ => false
structure AtOk (at_ : List C) : Prop where
  nd : at_.Nodup
  cl : ∀ x ∈ at_, Sub x at_
  at1 : ∀ x ∈ at_, isAtom x = true
theorem atoms_atom : ∀ (c : C), ∀ y ∈ c.atoms, isAtom y = true
  | .top, y, h => by simp [C.atoms] at h
  | .bot, y, h => by simp [C.atoms] at h
  | .name a, y, h => by simp [C.atoms] at h; subst h; rfl
  | .and c d, y, h => by
    simp only [C.atoms, List.mem_append] at h
    exact h.elim (atoms_atom c y) (atoms_atom d y)
  | .or c d, y, h => by
    simp only [C.atoms, List.mem_append] at h
    exact h.elim (atoms_atom c y) (atoms_atom d y)
  | .not c, y, h => by
    simp only [C.atoms] at h
    exact atoms_atom c y h
  | .some r c, y, h => by
    simp only [C.atoms, List.mem_cons] at h
    rcases h with e | h
    · subst e; rfl
    · exact atoms_atom c y h
  | .all r c, y, h => by
    simp only [C.atoms, List.mem_cons] at h
    rcases h with e | h
    · subst e; rfl
    · exact atoms_atom c y h
/-- an atom of an atom is an atom -/
theorem atoms_trans : ∀ (c : C), ∀ y ∈ c.atoms, ∀ z ∈ y.atoms, z ∈ c.atoms
  | .top, y, h => by simp [C.atoms] at h
  | .bot, y, h => by simp [C.atoms] at h
  | .name a, y, h => by simp [C.atoms] at h; subst h; intro z hz; exact hz
  | .and c d, y, h => by
    simp only [C.atoms, List.mem_append] at h ⊢
    intro z hz
    exact h.elim (fun q => .inl (atoms_trans c y q z hz)) (fun q => .inr (atoms_trans d y q z hz))
  | .or c d, y, h => by
    simp only [C.atoms, List.mem_append] at h ⊢
    intro z hz
    exact h.elim (fun q => .inl (atoms_trans c y q z hz)) (fun q => .inr (atoms_trans d y q z hz))
  | .not c, y, h => by
    simp only [C.atoms] at h ⊢
    exact atoms_trans c y h
  | .some r c, y, h => by
    simp only [C.atoms, List.mem_cons] at h
    intro z hz
    rcases h with e | h
    · subst e; exact hz
    · simp only [C.atoms, List.mem_cons]
      exact .inr (atoms_trans c y h z hz)
  | .all r c, y, h => by
    simp only [C.atoms, List.mem_cons] at h
    intro z hz
    rcases h with e | h
    · subst e; exact hz
    · simp only [C.atoms, List.mem_cons]
      exact .inr (atoms_trans c y h z hz)
theorem atom_self {x : C} (h : isAtom x = true) : x ∈ x.atoms := by
  cases x <;> simp [isAtom] at h <;> simp [C.atoms]
theorem holds_atom {at_ : List C} {t : Nat} {x : C} (h : isAtom x = true) : Oc.holds at_ t x = match at_.idxOf? x with | some k => Oc.bit t k | none => false := by
  cases x <;> simp [isAtom] at h <;> rfl

/-! ### growing -/
def add1 (m : List C) (a : C) : List C := if m.contains a = true then m else m ++ [a]
theorem grow_fst (l : List C) : ∀ (at_ : List C) (ts : List Nat), (Oc11.grow l at_ ts).1 = l.foldl add1 at_ := by
  induction l with
  | nil => intro at_ ts; rfl
  | cons a l ih =>
    intro at_ ts
    show (List.foldl _ (if at_.contains a = true then (at_, ts) else (at_ ++ [a], Oc11.lift at_ ts)) l).1 = l.foldl add1 (add1 at_ a)
    by_cases h : at_.contains a = true
    · rw [if_pos h]
      have := ih at_ ts
      unfold Oc11.grow at this
      rw [this]
      unfold add1
      rw [if_pos h]
    · rw [if_neg h]
      have := ih (at_ ++ [a]) (Oc11.lift at_ ts)
      unfold Oc11.grow at this
      rw [this]
      conv => rhs; unfold add1
      rw [if_neg h]
      rfl
theorem add1_mem {m : List C} {a x : C} : x ∈ add1 m a ↔ x ∈ m ∨ x = a := by
  unfold add1
  split
  · rename_i h
    have hm : a ∈ m := by simpa using h
    constructor
    · exact .inl
    · rintro (h | rfl)
      · exact h
      · exact hm
  · simp [List.mem_append]
theorem fold_mem : ∀ (l m : List C) (x : C), x ∈ l.foldl add1 m ↔ x ∈ m ∨ x ∈ l
  | [], m, x => by simp
  | a :: l, m, x => by
    rw [List.foldl_cons, fold_mem l (add1 m a) x, add1_mem, List.mem_cons]
    constructor
    · rintro ((h | h) | h)
      · exact .inl h
      · exact .inr (.inl h)
      · exact .inr (.inr h)
    · rintro (h | h | h)
      · exact .inl (.inl h)
      · exact .inl (.inr h)
      · exact .inr h
theorem add1_nd {m : List C} {a : C} (h : m.Nodup) : (add1 m a).Nodup := by
  unfold add1
  split
  · exact h
  · rename_i hc
    have hm : a ∉ m := by simpa using hc
    rw [List.nodup_append]
    refine ⟨h, by simp, ?_⟩
    intro x hx y hy
    have : y = a := by simpa using hy
    subst this
    rintro rfl
    exact hm hx
theorem fold_nd : ∀ (l m : List C), m.Nodup → (l.foldl add1 m).Nodup
  | [], _, h => h
  | a :: l, m, h => fold_nd l _ (add1_nd h)
theorem add1_prefix (m : List C) (a : C) : ∃ r, add1 m a = m ++ r ∧ r.length ≤ 1 := by
  unfold add1
  split
  · exact ⟨[], by simp, by simp⟩
  · exact ⟨[a], rfl, by simp⟩
theorem fold_prefix : ∀ (l m : List C), ∃ r, l.foldl add1 m = m ++ r ∧ r.length ≤ l.length
  | [], m => ⟨[], by simp, by simp⟩
  | a :: l, m => by
    obtain ⟨r, e, hr⟩ := add1_prefix m a
    obtain ⟨r2, e2, hr2⟩ := fold_prefix l (add1 m a)
    refine ⟨r ++ r2, ?_, ?_⟩
    · rw [List.foldl_cons, e2, e, List.append_assoc]
    · simp; omega
theorem add1_of_mem {m : List C} {a : C} (h : a ∈ m) : add1 m a = m := by
  unfold add1; rw [if_pos (by simpa using h)]
theorem fold_append_one (d m : List C) (a : C) : (d ++ [a]).foldl add1 m = add1 (d.foldl add1 m) a := by
  rw [List.foldl_append]; rfl
theorem fold_fold : ∀ (l d m : List C), (l.foldl add1 d).foldl add1 m = l.foldl add1 (d.foldl add1 m)
  | [], d, m => rfl
  | a :: l, d, m => by
    rw [List.foldl_cons, fold_fold l (add1 d a) m, List.foldl_cons]
    congr 1
    by_cases h : a ∈ d
    · rw [add1_of_mem h]
      exact (add1_of_mem ((fold_mem d m a).mpr (.inr h))).symm
    · unfold add1
      rw [if_neg (by simpa using h)]
      exact fold_append_one d m a
theorem distinct_eq (l : List C) : Oc.distinct l = l.foldl add1 [] := rfl
/-- with_atoms -/
def withAtoms (at_ : List C) (l : List C) : List C := (l.flatMap C.atoms).foldl add1 at_
theorem grow_is (at_ : List C) (l : List C) (ts : List Nat) : (Oc11.grow (Oc.atomsOf l) at_ ts).1 = withAtoms at_ l := by
  rw [grow_fst]
  unfold Oc.atomsOf withAtoms
  rw [distinct_eq, fold_fold]
  rfl
theorem atomsFor_is (ax : List Axiom) (l : List C) : Oc.atomsFor ax l = withAtoms [] ((ax.flatMap fun a => [a.1, a.2]) ++ l) := rfl
theorem with_prefix (at_ l : List C) : ∃ r, withAtoms at_ l = at_ ++ r ∧ r.length ≤ (l.flatMap C.atoms).length := fold_prefix _ _
theorem with_mem {at_ l : List C} {x : C} : x ∈ withAtoms at_ l ↔ x ∈ at_ ∨ ∃ c ∈ l, x ∈ c.atoms := by
  unfold withAtoms; rw [fold_mem, List.mem_flatMap]
theorem with_ok {at_ l : List C} (h : AtOk at_) : AtOk (withAtoms at_ l) := by
  refine ⟨fold_nd _ _ h.nd, fun x hx y hy => ?_, fun x hx => ?_⟩
  · rw [with_mem] at hx ⊢
    rcases hx with hx | ⟨c, hc, hx⟩
    · exact .inl (h.cl x hx y hy)
    · exact .inr ⟨c, hc, atoms_trans c x hx y hy⟩
  · rw [with_mem] at hx
    rcases hx with hx | ⟨c, hc, hx⟩
    · exact h.at1 x hx
    · exact atoms_atom c x hx
theorem nil_ok : AtOk [] := ⟨by simp, by simp, by simp⟩
theorem with_sub {at_ l : List C} {c : C} (h : c ∈ l) : Sub c (withAtoms at_ l) := fun y hy => with_mem.mpr (.inr ⟨c, h, hy⟩)
theorem sub_with {at_ l : List C} {c : C} (h : Sub c at_) : Sub c (withAtoms at_ l) := fun y hy => with_mem.mpr (.inl (h y hy))
end KM

/-! ## KcTypes -/
namespace KM
open Oc (C Axiom)

/-! ### the settling -/
theorem any_mono {l m : List Nat} {p : Nat → Bool} (h : ∀ x ∈ l, x ∈ m) (q : l.any p = true) : m.any p = true := by
  rw [List.any_eq_true] at q ⊢
  obtain ⟨x, hx, hp⟩ := q
  exact ⟨x, h x hx, hp⟩
theorem borne_mono {at_ : List C} {l m : List Nat} {t : Nat} (h : ∀ x ∈ l, x ∈ m) (q : Oc.borne at_ l t = true) : Oc.borne at_ m t = true := by
  unfold Oc.borne at q ⊢
  rw [List.all_eq_true] at q ⊢
  intro x hx
  have := q x hx
  cases x <;> simp only [Bool.or_eq_true] at this ⊢
  · exact this.imp id (any_mono h)
  · exact this.imp id (any_mono h)
theorem filter_tt (l : List Nat) : l.filter (fun _ => true) = l := List.filter_eq_self.mpr fun _ _ => rfl
theorem settle_sub {at_ : List C} : ∀ (n : Nat) (l : List Nat), ∃ p : Nat → Bool, Oc.settle at_ n l = l.filter p
  | 0, l => ⟨fun _ => true, (filter_tt l).symm⟩
  | n + 1, l => by
    unfold Oc.settle
    by_cases h : (l.filter (Oc.borne at_ l)).length = l.length
    · exact ⟨fun _ => true, by rw [filter_tt]; simp [h]⟩
    · obtain ⟨p, e⟩ := settle_sub (at_ := at_) n (l.filter (Oc.borne at_ l))
      refine ⟨fun x => p x && Oc.borne at_ l x, ?_⟩
      show (if (l.filter (Oc.borne at_ l)).length = l.length then l else Oc.settle at_ n (l.filter (Oc.borne at_ l))) = _
      rw [if_neg h, e, List.filter_filter]
theorem filter_all_of_length {l : List Nat} {p : Nat → Bool} (h : (l.filter p).length = l.length) : ∀ x ∈ l, p x = true :=
  List.filter_eq_self.mp (List.Sublist.eq_of_length List.filter_sublist h)
theorem settle_borne {at_ : List C} : ∀ (n : Nat) (l : List Nat), l.length < n → ∀ t ∈ Oc.settle at_ n l, Oc.borne at_ (Oc.settle at_ n l) t = true
  | 0, l, h => by omega
  | n + 1, l, hn => by
    intro t ht
    have e : Oc.settle at_ (n + 1) l = if (l.filter (Oc.borne at_ l)).length = l.length then l else Oc.settle at_ n (l.filter (Oc.borne at_ l)) := rfl
    rw [e] at ht ⊢
    by_cases h : (l.filter (Oc.borne at_ l)).length = l.length
    · rw [if_pos h] at ht ⊢
      exact filter_all_of_length h t ht
    · rw [if_neg h] at ht ⊢
      have hl : (l.filter (Oc.borne at_ l)).length ≤ l.length := List.length_filter_le _ _
      exact settle_borne n _ (by omega) t ht
/-- what bears itself out stays -/
theorem settle_max {at_ : List C} {S : List Nat} (hS : ∀ t ∈ S, Oc.borne at_ S t = true) : ∀ (n : Nat) (l : List Nat), (∀ t ∈ S, t ∈ l) → ∀ t ∈ S, t ∈ Oc.settle at_ n l
  | 0, l, h => h
  | n + 1, l, h => by
    intro t ht
    have e : Oc.settle at_ (n + 1) l = if (l.filter (Oc.borne at_ l)).length = l.length then l else Oc.settle at_ n (l.filter (Oc.borne at_ l)) := rfl
    rw [e]
    split
    · exact h t ht
    · exact settle_max hS n _ (fun u hu => List.mem_filter.mpr ⟨h u hu, borne_mono h (hS u hu)⟩) t ht
/-- one step of the loop -/
theorem settle_step {at_ : List C} {l : List Nat} {m : Nat} (hm : l.length < m) (h : (l.filter (Oc.borne at_ l)).length < l.length) :
    ∃ m', (l.filter (Oc.borne at_ l)).length < m' ∧ Oc.settle at_ m l = Oc.settle at_ m' (l.filter (Oc.borne at_ l)) := by
  cases m with
  | zero => omega
  | succ m =>
    refine ⟨m, by omega, ?_⟩
    show (if (l.filter (Oc.borne at_ l)).length = l.length then l else Oc.settle at_ m (l.filter (Oc.borne at_ l))) = _
    rw [if_neg (by omega)]
theorem settle_end {at_ : List C} {l : List Nat} {m : Nat} (hm : l.length < m) (h : ¬ (l.filter (Oc.borne at_ l)).length < l.length) : Oc.settle at_ m l = l := by
  cases m with
  | zero => omega
  | succ m =>
    show (if (l.filter (Oc.borne at_ l)).length = l.length then l else Oc.settle at_ m (l.filter (Oc.borne at_ l))) = _
    have hl : (l.filter (Oc.borne at_ l)).length ≤ l.length := List.length_filter_le _ _
    rw [if_pos (by omega)]

/-! ### types -/
theorem filters_eq {N : Nat} {p q : Nat → Bool} (h : ∀ x, x ∈ (List.range N).filter p ↔ x ∈ (List.range N).filter q) : (List.range N).filter p = (List.range N).filter q := by
  apply List.filter_congr
  intro x hx
  have := h x
  rw [List.mem_filter, List.mem_filter] at this
  by_cases hp : p x = true
  · rw [hp, (this.mp ⟨hx, hp⟩).2]
  · by_cases hq : q x = true
    · exact absurd (this.mpr ⟨hx, hq⟩).2 hp
    · simp at hp hq; rw [hp, hq]
def IsF (N : Nat) (l : List Nat) : Prop := ∃ p : Nat → Bool, l = (List.range N).filter p
theorem IsF.ext {N : Nat} {l m : List Nat} (a : IsF N l) (b : IsF N m) (h : ∀ x, x ∈ l ↔ x ∈ m) : l = m := by
  obtain ⟨p, rfl⟩ := a
  obtain ⟨q, rfl⟩ := b
  exact filters_eq h
theorem IsF.filter {N : Nat} {l : List Nat} (a : IsF N l) (q : Nat → Bool) : IsF N (l.filter q) := by
  obtain ⟨p, rfl⟩ := a
  exact ⟨fun x => q x && p x, by rw [List.filter_filter]⟩
theorem IsF.settle {N : Nat} {l : List Nat} (a : IsF N l) (at_ : List C) (n : Nat) : IsF N (Oc.settle at_ n l) := by
  obtain ⟨p, e⟩ := settle_sub (at_ := at_) n l
  rw [e]
  exact a.filter p
theorem IsF.lt {N : Nat} {l : List Nat} (a : IsF N l) {x : Nat} (h : x ∈ l) : x < N := by
  obtain ⟨p, rfl⟩ := a
  exact List.mem_range.mp (List.mem_filter.mp h).1
theorem IsF.len {N : Nat} {l : List Nat} (a : IsF N l) : l.length ≤ N := by
  obtain ⟨p, rfl⟩ := a
  have := List.length_filter_le p (List.range N)
  rw [List.length_range] at this
  exact this
theorem isF_range (N : Nat) : IsF N (List.range N) := ⟨fun _ => true, (filter_tt _).symm⟩
theorem types_isF (at_ : List C) (ax : List Axiom) : IsF (2 ^ at_.length) (Oc.types at_ ax) := ((isF_range _).filter _).settle _ _
theorem types_keeps {at_ : List C} {ax : List Axiom} {t : Nat} (h : t ∈ Oc.types at_ ax) : Oc.keeps at_ ax t = true := by
  unfold Oc.types at h
  obtain ⟨p, e⟩ := settle_sub (at_ := at_) (2 ^ at_.length + 1) ((List.range (2 ^ at_.length)).filter (Oc.keeps at_ ax))
  rw [e] at h
  exact (List.mem_filter.mp (List.mem_filter.mp h).1).2
theorem types_borne {at_ : List C} {ax : List Axiom} {t : Nat} (h : t ∈ Oc.types at_ ax) : Oc.borne at_ (Oc.types at_ ax) t = true := by
  unfold Oc.types at h ⊢
  exact settle_borne _ _ (by have := ((isF_range (2 ^ at_.length)).filter (Oc.keeps at_ ax)).len; omega) t h
theorem types_max {at_ : List C} {ax : List Axiom} {S : List Nat} (h1 : ∀ t ∈ S, t < 2 ^ at_.length) (h2 : ∀ t ∈ S, Oc.keeps at_ ax t = true) (h3 : ∀ t ∈ S, Oc.borne at_ S t = true) : ∀ t ∈ S, t ∈ Oc.types at_ ax := by
  unfold Oc.types
  exact settle_max h3 _ _ fun t ht => List.mem_filter.mpr ⟨List.mem_range.mpr (h1 t ht), h2 t ht⟩
/-- sifting anything that has all types gives the types -/
theorem sift_eq {at_ : List C} {ax : List Axiom} {l : List Nat} (hl : IsF (2 ^ at_.length) l) (h : ∀ t ∈ Oc.types at_ ax, t ∈ l) : Oc11.sift at_ ax l = Oc.types at_ ax := by
  have hf : IsF (2 ^ at_.length) (l.filter (Oc.keeps at_ ax)) := hl.filter _
  have hs : IsF (2 ^ at_.length) (Oc11.sift at_ ax l) := hf.settle _ _
  refine hs.ext (types_isF _ _) fun x => ⟨fun hx => ?_, fun hx => ?_⟩
  · refine types_max (S := Oc11.sift at_ ax l) (fun t ht => hs.lt ht) (fun t ht => ?_) (fun t ht => ?_) x hx
    · unfold Oc11.sift at ht
      obtain ⟨p, e⟩ := settle_sub (at_ := at_) (2 ^ at_.length + 1) (l.filter (Oc.keeps at_ ax))
      rw [e] at ht
      exact (List.mem_filter.mp (List.mem_filter.mp ht).1).2
    · exact settle_borne _ _ (by have := hf.len; omega) t ht
  · exact settle_max (S := Oc.types at_ ax) (fun t ht => types_borne ht) _ _ (fun t ht => List.mem_filter.mpr ⟨h t ht, types_keeps ht⟩) x hx

/-! ### fewer atoms -/
theorem idx_prefix {at_ more : List C} {x : C} (h : x ∈ at_) : (at_ ++ more).idxOf? x = at_.idxOf? x := by
  induction at_ with
  | nil => simp at h
  | cons a l ih =>
    rw [List.cons_append, List.idxOf?_cons, List.idxOf?_cons]
    by_cases e : a == x
    · simp [e]
    · have hx : x ∈ l := by
        rcases List.mem_cons.mp h with h | h
        · subst h; simp at e
        · exact h
      simp only [e]
      rw [ih hx]
theorem idx_some {at_ : List C} {x : C} (h : x ∈ at_) : ∃ k, at_.idxOf? x = some k ∧ k < at_.length ∧ at_[k]? = some x := by
  induction at_ with
  | nil => simp at h
  | cons a l ih =>
    rw [List.idxOf?_cons]
    by_cases e : a == x
    · have : a = x := by simpa using e
      subst this
      exact ⟨0, by simp, by simp, by simp⟩
    · have hx : x ∈ l := by
        rcases List.mem_cons.mp h with h | h
        · subst h; simp at e
        · exact h
      obtain ⟨k, h1, h2, h3⟩ := ih hx
      exact ⟨k + 1, by simp [e, h1], by simp [h2], by simp [h3]⟩
theorem idx_nodup {at_ : List C} (nd : at_.Nodup) {k : Nat} {x : C} (h : at_[k]? = some x) : at_.idxOf? x = some k := by
  obtain ⟨j, e, hj, hx⟩ := idx_some (List.mem_of_getElem? h)
  obtain ⟨hk, e2⟩ := List.getElem?_eq_some_iff.mp h
  obtain ⟨hj', e3⟩ := List.getElem?_eq_some_iff.mp hx
  have : j = k := (List.getElem_inj nd).mp (e3.trans e2.symm)
  rw [e, this]
/-- what holds is told by the atoms of the concept alone -/
theorem holds_proj {at_ more : List C} {t : Nat} : ∀ {c : C}, Sub c at_ → Oc.holds at_ (t % 2 ^ at_.length) c = Oc.holds (at_ ++ more) t c := by
  intro c
  have key : ∀ x, isAtom x = true → x ∈ at_ → Oc.holds at_ (t % 2 ^ at_.length) x = Oc.holds (at_ ++ more) t x := fun x hx hm => by
    rw [holds_atom hx, holds_atom hx, idx_prefix hm]
    obtain ⟨k, e, hk, _⟩ := idx_some hm
    rw [e]
    exact bit_mod hk
  induction c with
  | top => intro _; rfl
  | bot => intro _; rfl
  | name a => intro h; exact key _ rfl (h _ (by simp [C.atoms]))
  | and c d ih1 ih2 =>
    intro h
    show (Oc.holds _ _ c && Oc.holds _ _ d) = (Oc.holds _ _ c && Oc.holds _ _ d)
    rw [ih1 fun y hy => h y (by simp [C.atoms, hy]), ih2 fun y hy => h y (by simp [C.atoms, hy])]
  | or c d ih1 ih2 =>
    intro h
    show (Oc.holds _ _ c || Oc.holds _ _ d) = (Oc.holds _ _ c || Oc.holds _ _ d)
    rw [ih1 fun y hy => h y (by simp [C.atoms, hy]), ih2 fun y hy => h y (by simp [C.atoms, hy])]
  | not c ih =>
    intro h
    show (!Oc.holds _ _ c) = (!Oc.holds _ _ c)
    rw [ih fun y hy => h y (by simp [C.atoms, hy])]
  | some r c ih => intro h; exact key _ rfl (h _ (by simp [C.atoms]))
  | all r c ih => intro h; exact key _ rfl (h _ (by simp [C.atoms]))
theorem AtOk.sub {at_ : List C} (h : AtOk at_) {x : C} (hx : x ∈ at_) : Sub x at_ := h.cl x hx
theorem AtOk.inner {at_ : List C} (h : AtOk at_) {r : Nat} {c : C} (hx : C.some r c ∈ at_ ∨ C.all r c ∈ at_) : Sub c at_ := fun y hy => by
  rcases hx with hx | hx
  · exact h.cl _ hx y (by simp [C.atoms, hy])
  · exact h.cl _ hx y (by simp [C.atoms, hy])
theorem fits_proj {at_ more : List C} (ok : AtOk at_) {r t u : Nat} (h : Oc.fits (at_ ++ more) r t u = true) : Oc.fits at_ r (t % 2 ^ at_.length) (u % 2 ^ at_.length) = true := by
  unfold Oc.fits at h ⊢
  rw [List.all_eq_true] at h ⊢
  intro x hx
  have q := h x (List.mem_append_left _ hx)
  cases x <;> simp only at q ⊢
  · rw [holds_proj (more := more) (ok.sub hx), holds_proj (more := more) (ok.inner (.inl hx))]; exact q
  · rw [holds_proj (more := more) (ok.sub hx), holds_proj (more := more) (ok.inner (.inr hx))]; exact q
theorem keeps_proj {at_ more : List C} {ax : List Axiom} (hax : ∀ a ∈ ax, Sub a.1 at_ ∧ Sub a.2 at_) {t : Nat} : Oc.keeps at_ ax (t % 2 ^ at_.length) = Oc.keeps (at_ ++ more) ax t := by
  unfold Oc.keeps
  rw [Bool.eq_iff_iff, List.all_eq_true, List.all_eq_true]
  constructor
  · intro h a ha
    have := h a ha
    rw [holds_proj (more := more) (hax a ha).1, holds_proj (more := more) (hax a ha).2] at this
    exact this
  · intro h a ha
    rw [holds_proj (more := more) (hax a ha).1, holds_proj (more := more) (hax a ha).2]
    exact h a ha
/-- the types over more atoms, told over fewer -/
theorem types_proj {at_ more : List C} {ax : List Axiom} (ok : AtOk at_) (hax : ∀ a ∈ ax, Sub a.1 at_ ∧ Sub a.2 at_) {t : Nat} (h : t ∈ Oc.types (at_ ++ more) ax) : t % 2 ^ at_.length ∈ Oc.types at_ ax := by
  refine types_max (S := (Oc.types (at_ ++ more) ax).map (· % 2 ^ at_.length)) ?_ ?_ ?_ _ (List.mem_map.mpr ⟨t, h, rfl⟩)
  · intro u hu
    obtain ⟨v, _, rfl⟩ := List.mem_map.mp hu
    exact Nat.mod_lt _ (Nat.two_pow_pos _)
  · intro u hu
    obtain ⟨v, hv, rfl⟩ := List.mem_map.mp hu
    rw [keeps_proj hax]
    exact types_keeps hv
  · intro u hu
    obtain ⟨v, hv, rfl⟩ := List.mem_map.mp hu
    have b := types_borne hv
    unfold Oc.borne at b ⊢
    rw [List.all_eq_true] at b ⊢
    intro x hx
    have q := b x (List.mem_append_left _ hx)
    cases x <;> simp only [Bool.or_eq_true] at q ⊢
    case some r c =>
      rw [holds_proj (more := more) (ok.sub hx)]
      refine q.imp id fun q => ?_
      rw [List.any_eq_true] at q ⊢
      obtain ⟨w, hw, hf⟩ := q
      rw [Bool.and_eq_true] at hf
      refine ⟨_, List.mem_map.mpr ⟨w, hw, rfl⟩, ?_⟩
      rw [Bool.and_eq_true]
      exact ⟨fits_proj ok hf.1, by rw [holds_proj (more := more) (ok.inner (.inl hx))]; exact hf.2⟩
    case all r c =>
      rw [holds_proj (more := more) (ok.sub hx)]
      refine q.imp id fun q => ?_
      rw [List.any_eq_true] at q ⊢
      obtain ⟨w, hw, hf⟩ := q
      rw [Bool.and_eq_true] at hf
      refine ⟨_, List.mem_map.mpr ⟨w, hw, rfl⟩, ?_⟩
      rw [Bool.and_eq_true]
      exact ⟨fits_proj ok hf.1, by rw [holds_proj (more := more) (ok.inner (.inr hx))]; exact hf.2⟩

/-! ### lifting -/
theorem lift_isF {at_ : List C} {l : List Nat} (h : IsF (2 ^ at_.length) l) : IsF (2 ^ (at_.length + 1)) (Oc11.lift at_ l) ∧ ∀ t, t ∈ Oc11.lift at_ l ↔ t < 2 ^ (at_.length + 1) ∧ t % 2 ^ at_.length ∈ l := by
  obtain ⟨p, rfl⟩ := h
  have hp : 0 < 2 ^ at_.length := Nat.two_pow_pos _
  have hr : List.range (2 ^ (at_.length + 1)) = List.range (2 ^ at_.length) ++ (List.range (2 ^ at_.length)).map (2 ^ at_.length + ·) := by
    rw [Nat.pow_succ, Nat.mul_two, List.range_add]
  have e : Oc11.lift at_ ((List.range (2 ^ at_.length)).filter p) = (List.range (2 ^ (at_.length + 1))).filter fun t => p (t % 2 ^ at_.length) := by
    unfold Oc11.lift
    rw [hr, List.filter_append, List.filter_map]
    congr 1
    · apply List.filter_congr
      intro x hx
      rw [Nat.mod_eq_of_lt (List.mem_range.mp hx)]
    · rw [show (fun t => t + 2 ^ at_.length) = (2 ^ at_.length + ·) from funext fun t => Nat.add_comm _ _]
      congr 1
      apply List.filter_congr
      intro x hx
      show p x = p ((2 ^ at_.length + x) % 2 ^ at_.length)
      rw [Nat.add_mod_left, Nat.mod_eq_of_lt (List.mem_range.mp hx)]
  refine ⟨⟨_, e⟩, fun t => ?_⟩
  rw [e, List.mem_filter, List.mem_range, List.mem_filter, List.mem_range]
  constructor
  · rintro ⟨a, b⟩
    exact ⟨a, Nat.mod_lt _ hp, b⟩
  · rintro ⟨a, _, b⟩
    exact ⟨a, b⟩
theorem grow_types : ∀ (l at_ : List C) (ts : List Nat), IsF (2 ^ at_.length) ts → at_.Nodup →
    IsF (2 ^ (Oc11.grow l at_ ts).1.length) (Oc11.grow l at_ ts).2 ∧ ∀ t, t ∈ (Oc11.grow l at_ ts).2 ↔ t < 2 ^ (Oc11.grow l at_ ts).1.length ∧ t % 2 ^ at_.length ∈ ts
  | [], at_, ts, h, _ => by
    refine ⟨h, fun t => ⟨fun ht => ?_, fun ht => ?_⟩⟩
    · have ht : t ∈ ts := ht
      exact ⟨h.lt ht, by rw [Nat.mod_eq_of_lt (h.lt ht)]; exact ht⟩
    · have hl : t < 2 ^ at_.length := ht.1
      have := ht.2
      rw [Nat.mod_eq_of_lt hl] at this
      exact this
  | a :: l, at_, ts, h, nd => by
    have e : Oc11.grow (a :: l) at_ ts = Oc11.grow l (if at_.contains a = true then (at_, ts) else (at_ ++ [a], Oc11.lift at_ ts)).1 (if at_.contains a = true then (at_, ts) else (at_ ++ [a], Oc11.lift at_ ts)).2 := rfl
    rw [e]
    by_cases c : at_.contains a = true
    · rw [if_pos c]
      exact grow_types l at_ ts h nd
    · rw [if_neg c]
      obtain ⟨h1, h2⟩ := lift_isF h
      have hl : (at_ ++ [a]).length = at_.length + 1 := by simp
      have nd' : (at_ ++ [a]).Nodup := by
        have q := add1_nd (m := at_) (a := a) nd
        unfold add1 at q
        rw [if_neg c] at q
        exact q
      obtain ⟨g1, g2⟩ := grow_types l (at_ ++ [a]) (Oc11.lift at_ ts) (by rw [hl]; exact h1) nd'
      refine ⟨g1, fun t => ?_⟩
      rw [g2, h2]
      constructor
      · rintro ⟨a1, a2, a3⟩
        refine ⟨a1, ?_⟩
        rw [hl, Nat.pow_succ, Nat.mod_mul_right_mod] at a3
        exact a3
      · rintro ⟨a1, a3⟩
        refine ⟨a1, ?_, ?_⟩
        · rw [hl]; exact Nat.mod_lt _ (Nat.two_pow_pos _)
        · rw [hl, Nat.pow_succ, Nat.mod_mul_right_mod]
          exact a3
end KM

/-! ## KcHouse -/
namespace KM
open Oc (C Axiom)
open Oc11 (House)

def size : C → Nat
  | .top => 1
  | .bot => 1
  | .name _ => 2
  | .and c d => 1 + size c + size d
  | .or c d => 1 + size c + size d
  | .not c => 1 + size c
  | .some _ c => 2 + size c
  | .all _ c => 2 + size c
theorem size_pos : ∀ c, 1 ≤ size c := fun c => by cases c <;> simp [size] <;> omega
theorem atoms_size : ∀ (c : C), ∀ y ∈ c.atoms, size y ≤ size c
  | .top, y, h => by simp [C.atoms] at h
  | .bot, y, h => by simp [C.atoms] at h
  | .name a, y, h => by simp [C.atoms] at h; subst h; exact Nat.le_refl _
  | .and c d, y, h => by
    simp only [C.atoms, List.mem_append] at h
    simp only [size]
    rcases h with h | h
    · have := atoms_size c y h; omega
    · have := atoms_size d y h; omega
  | .or c d, y, h => by
    simp only [C.atoms, List.mem_append] at h
    simp only [size]
    rcases h with h | h
    · have := atoms_size c y h; omega
    · have := atoms_size d y h; omega
  | .not c, y, h => by
    simp only [C.atoms] at h
    simp only [size]
    have := atoms_size c y h; omega
  | .some r c, y, h => by
    simp only [C.atoms, List.mem_cons] at h
    rcases h with rfl | h
    · exact Nat.le_refl _
    · simp only [size]
      have := atoms_size c y h; omega
  | .all r c, y, h => by
    simp only [C.atoms, List.mem_cons] at h
    rcases h with rfl | h
    · exact Nat.le_refl _
    · simp only [size]
      have := atoms_size c y h; omega
theorem atoms_len : ∀ (c : C), c.atoms.length ≤ size c
  | .top => by simp [C.atoms, size]
  | .bot => by simp [C.atoms, size]
  | .name a => by simp [C.atoms, size]
  | .and c d => by have := atoms_len c; have := atoms_len d; simp only [C.atoms, size, List.length_append]; omega
  | .or c d => by have := atoms_len c; have := atoms_len d; simp only [C.atoms, size, List.length_append]; omega
  | .not c => by have := atoms_len c; simp only [C.atoms, size]; omega
  | .some r c => by have := atoms_len c; simp only [C.atoms, size, List.length_cons]; omega
  | .all r c => by have := atoms_len c; simp only [C.atoms, size, List.length_cons]; omega

structure HInv (h : House) : Prop where
  ok : AtOk h.atoms
  ty : h.types = Oc.types h.atoms h.book.axioms
  ax : ∀ a ∈ h.book.axioms, Sub a.1 h.atoms ∧ Sub a.2 h.atoms
  sa : ∀ x ∈ h.book.says, Sub x.2 h.atoms ∧ x.1 < h.book.things
  ti : ∀ x ∈ h.book.ties, x.1 < 2 ∧ x.2.1 < h.book.things ∧ x.2.2 < h.book.things
  nat : h.atoms.length ≤ 6
  nax : h.book.axioms.length ≤ 5
  nth : h.book.things ≤ 2
  nsa : h.book.says.length ≤ 5
  nti : h.book.ties.length ≤ 5
  zat : ∀ x ∈ h.atoms, size x ≤ 30
  zax : ∀ a ∈ h.book.axioms, size a.1 ≤ 30 ∧ size a.2 ≤ 30
  zsa : ∀ x ∈ h.book.says, size x.2 ≤ 30
theorem inv_init : HInv Oc11.init where
  ok := nil_ok
  ty := by decide
  ax := by intro a h; cases h
  sa := by intro a h; cases h
  ti := by intro a h; cases h
  nat := by decide
  nax := by decide
  nth := by decide
  nsa := by decide
  nti := by decide
  zat := by intro a h; cases h
  zax := by intro a h; cases h
  zsa := by intro a h; cases h
theorem many_is (h : House) (l : List C) : h.many l = (withAtoms h.atoms l).length := by
  unfold House.many; rw [grow_is]

/-! ### atoms come -/
theorem with_house {h : House} (I : HInv h) (l : List C) : h.with_ l = { h with atoms := withAtoms h.atoms l, types := Oc.types (withAtoms h.atoms l) h.book.axioms } := by
  unfold House.with_
  simp only
  rw [grow_is]
  congr 1
  obtain ⟨g1, g2⟩ := grow_types (Oc.atomsOf l) h.atoms h.types (by rw [I.ty]; exact types_isF _ _) I.ok.nd
  rw [grow_is] at g1 g2
  refine sift_eq g1 fun t ht => (g2 t).mpr ⟨(types_isF _ _).lt ht, ?_⟩
  obtain ⟨r, e, _⟩ := with_prefix h.atoms l
  rw [e] at ht
  rw [I.ty]
  exact types_proj I.ok I.ax ht
theorem keeps_app {at_ : List C} {ax bx : List Axiom} {t : Nat} : Oc.keeps at_ (ax ++ bx) t = (Oc.keeps at_ ax t && Oc.keeps at_ bx t) := by
  unfold Oc.keeps; rw [List.all_append]
theorem types_less {at_ : List C} {ax bx : List Axiom} {t : Nat} (h : t ∈ Oc.types at_ (ax ++ bx)) : t ∈ Oc.types at_ ax := by
  refine types_max (S := Oc.types at_ (ax ++ bx)) (fun u hu => (types_isF _ _).lt hu) (fun u hu => ?_) (fun u hu => types_borne hu) t h
  have := types_keeps hu
  rw [keeps_app, Bool.and_eq_true] at this
  exact this.1
theorem add_house {h : House} (I : HInv h) (a : Axiom) : h.add a = { h with book := { h.book with axioms := h.book.axioms ++ [a] }, atoms := withAtoms h.atoms [a.1, a.2], types := Oc.types (withAtoms h.atoms [a.1, a.2]) (h.book.axioms ++ [a]) } := by
  unfold House.add
  simp only
  rw [with_house I]
  simp only
  congr 1
  exact sift_eq (types_isF _ _) fun t ht => types_less ht
theorem with_len {at_ l : List C} : at_.length ≤ (withAtoms at_ l).length := by
  obtain ⟨r, e, _⟩ := with_prefix at_ l
  rw [e]; simp
theorem with_small {at_ l : List C} (h1 : ∀ x ∈ at_, size x ≤ 30) (h2 : ∀ c ∈ l, size c ≤ 30) : ∀ x ∈ withAtoms at_ l, size x ≤ 30 := fun x hx => by
  rcases with_mem.mp hx with hx | ⟨c, hc, hx⟩
  · exact h1 x hx
  · exact Nat.le_trans (atoms_size c x hx) (h2 c hc)
theorem inv_with {h : House} (I : HInv h) {l : List C} (hn : (withAtoms h.atoms l).length ≤ 6) (hz : ∀ c ∈ l, size c ≤ 30) : HInv { h with atoms := withAtoms h.atoms l, types := Oc.types (withAtoms h.atoms l) h.book.axioms } where
  ok := with_ok I.ok
  ty := rfl
  ax := fun a ha => ⟨sub_with (I.ax a ha).1, sub_with (I.ax a ha).2⟩
  sa := fun x hx => ⟨sub_with (I.sa x hx).1, (I.sa x hx).2⟩
  ti := I.ti
  nat := hn
  nax := I.nax
  nth := I.nth
  nsa := I.nsa
  nti := I.nti
  zat := with_small I.zat hz
  zax := I.zax
  zsa := I.zsa

/-! ### placings -/
def saysOk (at_ : List C) (b : Oc03.Book) (i t : Nat) : Bool := b.says.all fun x => x.1 != i || Oc.holds at_ t x.2
def tiesOk (at_ : List C) (b : Oc03.Book) (d : List Nat) : Bool := b.ties.all fun x => Oc.fits at_ x.1 (d.getD x.2.1 0) (d.getD x.2.2 0)
def step1 (at_ : List C) (b : Oc03.Book) (l : List Nat) (found : List (List Nat)) (i : Nat) : List (List Nat) := found.flatMap fun d => (l.filter (saysOk at_ b i)).map fun t => d ++ [t]
def allP (at_ : List C) (b : Oc03.Book) (l : List Nat) (n : Nat) : List (List Nat) := (List.range n).foldl (step1 at_ b l) [[]]
def plcs (h : House) : List (List Nat) := (allP h.atoms h.book h.types h.book.things).filter (tiesOk h.atoms h.book)
theorem allP_succ (at_ : List C) (b : Oc03.Book) (l : List Nat) (n : Nat) : allP at_ b l (n + 1) = step1 at_ b l (allP at_ b l n) n := by
  unfold allP; rw [List.range_succ, List.foldl_append]; rfl
theorem getD_app {d : List Nat} {t i : Nat} (h : i < d.length) : (d ++ [t]).getD i 0 = d.getD i 0 := by
  rw [List.getD_eq_getElem?_getD, List.getD_eq_getElem?_getD, List.getElem?_append_left h]
theorem getD_last {d : List Nat} {t : Nat} : (d ++ [t]).getD d.length 0 = t := by
  rw [List.getD_eq_getElem?_getD]; simp
theorem mem_allP {at_ : List C} {b : Oc03.Book} {l : List Nat} : ∀ {n : Nat} {d : List Nat}, d ∈ allP at_ b l n ↔ d.length = n ∧ ∀ i, i < n → d.getD i 0 ∈ l ∧ saysOk at_ b i (d.getD i 0) = true
  | 0, d => by
    show d ∈ [[]] ↔ _
    simp
  | n + 1, d => by
    rw [allP_succ]
    unfold step1
    rw [List.mem_flatMap]
    constructor
    · rintro ⟨e, he, hd⟩
      obtain ⟨t, ht, rfl⟩ := List.mem_map.mp hd
      obtain ⟨h1, h2⟩ := mem_allP.mp he
      obtain ⟨t1, t2⟩ := List.mem_filter.mp ht
      refine ⟨by simp [h1], fun i hi => ?_⟩
      by_cases c : i < n
      · rw [getD_app (by omega)]; exact h2 i c
      · have : i = e.length := by omega
        subst this
        rw [getD_last]
        rw [h1] at *
        exact ⟨t1, t2⟩
    · rintro ⟨h1, h2⟩
      have hne : d ≠ [] := by intro e; subst e; simp at h1
      have e : d = d.dropLast ++ [d.getLast hne] := (List.dropLast_concat_getLast hne).symm
      have hl : d.dropLast.length = n := by simp [h1]
      refine ⟨d.dropLast, mem_allP.mpr ⟨hl, fun i hi => ?_⟩, ?_⟩
      · have := h2 i (by omega)
        rw [e, getD_app (by omega)] at this
        exact this
      · refine List.mem_map.mpr ⟨d.getLast hne, ?_, e.symm⟩
        have := h2 n (by omega)
        rw [e] at this
        rw [show n = d.dropLast.length from hl.symm] at this
        rw [getD_last] at this
        rw [hl] at this
        exact List.mem_filter.mpr this
theorem place_some {at_ : List C} {b : Oc03.Book} {l : List Nat} : ∀ (n : Nat) (d : List Nat), (Oc03.place at_ b l n d).isSome = true ↔ ∃ e : List Nat, e.length = n ∧ ∀ j, j < n → e.getD j 0 ∈ l ∧ Oc03.right at_ b (d ++ e.take j) (e.getD j 0) = true
  | 0, d => by
    constructor
    · intro _; exact ⟨[], rfl, fun j hj => by omega⟩
    · intro _; rfl
  | n + 1, d => by
    show (l.findSome? fun t => if Oc03.right at_ b d t = true then Oc03.place at_ b l n (d ++ [t]) else none).isSome = true ↔ _
    rw [List.findSome?_isSome_iff]
    constructor
    · rintro ⟨t, ht, hs⟩
      by_cases hr : Oc03.right at_ b d t = true
      · rw [if_pos hr] at hs
        obtain ⟨e, he, hj⟩ := (place_some n (d ++ [t])).mp hs
        refine ⟨t :: e, by simp [he], fun j hj' => ?_⟩
        cases j with
        | zero => exact ⟨ht, by simpa using hr⟩
        | succ j =>
          obtain ⟨a, c⟩ := hj j (by omega)
          refine ⟨a, ?_⟩
          rw [List.append_assoc] at c
          exact c
      · rw [if_neg hr] at hs; cases hs
    · rintro ⟨e, he, hj⟩
      cases e with
      | nil => simp at he
      | cons t e =>
        obtain ⟨a, c⟩ := hj 0 (by omega)
        have c' : Oc03.right at_ b d t = true := by simpa using c
        refine ⟨t, a, ?_⟩
        rw [if_pos c']
        refine (place_some n (d ++ [t])).mpr ⟨e, by simpa using he, fun j hj' => ?_⟩
        obtain ⟨a, c⟩ := hj (j + 1) (by omega)
        refine ⟨a, ?_⟩
        rw [List.append_assoc]
        exact c
theorem getD_take {d : List Nat} {i j : Nat} (h : j < i) : (d.take i).getD j 0 = d.getD j 0 := by
  rw [List.getD_eq_getElem?_getD, List.getD_eq_getElem?_getD, List.getElem?_take_of_lt h]
theorem take_getD {d : List Nat} {i : Nat} (h : i < d.length) : d.take i ++ [d.getD i 0] = d.take (i + 1) := by
  rw [List.take_succ, List.getD_eq_getElem?_getD, List.getElem?_eq_getElem h]; rfl
/-- a way is a placing -/
theorem way_iff {at_ : List C} {b : Oc03.Book} {l : List Nat} {n : Nat} (ht : ∀ x ∈ b.ties, x.2.1 < n ∧ x.2.2 < n) : (Oc03.place at_ b l n []).isSome = true ↔ ∃ d ∈ allP at_ b l n, tiesOk at_ b d = true := by
  rw [place_some]
  have rt : ∀ (d : List Nat) (i : Nat), d.length = n → i < n → (Oc03.right at_ b (d.take i) (d.getD i 0) = true ↔ saysOk at_ b i (d.getD i 0) = true ∧ ∀ x ∈ b.ties, x.2.1 ≤ i → x.2.2 ≤ i → (x.2.1 = i ∨ x.2.2 = i) → Oc.fits at_ x.1 (d.getD x.2.1 0) (d.getD x.2.2 0) = true) := by
    intro d i hd hi
    unfold Oc03.right saysOk
    have hlen : (d.take i).length = i := by simp; omega
    simp only [hlen]
    rw [take_getD (by omega), Bool.and_eq_true]
    refine and_congr Iff.rfl ?_
    rw [List.all_eq_true]
    refine forall_congr' fun x => forall_congr' fun hx => ?_
    by_cases c1 : x.2.1 ≤ i
    · by_cases c2 : x.2.2 ≤ i
      · rw [getD_take (show x.2.1 < i + 1 by omega), getD_take (show x.2.2 < i + 1 by omega)]
        by_cases c3 : x.2.1 = i ∨ x.2.2 = i
        · have : (x.2.1 == i || x.2.2 == i) = true := by simpa using c3
          simp [c1, c2, this, c3]
        · have : (x.2.1 == i || x.2.2 == i) = false := by simpa using c3
          simp [c1, c2, this, c3]
      · simp [c2]
    · simp [c1]
  constructor
  · rintro ⟨e, he, hj⟩
    have hj' : ∀ i, i < n → e.getD i 0 ∈ l ∧ saysOk at_ b i (e.getD i 0) = true ∧ ∀ x ∈ b.ties, x.2.1 ≤ i → x.2.2 ≤ i → (x.2.1 = i ∨ x.2.2 = i) → Oc.fits at_ x.1 (e.getD x.2.1 0) (e.getD x.2.2 0) = true := fun i hi => by
      obtain ⟨a, c⟩ := hj i hi
      rw [List.nil_append] at c
      exact ⟨a, (rt e i he hi).mp c⟩
    refine ⟨e, mem_allP.mpr ⟨he, fun i hi => ⟨(hj' i hi).1, (hj' i hi).2.1⟩⟩, ?_⟩
    unfold tiesOk
    rw [List.all_eq_true]
    intro x hx
    obtain ⟨h1, h2⟩ := ht x hx
    by_cases c : x.2.1 ≤ x.2.2
    · exact (hj' x.2.2 h2).2.2 x hx c (Nat.le_refl _) (.inr rfl)
    · exact (hj' x.2.1 h1).2.2 x hx (Nat.le_refl _) (by omega) (.inl rfl)
  · rintro ⟨d, hd, hx⟩
    obtain ⟨h1, h2⟩ := mem_allP.mp hd
    refine ⟨d, h1, fun j hj => ⟨(h2 j hj).1, ?_⟩⟩
    rw [List.nil_append, rt d j h1 hj]
    refine ⟨(h2 j hj).2, fun x hxm _ _ _ => ?_⟩
    unfold tiesOk at hx
    rw [List.all_eq_true] at hx
    exact hx x hxm
theorem saysOk_more {at_ : List C} {b : Oc03.Book} {m : List (Nat × C)} {i t : Nat} : saysOk at_ { b with says := b.says ++ m } i t = (saysOk at_ b i t && m.all fun x => x.1 != i || Oc.holds at_ t x.2) := by
  unfold saysOk
  simp only
  rw [List.all_append]
theorem whole_iff {h : House} (I : HInv h) (m : List (Nat × C)) (hm : ∀ x ∈ m, x.1 < h.book.things) :
    h.whole m = true ↔ h.types ≠ [] ∧ ∃ d ∈ plcs h, ∀ x ∈ m, Oc.holds h.atoms (d.getD x.1 0) x.2 = true := by
  unfold House.whole House.way
  rw [Bool.and_eq_true, way_iff (b := { h.book with says := h.book.says ++ m }) (fun x hx => (I.ti x hx).2)]
  rw [and_comm]
  refine and_congr (by simp) ?_
  unfold plcs
  constructor
  · rintro ⟨d, hd, ht⟩
    obtain ⟨h1, h2⟩ := mem_allP.mp hd
    refine ⟨d, List.mem_filter.mpr ⟨mem_allP.mpr ⟨h1, fun i hi => ?_⟩, ht⟩, fun x hx => ?_⟩
    · obtain ⟨a, c⟩ := h2 i hi
      rw [saysOk_more, Bool.and_eq_true] at c
      exact ⟨a, c.1⟩
    · obtain ⟨a, c⟩ := h2 x.1 (hm x hx)
      rw [saysOk_more, Bool.and_eq_true, List.all_eq_true] at c
      have := c.2 x hx
      simpa using this
  · rintro ⟨d, hd, hx⟩
    obtain ⟨hd, ht⟩ := List.mem_filter.mp hd
    obtain ⟨h1, h2⟩ := mem_allP.mp hd
    refine ⟨d, mem_allP.mpr ⟨h1, fun i hi => ⟨(h2 i hi).1, ?_⟩⟩, ht⟩
    rw [saysOk_more, Bool.and_eq_true, List.all_eq_true]
    refine ⟨(h2 i hi).2, fun x hxm => ?_⟩
    by_cases c : x.1 = i
    · subst c; rw [hx x hxm]; simp
    · simp [c]
theorem whole_nil {h : House} (I : HInv h) : h.whole [] = true ↔ h.types ≠ [] ∧ plcs h ≠ [] := by
  rw [whole_iff I [] (by simp)]
  refine and_congr Iff.rfl ⟨?_, fun q => ?_⟩
  · rintro ⟨d, hd, _⟩ e; rw [e] at hd; cases hd
  · cases e : plcs h with
    | nil => exact absurd e q
    | cons d r => exact ⟨d, by simp, by simp⟩
theorem is_eq {h : House} (I : HInv h) {a : Nat} (ha : a < h.book.things) {c : C} (hw : h.whole [] = true) :
    h.is a c = if (plcs h).all (fun d => Oc.holds h.atoms (d.getD a 0) c) = true then 2 else if (plcs h).any (fun d => Oc.holds h.atoms (d.getD a 0) c) = true then 1 else 0 := by
  obtain ⟨ht, _⟩ := (whole_nil I).mp hw
  have one : ∀ x : Nat × C, x.1 < h.book.things → (h.whole [x] = true ↔ ∃ d ∈ plcs h, Oc.holds h.atoms (d.getD x.1 0) x.2 = true) := fun x hx => by
    rw [whole_iff I [x] (by simpa using hx)]
    simp only [List.mem_singleton, forall_eq]
    exact ⟨fun q => q.2, fun q => ⟨ht, q⟩⟩
  have h1 : (h.whole [(a, .not c)] = false) ↔ (plcs h).all (fun d => Oc.holds h.atoms (d.getD a 0) c) = true := by
    rw [← Bool.not_eq_true, one _ ha, List.all_eq_true]
    constructor
    · intro q d hd
      by_cases e : Oc.holds h.atoms (d.getD a 0) c = true
      · exact e
      · exact absurd ⟨d, hd, by show (!Oc.holds h.atoms (d.getD a 0) c) = true; rw [Bool.not_eq_true] at e; rw [e]; rfl⟩ q
    · rintro q ⟨d, hd, e⟩
      have e' : (!Oc.holds h.atoms (d.getD a 0) c) = true := e
      rw [q d hd] at e'; cases e'
  have h2 : (h.whole [(a, c)] = true) ↔ (plcs h).any (fun d => Oc.holds h.atoms (d.getD a 0) c) = true := by
    rw [one _ ha, List.any_eq_true]
  unfold House.is
  simp only [h1, h2]

/-! ### more atoms say nothing new of wholeness: a model of the types -/
def Mo (at_ : List C) (T : List Nat) : Oc.Model := ⟨Nat, fun a t => Oc.holds at_ t (.name a) = true, fun r t u => u ∈ T ∧ Oc.fits at_ r t u = true⟩
theorem fits_some {at_ : List C} {r t u : Nat} {c : C} (h : Oc.fits at_ r t u = true) (hx : C.some r c ∈ at_) (hc : Oc.holds at_ u c = true) : Oc.holds at_ t (.some r c) = true := by
  unfold Oc.fits at h
  rw [List.all_eq_true] at h
  have := h _ hx
  simpa [hc] using this
theorem fits_all {at_ : List C} {r t u : Nat} {c : C} (h : Oc.fits at_ r t u = true) (hx : C.all r c ∈ at_) (ht : Oc.holds at_ t (.all r c) = true) : Oc.holds at_ u c = true := by
  unfold Oc.fits at h
  rw [List.all_eq_true] at h
  have := h _ hx
  simpa [ht] using this
theorem borne_some {at_ : List C} {T : List Nat} {r t : Nat} {c : C} (h : Oc.borne at_ T t = true) (hx : C.some r c ∈ at_) (ht : Oc.holds at_ t (.some r c) = true) : ∃ u ∈ T, Oc.fits at_ r t u = true ∧ Oc.holds at_ u c = true := by
  unfold Oc.borne at h
  rw [List.all_eq_true] at h
  have := h _ hx
  simpa [ht] using this
theorem borne_all {at_ : List C} {T : List Nat} {r t : Nat} {c : C} (h : Oc.borne at_ T t = true) (hx : C.all r c ∈ at_) (ht : ¬ Oc.holds at_ t (.all r c) = true) : ∃ u ∈ T, Oc.fits at_ r t u = true ∧ Oc.holds at_ u c = false := by
  unfold Oc.borne at h
  rw [List.all_eq_true] at h
  have := h _ hx
  simpa [ht] using this
/-- in the model of the types a type is of its own type -/
theorem truth {at_ : List C} {T : List Nat} (hb : ∀ t ∈ T, Oc.borne at_ T t = true) : ∀ (c : C), Sub c at_ → ∀ t ∈ T, ((Mo at_ T).Is c t ↔ Oc.holds at_ t c = true)
  | .top, _, t, _ => by simp [Oc.Model.Is, Oc.holds]
  | .bot, _, t, _ => by simp [Oc.Model.Is, Oc.holds]
  | .name a, _, t, _ => Iff.rfl
  | .and c d, h, t, ht => by
    have ih1 := truth hb c (fun y hy => h y (by simp [C.atoms, hy])) t ht
    have ih2 := truth hb d (fun y hy => h y (by simp [C.atoms, hy])) t ht
    show ((Mo at_ T).Is c t ∧ (Mo at_ T).Is d t) ↔ (Oc.holds at_ t c && Oc.holds at_ t d) = true
    rw [ih1, ih2, Bool.and_eq_true]
  | .or c d, h, t, ht => by
    have ih1 := truth hb c (fun y hy => h y (by simp [C.atoms, hy])) t ht
    have ih2 := truth hb d (fun y hy => h y (by simp [C.atoms, hy])) t ht
    show ((Mo at_ T).Is c t ∨ (Mo at_ T).Is d t) ↔ (Oc.holds at_ t c || Oc.holds at_ t d) = true
    rw [ih1, ih2, Bool.or_eq_true]
  | .not c, h, t, ht => by
    have ih1 := truth hb c (fun y hy => h y (by simp [C.atoms, hy])) t ht
    show (¬ (Mo at_ T).Is c t) ↔ (!Oc.holds at_ t c) = true
    rw [ih1]; simp
  | .some r c, h, t, ht => by
    have hm : C.some r c ∈ at_ := h _ (by simp [C.atoms])
    have ih := truth hb c (fun y hy => h y (by simp [C.atoms, hy]))
    show (∃ y, (y ∈ T ∧ Oc.fits at_ r t y = true) ∧ (Mo at_ T).Is c y) ↔ _
    constructor
    · rintro ⟨y, ⟨hy, hf⟩, hi⟩
      exact fits_some hf hm ((ih y hy).mp hi)
    · intro q
      obtain ⟨u, hu, hf, hc⟩ := borne_some (hb t ht) hm q
      exact ⟨u, ⟨hu, hf⟩, (ih u hu).mpr hc⟩
  | .all r c, h, t, ht => by
    have hm : C.all r c ∈ at_ := h _ (by simp [C.atoms])
    have ih := truth hb c (fun y hy => h y (by simp [C.atoms, hy]))
    show (∀ y, (y ∈ T ∧ Oc.fits at_ r t y = true) → (Mo at_ T).Is c y) ↔ _
    constructor
    · intro q
      by_cases e : Oc.holds at_ t (.all r c) = true
      · exact e
      · obtain ⟨u, hu, hf, hc⟩ := borne_all (hb t ht) hm e
        have := (ih u hu).mp (q u ⟨hu, hf⟩)
        rw [hc] at this; cases this
    · rintro q y ⟨hy, hf⟩
      exact (ih y hy).mpr (fits_all hf hm q)
open Classical in
/-- the type of a thing of a model, over some atoms -/
noncomputable def tp (M : Oc.Model) (at_ : List C) (x : M.D) : Nat := ofBits (fun k => match at_[k]? with | some c => decide (M.Is c x) | none => false) at_.length
theorem tp_holds {M : Oc.Model} {at_ : List C} (ok : AtOk at_) {x : M.D} : ∀ (c : C), Sub c at_ → (Oc.holds at_ (tp M at_ x) c = true ↔ M.Is c x) := by
  have key : ∀ y, isAtom y = true → y ∈ at_ → (Oc.holds at_ (tp M at_ x) y = true ↔ M.Is y x) := fun y hy hm => by
    rw [holds_atom hy]
    obtain ⟨k, e, hk, hg⟩ := idx_some hm
    rw [e]
    show Oc.bit (tp M at_ x) k = true ↔ _
    unfold tp
    rw [ofBits_bit _ _ _ hk]
    simp [hg]
  intro c
  induction c with
  | top => intro _; simp [Oc.Model.Is, Oc.holds]
  | bot => intro _; simp [Oc.Model.Is, Oc.holds]
  | name a => intro h; exact key _ rfl (h _ (by simp [C.atoms]))
  | and c d ih1 ih2 =>
    intro h
    have i1 := ih1 fun y hy => h y (by simp [C.atoms, hy])
    have i2 := ih2 fun y hy => h y (by simp [C.atoms, hy])
    show (Oc.holds _ _ c && Oc.holds _ _ d) = true ↔ (M.Is c x ∧ M.Is d x)
    rw [Bool.and_eq_true, i1, i2]
  | or c d ih1 ih2 =>
    intro h
    have i1 := ih1 fun y hy => h y (by simp [C.atoms, hy])
    have i2 := ih2 fun y hy => h y (by simp [C.atoms, hy])
    show (Oc.holds _ _ c || Oc.holds _ _ d) = true ↔ (M.Is c x ∨ M.Is d x)
    rw [Bool.or_eq_true, i1, i2]
  | not c ih =>
    intro h
    have i1 := ih fun y hy => h y (by simp [C.atoms, hy])
    show (!Oc.holds _ _ c) = true ↔ ¬ M.Is c x
    rw [← i1]; simp
  | some r c ih => intro h; exact key _ rfl (h _ (by simp [C.atoms]))
  | all r c ih => intro h; exact key _ rfl (h _ (by simp [C.atoms]))
theorem tp_fits {M : Oc.Model} {at_ : List C} (ok : AtOk at_) {x y : M.D} {r : Nat} (h : M.to r x y) : Oc.fits at_ r (tp M at_ x) (tp M at_ y) = true := by
  unfold Oc.fits
  rw [List.all_eq_true]
  intro z hz
  cases z <;> simp only
  case some s c =>
    by_cases e : s = r
    · subst e
      by_cases q : Oc.holds at_ (tp M at_ y) c = true
      · have : M.Is (.some s c) x := ⟨y, h, (tp_holds ok c (ok.inner (.inl hz))).mp q⟩
        rw [(tp_holds ok _ (ok.sub hz)).mpr this]; simp
      · simp at q; rw [q]; simp
    · simp [e]
  case all s c =>
    by_cases e : s = r
    · subst e
      by_cases q : Oc.holds at_ (tp M at_ x) (.all s c) = true
      · have : M.Is (.all s c) x := (tp_holds ok _ (ok.sub hz)).mp q
        rw [(tp_holds ok c (ok.inner (.inr hz))).mpr (this y h)]; simp
      · simp at q; rw [q]; simp
    · simp [e]
/-- types of all things of a model are types that can be there -/
theorem tp_types {at_ at' : List C} {ax : List Axiom} {T : List Nat} (ok : AtOk at') (hb : ∀ t ∈ T, Oc.borne at_ T t = true) (hk : ∀ t ∈ T, Oc.keeps at_ ax t = true) (hax : ∀ a ∈ ax, Sub a.1 at_ ∧ Sub a.2 at_) (hax' : ∀ a ∈ ax, Sub a.1 at' ∧ Sub a.2 at') :
    ∀ t ∈ T, tp (Mo at_ T) at' t ∈ Oc.types at' ax := by
  intro t ht
  refine types_max (S := T.map (fun t : Nat => tp (Mo at_ T) at' t)) ?_ ?_ ?_ _ (List.mem_map.mpr ⟨t, ht, rfl⟩)
  · intro u hu
    obtain ⟨v, _, rfl⟩ := List.mem_map.mp hu
    exact ofBits_lt _ _
  · intro u hu
    obtain ⟨v, hv, rfl⟩ := List.mem_map.mp hu
    unfold Oc.keeps
    rw [List.all_eq_true]
    intro a ha
    have q := hk v hv
    unfold Oc.keeps at q
    rw [List.all_eq_true] at q
    have q := q a ha
    by_cases e : Oc.holds at' (tp (Mo at_ T) at' v) a.1 = true
    · have m1 := (tp_holds (M := Mo at_ T) (x := v) ok a.1 (hax' a ha).1).mp e
      have m2 := (truth hb a.1 (hax a ha).1 v hv).mp m1
      rw [m2] at q
      have q : Oc.holds at_ v a.2 = true := by simpa using q
      have m3 := (truth hb a.2 (hax a ha).2 v hv).mpr q
      rw [(tp_holds (M := Mo at_ T) (x := v) ok a.2 (hax' a ha).2).mpr m3]; simp
    · simp at e; rw [e]; simp
  · intro u hu
    obtain ⟨v, hv, rfl⟩ := List.mem_map.mp hu
    unfold Oc.borne
    rw [List.all_eq_true]
    intro x hx
    cases x <;> simp only
    case some r c =>
      by_cases e : Oc.holds at' (tp (Mo at_ T) at' v) (.some r c) = true
      · obtain ⟨y, ⟨hy, hf⟩, hi⟩ := (tp_holds (M := Mo at_ T) (x := v) ok _ (ok.sub hx)).mp e
        rw [e, Bool.not_true, Bool.false_or, List.any_eq_true]
        refine ⟨tp (Mo at_ T) at' y, List.mem_map.mpr ⟨y, hy, rfl⟩, ?_⟩
        rw [Bool.and_eq_true]
        exact ⟨tp_fits (M := Mo at_ T) ok ⟨hy, hf⟩, (tp_holds (M := Mo at_ T) ok c (ok.inner (.inl hx))).mpr hi⟩
      · simp at e; rw [e]; simp
    case all r c =>
      by_cases e : Oc.holds at' (tp (Mo at_ T) at' v) (.all r c) = true
      · rw [e]; simp
      · have ne : ¬ (Mo at_ T).Is (.all r c) v := fun q => e ((tp_holds (M := Mo at_ T) (x := v) ok _ (ok.sub hx)).mpr q)
        have ne' : ∃ y, (Mo at_ T).to r v y ∧ ¬ (Mo at_ T).Is c y := by
          apply Classical.byContradiction
          intro q
          apply ne
          intro y hy
          apply Classical.byContradiction
          intro q'
          exact q ⟨y, hy, q'⟩
        obtain ⟨y, ⟨hy, hf⟩, hi⟩ := ne'
        simp only [Bool.or_eq_true]
        right
        rw [List.any_eq_true]
        refine ⟨tp (Mo at_ T) at' y, List.mem_map.mpr ⟨y, hy, rfl⟩, ?_⟩
        rw [Bool.and_eq_true]
        refine ⟨tp_fits (M := Mo at_ T) ok ⟨hy, hf⟩, ?_⟩
        have : ¬ Oc.holds at' (tp (Mo at_ T) at' y) c = true := fun q => hi ((tp_holds (M := Mo at_ T) ok c (ok.inner (.inr hx))).mp q)
        simpa using this
theorem getD_map {f : Nat → Nat} {d : List Nat} {i : Nat} (h : i < d.length) : (d.map f).getD i 0 = f (d.getD i 0) := by
  rw [List.getD_eq_getElem?_getD, List.getD_eq_getElem?_getD, List.getElem?_map, List.getElem?_eq_getElem h]; rfl
theorem mem_plcs {h : House} {d : List Nat} : d ∈ plcs h ↔ d.length = h.book.things ∧ (∀ i, i < h.book.things → d.getD i 0 ∈ h.types ∧ ∀ x ∈ h.book.says, x.1 = i → Oc.holds h.atoms (d.getD i 0) x.2 = true) ∧ ∀ x ∈ h.book.ties, Oc.fits h.atoms x.1 (d.getD x.2.1 0) (d.getD x.2.2 0) = true := by
  unfold plcs
  rw [List.mem_filter, mem_allP]
  unfold tiesOk saysOk
  rw [List.all_eq_true, and_assoc]
  refine and_congr Iff.rfl (and_congr (forall_congr' fun i => forall_congr' fun hi => and_congr Iff.rfl ?_) Iff.rfl)
  rw [List.all_eq_true]
  refine forall_congr' fun x => forall_congr' fun hx => ?_
  by_cases c : x.1 = i
  · simp [c]
  · simp [c]
theorem whole_with {h : House} (I : HInv h) (l : List C) (hn : (withAtoms h.atoms l).length ≤ 6) (hz : ∀ c ∈ l, size c ≤ 30) : (h.with_ l).whole [] = h.whole [] := by
  rw [with_house I, Bool.eq_iff_iff, whole_nil (inv_with I hn hz), whole_nil I]
  have ok' : AtOk (withAtoms h.atoms l) := with_ok I.ok
  have hty := I.ty
  constructor
  · rintro ⟨h1, h2⟩
    simp only at h1
    obtain ⟨r, e, _⟩ := with_prefix h.atoms l
    constructor
    · intro q
      cases ee : Oc.types (withAtoms h.atoms l) h.book.axioms with
      | nil => exact h1 ee
      | cons t ts =>
        have ht : t ∈ Oc.types (withAtoms h.atoms l) h.book.axioms := by rw [ee]; simp
        rw [e] at ht
        have := types_proj I.ok I.ax ht
        rw [← hty, q] at this; cases this
    · intro q
      cases ee : plcs { h with atoms := withAtoms h.atoms l, types := Oc.types (withAtoms h.atoms l) h.book.axioms } with
      | nil => exact h2 ee
      | cons d ds =>
        have hd : d ∈ plcs { h with atoms := withAtoms h.atoms l, types := Oc.types (withAtoms h.atoms l) h.book.axioms } := by rw [ee]; simp
        obtain ⟨d1, d2, d3⟩ := mem_plcs.mp hd
        simp only at d1 d2 d3
        have : d.map (· % 2 ^ h.atoms.length) ∈ plcs h := by
          refine mem_plcs.mpr ⟨by simpa using d1, fun i hi => ?_, fun x hx => ?_⟩
          · rw [getD_map (by omega)]
            obtain ⟨a, c⟩ := d2 i hi
            rw [e] at a c
            refine ⟨by rw [hty]; exact types_proj I.ok I.ax a, fun x hx hxi => ?_⟩
            rw [holds_proj (more := r) (I.sa x hx).1]
            exact c x hx hxi
          · obtain ⟨_, t1, t2⟩ := I.ti x hx
            rw [getD_map (by omega), getD_map (by omega)]
            have := d3 x hx
            rw [e] at this
            exact fits_proj I.ok this
        rw [q] at this; cases this
  · rintro ⟨h1, h2⟩
    have hb : ∀ t ∈ h.types, Oc.borne h.atoms h.types t = true := fun t ht => by rw [hty] at ht ⊢; exact types_borne ht
    have hk : ∀ t ∈ h.types, Oc.keeps h.atoms h.book.axioms t = true := fun t ht => by rw [hty] at ht; exact types_keeps ht
    have htp := tp_types (at' := withAtoms h.atoms l) ok' hb hk I.ax (fun a ha => ⟨sub_with (I.ax a ha).1, sub_with (I.ax a ha).2⟩)
    constructor
    · intro q
      cases ee : h.types with
      | nil => exact h1 ee
      | cons t ts =>
        have := htp t (by rw [ee]; simp)
        simp only at q
        rw [q] at this; cases this
    · intro q
      cases ee : plcs h with
      | nil => exact h2 ee
      | cons d ds =>
        have hd : d ∈ plcs h := by rw [ee]; simp
        obtain ⟨d1, d2, d3⟩ := mem_plcs.mp hd
        have : d.map (fun t : Nat => tp (Mo h.atoms h.types) (withAtoms h.atoms l) t) ∈ plcs { h with atoms := withAtoms h.atoms l, types := Oc.types (withAtoms h.atoms l) h.book.axioms } := by
          refine mem_plcs.mpr ⟨by simpa using d1, fun i hi => ?_, fun x hx => ?_⟩
          · simp only at hi ⊢
            rw [getD_map (by omega)]
            obtain ⟨a, c⟩ := d2 i hi
            refine ⟨htp _ a, fun x hx hxi => ?_⟩
            exact (tp_holds (M := Mo h.atoms h.types) (x := (d.getD i 0 : Nat)) ok' x.2 (sub_with (I.sa x hx).1)).mpr ((truth hb x.2 (I.sa x hx).1 _ a).mpr (c x hx hxi))
          · obtain ⟨_, t1, t2⟩ := I.ti x hx
            simp only
            rw [getD_map (by omega), getD_map (by omega)]
            exact tp_fits (M := Mo h.atoms h.types) ok' ⟨(d2 _ t2).1, d3 x hx⟩
        rw [q] at this; cases this
end KM

/-! ## KcStep -/
namespace KM
open Oc (C Axiom)
open Oc11 (House)

theorem nodup_le {α : Type} [DecidableEq α] : ∀ {l m : List α}, l.Nodup → (∀ x ∈ l, x ∈ m) → l.length ≤ m.length
  | [], m, _, _ => Nat.zero_le _
  | x :: l, m, hn, hs => by
    have hx : x ∈ m := hs x (by simp)
    have hn' := List.nodup_cons.mp hn
    have h1 : l.length ≤ (m.erase x).length := nodup_le hn'.2 fun y hy => by
      have hne : y ≠ x := fun e => hn'.1 (e ▸ hy)
      exact (List.mem_erase_of_ne hne).mpr (hs y (by simp [hy]))
    rw [List.length_erase_of_mem hx] at h1
    have h2 : 0 < m.length := List.length_pos_of_mem hx
    simp only [List.length_cons]
    omega
theorem mem_cut {α : Type} {l : List α} {i : Nat} {x : α} (h : x ∈ l.take i ++ l.drop (i + 1)) : x ∈ l := by
  rcases List.mem_append.mp h with h | h
  · exact List.mem_of_mem_take h
  · exact List.mem_of_mem_drop h
theorem cut_len {α : Type} {l : List α} {i : Nat} (h : i < l.length) : (l.take i ++ l.drop (i + 1)).length = l.length - 1 := by
  simp only [List.length_append, List.length_take, List.length_drop]
  omega
theorem inv_axs {h : House} (I : HInv h) {ax : List Axiom} {as : List C} (ok : AtOk as) (hn : as.length ≤ 6) (hz : ∀ x ∈ as, size x ≤ 30) (hx : ∀ a ∈ ax, Sub a.1 as ∧ Sub a.2 as) (hs : ∀ x ∈ h.book.says, Sub x.2 as) (nx : ax.length ≤ 5) (zx : ∀ a ∈ ax, size a.1 ≤ 30 ∧ size a.2 ≤ 30) :
    HInv { h with book := { h.book with axioms := ax }, atoms := as, types := Oc.types as ax } where
  ok := ok
  ty := rfl
  ax := hx
  sa := fun x hm => ⟨hs x hm, (I.sa x hm).2⟩
  ti := I.ti
  nat := hn
  nax := nx
  nth := I.nth
  nsa := I.nsa
  nti := I.nti
  zat := hz
  zax := zx
  zsa := I.zsa
theorem inv_add {h : House} (I : HInv h) {a : Axiom} (hn : (withAtoms h.atoms [a.1, a.2]).length ≤ 6) (h1 : size a.1 ≤ 30) (h2 : size a.2 ≤ 30) (nx : h.book.axioms.length < 5) :
    HInv { h with book := { h.book with axioms := h.book.axioms ++ [a] }, atoms := withAtoms h.atoms [a.1, a.2], types := Oc.types (withAtoms h.atoms [a.1, a.2]) (h.book.axioms ++ [a]) } := by
  refine inv_axs I (with_ok I.ok) hn (with_small I.zat ?_) ?_ (fun x hm => sub_with (I.sa x hm).1) ?_ ?_
  · intro c hc
    have : c = a.1 ∨ c = a.2 := by simpa using hc
    rcases this with rfl | rfl
    · exact h1
    · exact h2
  · intro b hb
    rcases List.mem_append.mp hb with hb | hb
    · exact ⟨sub_with (I.ax b hb).1, sub_with (I.ax b hb).2⟩
    · have : b = a := by simpa using hb
      subst this
      exact ⟨with_sub (by simp), with_sub (by simp)⟩
  · rw [List.length_append]; simp; omega
  · intro b hb
    rcases List.mem_append.mp hb with hb | hb
    · exact I.zax b hb
    · have : b = a := by simpa using hb
      subst this
      exact ⟨h1, h2⟩
theorem inv_drop {h : House} (I : HInv h) {i : Nat} : HInv { h with book := { h.book with axioms := h.book.axioms.take i ++ h.book.axioms.drop (i + 1) }, types := Oc.types h.atoms (h.book.axioms.take i ++ h.book.axioms.drop (i + 1)) } := by
  refine inv_axs I I.ok I.nat I.zat (fun a ha => I.ax a (mem_cut ha)) (fun x hm => (I.sa x hm).1) ?_ (fun a ha => I.zax a (mem_cut ha))
  have := I.nax
  simp only [List.length_append, List.length_take, List.length_drop]
  omega
theorem inv_thing {h : House} (I : HInv h) (hn : h.book.things < 2) : HInv { h with book := { h.book with things := h.book.things + 1 } } where
  ok := I.ok
  ty := I.ty
  ax := I.ax
  sa := fun x hm => ⟨(I.sa x hm).1, Nat.lt_succ_of_lt (I.sa x hm).2⟩
  ti := fun x hm => ⟨(I.ti x hm).1, Nat.lt_succ_of_lt (I.ti x hm).2.1, Nat.lt_succ_of_lt (I.ti x hm).2.2⟩
  nat := I.nat
  nax := I.nax
  nth := hn
  nsa := I.nsa
  nti := I.nti
  zat := I.zat
  zax := I.zax
  zsa := I.zsa
theorem inv_say {h : House} (I : HInv h) {a : Nat} {c : C} (hs : Sub c h.atoms) (ha : a < h.book.things) (hn : h.book.says.length < 5) (hz : size c ≤ 30) : HInv { h with book := h.book.say a c } where
  ok := I.ok
  ty := I.ty
  ax := I.ax
  sa := fun x hm => by
    rcases List.mem_append.mp (show x ∈ h.book.says ++ [(a, c)] from hm) with hm | hm
    · exact I.sa x hm
    · have : x = (a, c) := by simpa using hm
      subst this
      exact ⟨hs, ha⟩
  ti := I.ti
  nat := I.nat
  nax := I.nax
  nth := I.nth
  nsa := by show (h.book.says ++ [(a, c)]).length ≤ 5; rw [List.length_append]; simp; omega
  nti := I.nti
  zat := I.zat
  zax := I.zax
  zsa := fun x hm => by
    rcases List.mem_append.mp (show x ∈ h.book.says ++ [(a, c)] from hm) with hm | hm
    · exact I.zsa x hm
    · have : x = (a, c) := by simpa using hm
      subst this
      exact hz
theorem inv_unsay {h : House} (I : HInv h) {i : Nat} : HInv { h with book := { h.book with says := h.book.says.take i ++ h.book.says.drop (i + 1) } } where
  ok := I.ok
  ty := I.ty
  ax := I.ax
  sa := fun x hm => I.sa x (mem_cut hm)
  ti := I.ti
  nat := I.nat
  nax := I.nax
  nth := I.nth
  nsa := by
    have := I.nsa
    show (h.book.says.take i ++ h.book.says.drop (i + 1)).length ≤ 5
    simp only [List.length_append, List.length_take, List.length_drop]
    omega
  nti := I.nti
  zat := I.zat
  zax := I.zax
  zsa := fun x hm => I.zsa x (mem_cut hm)
theorem inv_tie {h : House} (I : HInv h) {r a b : Nat} (hr : r < 2) (ha : a < h.book.things) (hb : b < h.book.things) (hn : h.book.ties.length < 5) : HInv { h with book := { h.book with ties := h.book.ties ++ [(r, a, b)] } } where
  ok := I.ok
  ty := I.ty
  ax := I.ax
  sa := I.sa
  ti := fun x hm => by
    rcases List.mem_append.mp (show x ∈ h.book.ties ++ [(r, a, b)] from hm) with hm | hm
    · exact I.ti x hm
    · have : x = (r, a, b) := by simpa using hm
      subst this
      exact ⟨hr, ha, hb⟩
  nat := I.nat
  nax := I.nax
  nth := I.nth
  nsa := I.nsa
  nti := by show (h.book.ties ++ [(r, a, b)]).length ≤ 5; rw [List.length_append]; simp; omega
  zat := I.zat
  zax := I.zax
  zsa := I.zsa
theorem inv_untie {h : House} (I : HInv h) {i : Nat} : HInv { h with book := { h.book with ties := h.book.ties.take i ++ h.book.ties.drop (i + 1) } } where
  ok := I.ok
  ty := I.ty
  ax := I.ax
  sa := I.sa
  ti := fun x hm => I.ti x (mem_cut hm)
  nat := I.nat
  nax := I.nax
  nth := I.nth
  nsa := I.nsa
  nti := by
    have := I.nti
    show (h.book.ties.take i ++ h.book.ties.drop (i + 1)).length ≤ 5
    simp only [List.length_append, List.length_take, List.length_drop]
    omega
  zat := I.zat
  zax := I.zax
  zsa := I.zsa
/-- the atoms that a book needs -/
theorem need_is (h : House) : h.book.atoms [] = withAtoms [] ((h.book.axioms.flatMap fun a => [a.1, a.2]) ++ h.book.says.map fun x => x.2) := by
  unfold Oc03.Book.atoms
  rw [atomsFor_is, List.append_nil]
theorem need_sub {h : House} (I : HInv h) : ∀ x ∈ h.book.atoms [], x ∈ h.atoms := fun x hx => by
  rw [need_is] at hx
  rcases with_mem.mp hx with hx | ⟨c, hc, hx⟩
  · cases hx
  · rcases List.mem_append.mp hc with hc | hc
    · obtain ⟨a, ha, hc⟩ := List.mem_flatMap.mp hc
      have : c = a.1 ∨ c = a.2 := by simpa using hc
      rcases this with rfl | rfl
      · exact (I.ax a ha).1 x hx
      · exact (I.ax a ha).2 x hx
    · obtain ⟨y, hy, rfl⟩ := List.mem_map.mp hc
      exact (I.sa y hy).1 x hx
theorem need_ok (h : House) : AtOk (h.book.atoms []) := by
  rw [need_is]; exact with_ok nil_ok
theorem need_len {h : House} (I : HInv h) : (h.book.atoms []).length ≤ 6 := Nat.le_trans (nodup_le (need_ok h).nd (need_sub I)) I.nat
theorem need_ax {h : House} : ∀ a ∈ h.book.axioms, Sub a.1 (h.book.atoms []) ∧ Sub a.2 (h.book.atoms []) := fun a ha => by
  rw [need_is]
  exact ⟨with_sub (List.mem_append_left _ (List.mem_flatMap.mpr ⟨a, ha, by simp⟩)), with_sub (List.mem_append_left _ (List.mem_flatMap.mpr ⟨a, ha, by simp⟩))⟩
theorem need_sa {h : House} : ∀ x ∈ h.book.says, Sub x.2 (h.book.atoms []) := fun x hx => by
  rw [need_is]
  exact with_sub (List.mem_append_right _ (List.mem_map.mpr ⟨x, hx, rfl⟩))
theorem inv_tidy {h : House} (I : HInv h) : HInv h.tidy :=
  inv_axs I (need_ok h) (need_len I) (fun x hx => I.zat x (need_sub I x hx)) need_ax need_sa I.nax I.zax
/-- each call keeps it -/
def callOk : Oc11.Call → Prop
  | .line l => l.length ≤ 30
  | .says _ l => l.length ≤ 30
  | .under l => l.length ≤ 30
  | .is _ l => l.length ≤ 30
  | _ => True
end KM

/-! ## KcStep2 -/
namespace KM
open Oc (C Axiom)
open Oc11 (House)

/-- with an axiom more -/
abbrev kAdd (h : House) (a : Axiom) : House := { h with book := { h.book with axioms := h.book.axioms ++ [a] }, atoms := withAtoms h.atoms [a.1, a.2], types := Oc.types (withAtoms h.atoms [a.1, a.2]) (h.book.axioms ++ [a]) }
abbrev kDrop (h : House) (i : Nat) : House := { h with book := { h.book with axioms := h.book.axioms.take i ++ h.book.axioms.drop (i + 1) }, types := Oc.types h.atoms (h.book.axioms.take i ++ h.book.axioms.drop (i + 1)) }
abbrev kWith (h : House) (l : List C) : House := { h with atoms := withAtoms h.atoms l, types := Oc.types (withAtoms h.atoms l) h.book.axioms }
section
variable {h : House}
theorem st_line0 {l : List Nat} (e : Oc.two l = none) : Oc11.step h (.line l) = (h, Oc11.ok (-1)) := by
  simp only [Oc11.step, e]
theorem st_line1 {l : List Nat} {a : Axiom} (e : Oc.two l = some a) (h1 : h.book.axioms.length = 5 ∨ 6 < (withAtoms h.atoms [a.1, a.2]).length) : Oc11.step h (.line l) = (h, Oc11.ok (-7)) := by
  simp only [Oc11.step, e, many_is]
  exact if_pos h1
theorem st_line2 (I : HInv h) {l : List Nat} {a : Axiom} (e : Oc.two l = some a) (h1 : ¬ h.book.axioms.length = 5) (h2 : (withAtoms h.atoms [a.1, a.2]).length ≤ 6) :
    Oc11.step h (.line l) = (kAdd h a, ⟨(h.book.axioms.length : Nat), (kAdd h a).types.length :: Oc11.news h (kAdd h a)⟩) := by
  simp only [Oc11.step, e, many_is, add_house I]
  exact if_neg (fun z => z.elim h1 fun z => by
    have : 6 < (withAtoms h.atoms [a.1, a.2]).length := z
    omega)
theorem st_drop1 {i : Nat} (e : h.book.axioms.length ≤ i) : Oc11.step h (.drop i) = (h, Oc11.ok (-2)) := by
  simp only [Oc11.step]; exact if_pos e
theorem st_drop2 {i : Nat} (e : i < h.book.axioms.length) : Oc11.step h (.drop i) = (kDrop h i, ⟨((kDrop h i).book.axioms.length : Nat), (kDrop h i).types.length :: Oc11.news h (kDrop h i)⟩) := by
  simp only [Oc11.step]; rw [if_neg (by omega)]; rfl
theorem st_thing1 (e : h.book.things = 2) : Oc11.step h .thing = (h, Oc11.ok (-7)) := by
  simp only [Oc11.step]; exact if_pos e
theorem st_thing2 (e : ¬ h.book.things = 2) : Oc11.step h .thing = ({ h with book := { h.book with things := h.book.things + 1 } }, Oc11.ok (h.book.things : Nat)) := by
  simp only [Oc11.step]; exact if_neg e
theorem st_says0 {a : Nat} {l : List Nat} (e : Oc.concept l = none) : Oc11.step h (.says a l) = (h, Oc11.ok (-1)) := by
  simp only [Oc11.step, e]
theorem st_says1 {a : Nat} {l : List Nat} {c : C} (e : Oc.concept l = some c) (h1 : h.book.things ≤ a) : Oc11.step h (.says a l) = (h, Oc11.ok (-2)) := by
  simp only [Oc11.step, e]; exact if_pos h1
theorem st_says2 {a : Nat} {l : List Nat} {c : C} (e : Oc.concept l = some c) (h1 : a < h.book.things) (h2 : h.book.says.length = 5 ∨ 6 < (withAtoms h.atoms [c]).length) : Oc11.step h (.says a l) = (h, Oc11.ok (-7)) := by
  simp only [Oc11.step, e, many_is]; rw [if_neg (by omega)]; exact if_pos h2
theorem st_says3 (I : HInv h) {a : Nat} {l : List Nat} {c : C} (e : Oc.concept l = some c) (h1 : a < h.book.things) (h2 : ¬ h.book.says.length = 5) (h3 : (withAtoms h.atoms [c]).length ≤ 6) :
    Oc11.step h (.says a l) = ({ kWith h [c] with book := h.book.say a c }, Oc11.ok (h.book.says.length : Nat)) := by
  simp only [Oc11.step, e, many_is, with_house I]; rw [if_neg (by omega)]
  exact if_neg (fun z => z.elim h2 fun z => by
    have : 6 < (withAtoms h.atoms [c]).length := z
    omega)
theorem st_unsay1 {i : Nat} (e : h.book.says.length ≤ i) : Oc11.step h (.unsay i) = (h, Oc11.ok (-2)) := by
  simp only [Oc11.step]; exact if_pos e
theorem st_unsay2 {i : Nat} (e : i < h.book.says.length) : Oc11.step h (.unsay i) = ({ h with book := { h.book with says := h.book.says.take i ++ h.book.says.drop (i + 1) } }, Oc11.ok (h.book.says.length - 1 : Nat)) := by
  simp only [Oc11.step]; exact if_neg (by omega)
theorem st_untie1 {i : Nat} (e : h.book.ties.length ≤ i) : Oc11.step h (.untie i) = (h, Oc11.ok (-2)) := by
  simp only [Oc11.step]; exact if_pos e
theorem st_untie2 {i : Nat} (e : i < h.book.ties.length) : Oc11.step h (.untie i) = ({ h with book := { h.book with ties := h.book.ties.take i ++ h.book.ties.drop (i + 1) } }, Oc11.ok (h.book.ties.length - 1 : Nat)) := by
  simp only [Oc11.step]; exact if_neg (by omega)
theorem st_tie0 {r a b : Nat} (e : 2 ≤ r) : Oc11.step h (.tie r a b) = (h, Oc11.ok (-1)) := by
  simp only [Oc11.step]; exact if_pos e
theorem st_tie1 {r a b : Nat} (e : r < 2) (h1 : h.book.things ≤ a ∨ h.book.things ≤ b) : Oc11.step h (.tie r a b) = (h, Oc11.ok (-2)) := by
  simp only [Oc11.step]; rw [if_neg (by show ¬ 2 ≤ r; omega)]; exact if_pos h1
theorem st_tie2 {r a b : Nat} (e : r < 2) (h1 : a < h.book.things) (h2 : b < h.book.things) (h3 : h.book.ties.length = 5) : Oc11.step h (.tie r a b) = (h, Oc11.ok (-7)) := by
  simp only [Oc11.step]; rw [if_neg (by show ¬ 2 ≤ r; omega), if_neg (by omega)]; exact if_pos h3
theorem st_tie3 {r a b : Nat} (e : r < 2) (h1 : a < h.book.things) (h2 : b < h.book.things) (h3 : ¬ h.book.ties.length = 5) : Oc11.step h (.tie r a b) = ({ h with book := { h.book with ties := h.book.ties ++ [(r, a, b)] } }, Oc11.ok (h.book.ties.length : Nat)) := by
  simp only [Oc11.step]; rw [if_neg (by show ¬ 2 ≤ r; omega), if_neg (by omega)]; exact if_neg h3
theorem st_under0 {l : List Nat} (e : Oc.two l = none) : Oc11.step h (.under l) = (h, Oc11.ok (-1)) := by
  simp only [Oc11.step, e]
theorem st_under1 {l : List Nat} {a : Axiom} (e : Oc.two l = some a) (h1 : 6 < (withAtoms h.atoms [a.1, a.2]).length) : Oc11.step h (.under l) = (h, Oc11.ok (-7)) := by
  simp only [Oc11.step, e, many_is]; exact if_pos h1
theorem st_under2 {l : List Nat} {a : Axiom} (e : Oc.two l = some a) (h1 : (withAtoms h.atoms [a.1, a.2]).length ≤ 6) : Oc11.step h (.under l) = (h.with_ [a.1, a.2], Oc11.ok (Oc11.flag ((h.with_ [a.1, a.2]).under a.1 a.2) : Nat)) := by
  simp only [Oc11.step, e, many_is]
  exact if_neg (by show ¬ 6 < _; omega)
theorem st_is0 {a : Nat} {l : List Nat} (e : Oc.concept l = none) : Oc11.step h (.is a l) = (h, Oc11.ok (-1)) := by
  simp only [Oc11.step, e]
theorem st_is1 {a : Nat} {l : List Nat} {c : C} (e : Oc.concept l = some c) (h1 : h.book.things ≤ a) : Oc11.step h (.is a l) = (h, Oc11.ok (-2)) := by
  simp only [Oc11.step, e]; exact if_pos h1
theorem st_is2 {a : Nat} {l : List Nat} {c : C} (e : Oc.concept l = some c) (h1 : a < h.book.things) (h2 : 6 < (withAtoms h.atoms [c]).length) : Oc11.step h (.is a l) = (h, Oc11.ok (-7)) := by
  simp only [Oc11.step, e, many_is]; rw [if_neg (by omega)]; exact if_pos h2
theorem st_is3 {a : Nat} {l : List Nat} {c : C} (e : Oc.concept l = some c) (h1 : a < h.book.things) (h2 : (withAtoms h.atoms [c]).length ≤ 6) (h3 : (h.with_ [c]).whole [] = false) : Oc11.step h (.is a l) = (h, Oc11.ok (-6)) := by
  simp only [Oc11.step, e, many_is]; rw [if_neg (by omega), if_neg (by show ¬ 6 < _; omega)]; exact if_pos h3
theorem st_is4 {a : Nat} {l : List Nat} {c : C} (e : Oc.concept l = some c) (h1 : a < h.book.things) (h2 : (withAtoms h.atoms [c]).length ≤ 6) (h3 : (h.with_ [c]).whole [] = true) : Oc11.step h (.is a l) = (h.with_ [c], Oc11.ok ((h.with_ [c]).is a c : Nat)) := by
  simp only [Oc11.step, e, many_is]; rw [if_neg (by omega), if_neg (by show ¬ 6 < _; omega)]; exact if_neg (by rw [h3]; simp)
end
end KM

/-! ## KcExc -/
namespace PySem
namespace LowX
open PySem.W PySem.Calls PyProof.Rows PySem.HandSPX
/-! ### the text of __init__ -/
def iA (p1 p2 : Pos) : Arguments := { posonlyargs := [], args := [{ arg := "self", annotation := none, pos := p1 }, { arg := "number", annotation := none, pos := p2 }], vararg := none, kwonlyargs := [], kw_defaults := [], kwarg := none, defaults := [] }
def iB (q1 q2 q3 q4 : Pos) : List Stmt := [.Assign [.Attribute (.Name "self" q1) "number" q2] (.Name "number" q3) q4]
def iS : Scope := { kind := .function, names := [(PySem.Str.ofString "self", .local), (PySem.Str.ofString "number", .local)], isGenerator := false, isCoroutine := false, more := [] }
/-- what the written part says of Low, at C, and of its __init__, at fI -/
structure LowTxt (K : Frag) (mg : Str → Option Value) (C fI : Addr) : Prop where
  gC : mg "Refused" = some (.ref C)
  cls : ∃ nm q N bs bm sn sub ab col dd k0 k1 k2 k3 k5, K.lookup C = some (excClassObj nm q C N bs bm true sn sub ab col dd k0 k1 k2 k3 k5 "ValueError.__new__") ∧ refsVE bm = true
  sa : findIn K (.ref C) "__setattr__" = some (some (.builtin "object.__setattr__"))
  ga : findIn K (.ref C) "__getattribute__" = some (some (.builtin "BaseException.__getattribute__"))
  gg : findIn K (.ref C) "__getattr__" = some none
  noN : findIn K (.ref C) "number" = some none
  iC : findIn K (.ref C) "__init__" = some (some (.ref fI))
  tC : typeIn K (.ref fI) = some (.type "function")
  kC : keepIn K (.ref C) = true
  exC : subIn K (.ref C) (.type "BaseException") = some true
  tyC : typeIn K (.ref C) = some (.type "type")
  hdC : hasDictIn K C = true
  te : exmOne K (.ref C) (.ref C) = some true
  fn : ∃ (oc : Value) (od : Option Addr) (doc pm : Value) (an : Option Addr) (cdv ct : Value) (osl : Array (Option Value)) (p1 p2 q1 q2 q3 q4 : Pos),
    K.lookup fI = some ⟨oc, od, .func (fnOf "__init__" "Refused.__init__" (iA p1 p2) (iB q1 q2 q3 q4) iS .none .none doc pm an cdv ct), osl⟩ ∧ codeIn K cdv "Refused.__init__" = true
theorem one_size (v : Value) : [v].length ≤ sizeLine := by
  rw [sizeLine_eq]
  exact (by decide : 1 ≤ 16777216)
theorem kept_but {K : Frag} {h h' : Heap} {x : Addr} (X : K.In h) (hx : K.lookup x = none) (k : ∀ b o, b ≠ x → h.get? b = some o → h'.get? b = some o) : K.In h' := fun a o e =>
  k a o (fun z => by rw [z, hx] at e; cases e) (X a o e)
theorem ldC {M : Model} {s : Shared} {name : Str} {scope : Scope} {L a : Addr} {cd : Value} {m : Str → Option Value} {x : Str} {pos : Pos} {v : Value} {Q : Value → Shared → Prop} {A : Around} {E : Value → Shared → Prop} (hn : s.heap.Ns L m) (hv : m x = some v) (h : Q v s)
    (hk : scope.kind = .function := by rfl) (hl : (envOfC name scope L a cd).kindOf x = some .local := by rfl) (hd : (x == ("__debug__" : Str)) = false := by decide) :
    wpAny M A (eval (.Name x pos) (envOfC name scope L a cd)) Q E s := wpAny_Name (wpAny_loadName_local hk hl hn hv h) hd
/-- what __init__ leaves of a fresh exception at x -/
structure InitEnd (h h' : Heap) (x C dx t1 : Addr) (v : Value) : Prop where
  keep : ∀ b o, b ≠ x → h.get? b = some o → h'.get? b = some o
  obj : h'.get? x = some { cls := .ref C, dict := some dx, data := .fields #[.ref t1, .none, .none, .none, .bool false, .none] }
  dbig : h.objs.size ≤ dx
  dne : dx ≠ x
  ns : h'.Ns1 dx (fun y => if y = "number" then some v else none)
/-- a made Low -/
structure OwnMade (h h' : Heap) (e C d : Addr) (v : Value) : Prop where
  keep : ∀ b o, h.get? b = some o → h'.get? b = some o
  new : h.objs.size ≤ e
  obj : ∃ oe vs, h'.get? e = some oe ∧ oe.cls = .ref C ∧ oe.dict = some d ∧ oe.data = .fields vs ∧ vs[1]? = some .none
  dbig : h.objs.size ≤ d
  dne : d ≠ e
  ns : h'.Ns1 d (fun y => if y = "number" then some v else none)
section
variable {prog : Program} {w : World} {A : Around} {E : Value → Shared → Prop} {R : Result → Shared → Prop} {s : Shared} {K : Frag} {mg : Str → Option Value} {C fI : Addr}
theorem low_init (T : LowTxt K mg C fI) {x t0 : Addr} {v : Value} (X : K.In s.heap) (hlim : s.heap.NoLimit) (hx : s.heap.get? x = some (excO C t0)) (hnx : K.lookup x = none) (hroom : A.depth < recursionLimit)
    (hq : ∀ h' tk dx, InitEnd s.heap h' x C dx t0 v → R (.ok (.ret .none)) { s with heap := h', toks := tk }) :
    codeAny (model prog w) A (.call (.ref fI) ⟨[.ref x, v], []⟩) R s := by
  obtain ⟨oc, od, doc, pm, an, cdv, ct, osl, p1, p2, q1, q2, q3, q4, ho, hcd⟩ := T.fn
  obtain ⟨nm, q, N, bs, bm, sn, sub, ab, col, dd, k0, k1, k2, k3, k5, hC, hbm⟩ := T.cls
  have hcl : clsIn K C = some { name := nm, bases := bs, mro := .ref C :: bm, ns := N, qualname := q, hasDict := true, slotNames := sn, subclasses := sub, abstract := ab, collection := col, hasDel := false } := by unfold clsIn; rw [hC] <;> rfl
  refine Att.call_fn (binds := [("self", .ref x), ("number", v)]) X hlim ho hcd hroom (BindsTo.of_eq (by first | rfl | with_unfolding_all rfl)) (by first | rfl | decide | with_unfolding_all rfl) (fun s₁ IC => ?_) rfl rfl rfl
  obtain ⟨h₁, tk₁, rfl⟩ := IC.toInCall.same
  have k : ∀ b o, s.heap.get? b = some o → h₁.get? b = some o := IC.toInCall.keep
  have hn := IC.toInCall.ns
  have hxL : s.heap.objs.size ≠ x := Nat.ne_of_gt (Heap.lt_size hx)
  have X₁ : K.In h₁ := X.keeps k
  have hx₁ := k _ _ hx
  -- self.by = by
  show wpAny _ _ (execs _ _) _ _ _
  refine wpAny_execs_cons (plainObj_wpAny_Assign_Attribute ?_)
  refine ldC (v := v) hn (by first | rfl | with_unfolding_all rfl | kernel_rfl) (ldC (v := .ref x) hn (by first | rfl | with_unfolding_all rfl | kernel_rfl) ?_)
  refine set_plain X₁ (ox := excO C t0) (od := none) ⟨hx₁, rfl, rfl, trivial⟩ T.sa ?_
  refine exc_osa X₁ hx₁ hcl (show refsVE (.ref C :: bm) = true from hbm) rfl T.noN (fun h₃ tk₃ dx k₃ dn dne hx₃ hn₃ => ?_)
  show wpAny _ _ (execs _ _) _ _ _
  have z : s.heap.objs.size < h₁.objs.size := hn.lt
  exact wpAny_execs_nil (hq h₃ tk₃ dx ⟨fun b o hb e => k₃ b o hb (k b o e), hx₃, Nat.le_of_lt (Nat.lt_of_lt_of_le z dn), dne, hn₃⟩)
theorem low_made (T : LowTxt K mg C fI) {v : Value} (X : K.In s.heap) (hlim : s.heap.NoLimit) (hroom : A.depth + 1 < recursionLimit)
    (hq : ∀ h' tk e d, OwnMade s.heap h' e C d v → R (.ok (.ret (.ref e))) { s with heap := h', toks := tk }) :
    codeAny (model prog w) A (.call (.ref C) ⟨[v], []⟩) R s := by
  obtain ⟨nm, q, N, bs, bm, sn, sub, ab, col, dd, k0, k1, k2, k3, k5, hC, hbm⟩ := T.cls
  obtain ⟨hp, g, dr, tk, os⟩ := s
  have k : ∀ b o, hp.get? b = some o → ((hp.push (kdv_tup [v])).push (excO C hp.objs.size)).get? b = some o := fun b o e => Heap.get?_push_of_some _ (Heap.get?_push_of_some _ e)
  have hget : ((hp.push (kdv_tup [v])).push (excO C hp.objs.size)).get? (hp.objs.size + 1) = some (excO C hp.objs.size) := by heap_get
  have hnx : K.lookup (hp.objs.size + 1) = none := by
    cases e : K.lookup (hp.objs.size + 1) with
    | none => rfl
    | some o =>
      have z : hp.get? (hp.objs.size + 1) = some o := X _ _ e
      exact absurd (Nat.lt_of_succ_lt (Heap.lt_size z)) (Nat.lt_irrefl _)
  refine call_own F.excBase_ValueError (fun X => refsVE_contains X bm hbm) (X _ _ hC) (looks_findIn X T.iC) (fun self => bind_fn X self T.tC) (one_size v) ?_
  refine low_init (s := ⟨(hp.push (kdv_tup [v])).push (excO C hp.objs.size), g, dr, tk, os⟩) T (X.keeps k) (hlim.keeps k) hget hnx ?_ fun h' tk' dx ⟨k', hx, dn, dne, hns⟩ => ?_
  · show A.depth + 1 < recursionLimit
    exact hroom
  · have old : ∀ b o, hp.get? b = some o → h'.get? b = some o := fun b o e => k' b o (Nat.ne_of_lt (Nat.lt_succ_of_lt (Heap.lt_size e))) (k b o e)
    have z : hp.objs.size + 1 + 1 ≤ dx := by
      first
        | (simpa only [Heap.size_push] using dn)
        | exact dn
        | (have q := dn; rw [Heap.size_push, Heap.size_push] at q; exact q)
    exact ⟨rfl, hq h' tk' (hp.objs.size + 1) dx ⟨old, Nat.le_succ _, ⟨_, _, hx, rfl, rfl, rfl, rfl⟩, Nat.le_trans (Nat.le_trans (Nat.le_succ _) (Nat.le_succ _)) z, dne, hns⟩⟩
end
end LowX
end PySem
namespace L2
open PySem PySem.Spec PyProof.Rows
theorem relO_low {v : V} {v' : Value} (r : RelV v v') (f : Str) : RelO (List.lookup f [(("number" : Str), v)]) (if f = "number" then some v' else none) := by
  by_cases hw : f = "number"
  · subst hw
    rw [if_pos rfl]
    have q : List.lookup ("number" : Str) [(("number" : Str), v)] = some v := by simp [List.lookup]
    rw [q]
    exact r
  · rw [if_neg hw]
    have qw : (f == ("number" : Str)) = false := by simpa using hw
    have q2 : List.lookup f [(("number" : Str), v)] = none := by simp [List.lookup, qw]
    rw [q2]
    trivial
section
variable {X : Cx} {C fI : Addr}
/-- Low(e) -/
def tMkLow (C : Addr) (ta : TA) : St → Hp → XK → Prop := fun σ H Q => ta σ H fun vs H1 => ∃ v, vs = [v] ∧ ∀ d, H1 d = none → Q (.ref C) (some d) (upd H1 d (.xd [(("number" : Str), v)]))
theorem pmk_low {a : Expr} {ta : TA} {p pos : Pos} {k : Nat} (T : PySem.LowX.LowTxt X.K X.mg C fI) (hr : Room k X.A) (ha : PA X [a] ta) (hg : Gl X "Refused" := by rfl)
    (he : starEach (a :: []) X.env = (false, eval a X.env) :: starEach [] X.env := by rfl) (hpl : (backTo pos (starEach [] X.env)).any (·.1) = false := by rfl) :
    PMk X (.Call (.Name "Refused" p) [a] [] pos) (tMkLow C ta) := by
  intro pins s σ H Q I h
  refine wpAny_Call_Name_kw (ld_glob I hg T.gC ?_)
  refine PySem.W.callWith_K (h₀ := X.base) I.ok.mod.kin T.kC (thn (ha.run pos pins s σ H _ I h) fun us s1 hh => ?_) he hpl
  obtain ⟨vs, H1, I1, r1, v, ev, q1⟩ := hh
  subst ev
  refine ⟨I1.kIn, ?_⟩
  cases r1 with
  | cons rv rn =>
    rename_i v' us'
    cases rn
    show wpAny _ _ (call (.ref C) [v']) _ _ _
    have hlim := I1.nolimit
    obtain ⟨hp, g, dr, tk, os⟩ := s1
    refine wpAny_call (PySem.LowX.low_made T I1.kIn hlim (by have := hr.dp; omega) fun h' tk' e d M => ?_)
    show MkP X pins σ Q (.ref e) ⟨h', g, dr, tk', os⟩
    obtain ⟨oe, fv, hoe, hc, hd, hdat, h1⟩ := M.obj
    have hns := M.ns
    obtain ⟨G', g1, g2⟩ := restrict h' fun b => decide (b ≠ e)
    have gk : ∀ b, b ≠ e → G'.get? b = h'.get? b := fun b hb => g1 b (decide_eq_true hb)
    have ge : G'.get? e = none := g2 e (by simp)
    have old : ∀ b o, hp.get? b = some o → G'.get? b = some o := fun b o q => (gk b (Nat.ne_of_lt (Nat.lt_of_lt_of_le (Heap.lt_size q) M.new))).trans (M.keep b o q)
    have ob : ObjOk X.prog X.w (upd H1 d (.xd [(("number" : Str), v)])) G' d (.xd [(("number" : Str), v)]) :=
      ⟨_, hns.at (fun o q => (gk d M.dne).trans q), fun f => relO_low rv f⟩
    have J : Inv X pins σ (upd H1 d (.xd [(("number" : Str), v)])) ⟨G', g, dr, tk', os⟩ := I1.laid (t' := tk') old M.dbig ob
    refine ⟨e, oe, fv, ⟨G', g, dr, tk', os⟩, _, .ref C, some d, rfl, J, fun b o q => ?_, ge, hoe, ⟨hc, hd⟩, hdat, h1, ?_, rfl, I1.bare, raises_own T.exC T.tyC, q1 d (I1.hok.fresh M.dbig)⟩
    · by_cases hb : b = e
      · have q' : G'.get? b = some o := q
        rw [hb, ge] at q'; cases q'
      · exact (gk b hb).symm.trans q
    · rw [upd_ne (Ne.symm M.dne)]
      exact I1.hok.fresh M.new
/-- raise Low(e) -/
def tRaiseLow (C : Addr) (W : WX) (ta : TA) : TS := fun _ σ H => tMkLow C ta σ H fun cls d H' => W cls d σ H'
theorem ps_raiseLow {a : Expr} {ta : TA} {W : WX} {p pos pos2 : Pos} {k : Nat} (hc : X.calm = true) (T : PySem.LowX.LowTxt X.K X.mg C fI) (hr : Room k X.A) (tk : Takes X W) (ha : PA X [a] ta) (hg : Gl X "Refused" := by rfl)
    (he : starEach (a :: []) X.env = (false, eval a X.env) :: starEach [] X.env := by rfl) (hpl : (backTo pos (starEach [] X.env)).any (·.1) = false := by rfl) :
    PS X (.Raise (some (.Call (.Name "Refused" p) [a] [] pos)) none pos2) (tRaiseLow C W ta) := ps_raise hc tk (pmk_low T hr ha hg he hpl)
/-- low.by, low the exception that the suite holds (at a; its class cls, its dict d) -/
def tByLow (C : Addr) (a : Addr) (cls : Value) (d : Option Addr) (te : TE) : TE := fun σ H Q => te σ H fun x H1 => x = .ref a ∧ cls = .ref C ∧ ∃ (dd : Addr) (v : V), d = some dd ∧ H1 dd = some (.xd [(("number" : Str), v)]) ∧ Q v H1
theorem pe_byLow {a : Addr} {oe : Obj} {cls : Value} {d : Option Addr} {pn : List (Addr × Obj)} {e : Expr} {te : TE} {pos : Pos} (T : PySem.LowX.LowTxt X.K X.mg C fI) (hz : Zc cls d oe) (hf : ∃ vs, oe.data = .fields vs) (he : PE (X.suite a ((a, oe) :: pn)) e te)
    (hb : attributeBase e "number" X.env (eval e X.env) = eval e X.env := by rfl) :
    PE (X.suite a ((a, oe) :: pn)) (.Attribute e "number" pos) (tByLow C a cls d te) := by
  refine ⟨fun pins s σ H Q I h => ?_⟩
  refine attr_of hb (thn (he.run pins s σ H _ I h) fun u s1 hh => ?_)
  obtain ⟨x, H1, I1, rx, ex, ec, dd, v, ed, ea, q⟩ := hh
  subst ex
  obtain rfl : u = Value.ref a := rx
  subst ec
  subst ed
  obtain ⟨ha, _⟩ := I1.pin (a, oe) (List.mem_append_left _ List.mem_cons_self)
  obtain ⟨vs, hd⟩ := hf
  have hx : ObjOk X.prog X.w H1 s1.heap dd (.xd [(("number" : Str), v)]) := I1.hok dd _ ea
  obtain ⟨mA, hns, hr⟩ := hx
  obtain ⟨od, ho, hl⟩ := lookIn_ns hns
  have l : List.lookup ("number" : Str) [(("number" : Str), v)] = some v := by simp [List.lookup]
  obtain ⟨u, hu, ru⟩ := RelO.some_of (v := v) (o := mA "number") (by rw [← l]; exact hr "number")
  have J : PySem.W.InstAt s1.heap a oe C (some od) := ⟨ha, hz.1, by unfold PySem.W.notCls; rw [hd] <;> rfl, by rw [hz.2]; exact ho⟩
  exact HandSPX.exc_get I1.kIn J T.ga T.gg T.exC (PySem.W.findObj_own T.hdC T.noN rfl (by rw [hl, hu])) (handed_of ru) ⟨v, H1, I1.tok _, ru, q⟩
end
end L2

namespace L2
open PySem PySem.Spec PyProof.Rows
/-- an if whose test is known -/
theorem if_true_of {c : Bool} {A B : Prop} (hc : c = true) (h : A) : if c = true then A else B := by
  rw [if_pos hc]
  exact h
theorem if_false_of {c : Bool} {A B : Prop} (hc : c = false) (h : B) : if c = true then A else B := by
  rw [hc, if_neg Bool.false_ne_true]
  exact h
end L2

/-! ## KcBase -/
/-! ### the layer's own words, for this program -/
namespace KC
open PySem PySem.Spec PyProof.Rows L2
open Oc (C)

/-! #### defs by their names -/
/-- the def of the name x keeps the promise sp -/
structure DefOk (P : Program) (w : World) (K : PySem.W.Frag) (mg : Str → Option Value) (base : Heap) (CX : CXT) (k : Nat) (x : Str) (sp : Sp) : Prop where
  ex : ∃ (f : Addr) (fd : FuncData) (ps : List Str), mg x = some (.ref f) ∧ PySem.W.keepIn K (.ref f) = true ∧ Binds K fd ps [] ∧ FnOk P w K mg base CX k f fd ps sp
/-- the def stands in the text -/
structure Glob (K : PySem.W.Frag) (mg : Str → Option Value) (x : Str) (st : Stmt) : Prop where
  ex : ∃ (f : Addr) (fd : FuncData), mg x = some (.ref f) ∧ Fun K x x st f fd
theorem mkDef {P : Program} {w : World} {K : PySem.W.Frag} {mg : Str → Option Value} {base : Heap} {CX : CXT} {k : Nat} {x : Str} {st : Stmt} {ps : List Str} {sp : Sp} (G : Glob K mg x st)
    (hb : ∀ (kV doc pm : Value) (an : Option Addr) (cdv ct : Value) (us : List Value), us.length = ps.length → bindArgs (PySem.W.fnOf x x (defArgs st) (defBody st) (defScope st) .none kV doc pm an cdv ct) ⟨us, []⟩ = pure (ps.zip us))
    (h : ∀ f fd, Fun K x x st f fd → FnOk P w K mg base CX k f fd ps sp) : DefOk P w K mg base CX k x sp := by
  obtain ⟨f, fd, hm, F⟩ := G.ex
  exact ⟨f, fd, ps, hm, F.kp, F.binds hb, h f fd F⟩
theorem DefOk.mono {P : Program} {w : World} {K : PySem.W.Frag} {mg : Str → Option Value} {base : Heap} {CX : CXT} {j k : Nat} {x : Str} {sp : Sp} (D : DefOk P w K mg base CX j x sp) (h : j ≤ k) : DefOk P w K mg base CX k x sp := by
  obtain ⟨f, fd, ps, a, b, c, d⟩ := D.ex
  exact ⟨f, fd, ps, a, b, c, d.mono h⟩
theorem DefOk.imp {P : Program} {w : World} {K : PySem.W.Frag} {mg : Str → Option Value} {base : Heap} {CX : CXT} {k : Nat} {x : Str} {sp sp' : Sp} (D : DefOk P w K mg base CX k x sp) (h : ∀ vs H Q E, sp' vs H Q E → sp vs H Q E) : DefOk P w K mg base CX k x sp' := by
  obtain ⟨f, fd, ps, a, b, c, d⟩ := D.ex
  exact ⟨f, fd, ps, a, b, c, d.imp h⟩
/-- f(..), nothing raised -/
def tCl (sp : Sp) (t : TA) : TE := fun σ H Q => t σ H fun vs H1 => sp vs H1 Q E0
/-- f(..), what is raised is wished by W -/
def tCx (sp : Sp) (W : WX) (t : TA) : TE := fun σ H Q => t σ H fun vs H1 => sp vs H1 Q (fun cls d H2 => W cls d σ H2)
section
variable {X : Cx} {k : Nat} {x : Str} {sp : Sp} {p pos : Pos} {e : Expr} {es : List Expr} {t : TA} {W : WX}
theorem pe_cl (D : DefOk X.prog X.w X.K X.mg X.base CX0 k x sp) (hr : Room k X.A) (ha : PA X (e :: es) t) (hg : Gl X x := by rfl) (hdb : (x == ("__debug__" : Str)) = false := by decide)
    (he : starEach (e :: es) X.env = (false, eval e X.env) :: starEach es X.env := by rfl) (hpl : (backTo pos (starEach es X.env)).any (·.1) = false := by rfl) : PE X (.Call (.Name x p) (e :: es) [] pos) (tCl sp t) := by
  obtain ⟨f, fd, ps, hm, hk, hb, F⟩ := D.ex
  have h := pe_callS (E := fun _ => E0) F hr hg hm hk hb (fun σ => fun pins H s e s' I c => (pass0 (X := X)) pins σ H s e s' I c) ha (p := p) (pos := pos) hdb he hpl
  exact h
theorem pe_cx (D : DefOk X.prog X.w X.K X.mg X.base (L2.CX X.prog X.w) k x sp) (tk : Takes X W) (hr : Room k X.A) (ha : PA X (e :: es) t) (hg : Gl X x := by rfl) (hdb : (x == ("__debug__" : Str)) = false := by decide)
    (he : starEach (e :: es) X.env = (false, eval e X.env) :: starEach es X.env := by rfl) (hpl : (backTo pos (starEach es X.env)).any (·.1) = false := by rfl) : PE X (.Call (.Name x p) (e :: es) [] pos) (tCx sp W t) := by
  obtain ⟨f, fd, ps, hm, hk, hb, F⟩ := D.ex
  have h := pe_callS (E := WE W) F hr hg hm hk hb (fun σ => passAt tk σ) ha (p := p) (pos := pos) hdb he hpl
  exact h
/-- a module's whole number -/
theorem pe_gint {i : Int} (hg : Gl X x) (h : ∃ t, X.mg x = some (.int i t)) (hd : (x == ("__debug__" : Str)) = false := by decide) : PE X (.Name x pos) (tC (.int i)) := by
  obtain ⟨t, h⟩ := h
  exact pe_glob hg h ⟨t, rfl⟩ hd
/-- a module's object -/
theorem pe_gref {a : Addr} (hg : Gl X x) (h : X.mg x = some (.ref a)) (hd : (x == ("__debug__" : Str)) = false := by decide) : PE X (.Name x pos) (tC (.ref a)) := pe_glob hg h rfl hd
end
theorem hu65 {k : Nat} {A : Around} (hr : Room k A) : A.units + 65 < cLine := by have := hr.un; omega
theorem boot_len_ : bootBuiltins "len" = some (.builtin "len") := by decide +kernel
theorem boot_all_ : bootBuiltins "all" = some (.builtin "all") := by decide +kernel
theorem boot_any_ : bootBuiltins "any" = some (.builtin "any") := by decide +kernel
theorem boot_int_ : bootBuiltins "int" = some (.type "int") := by decide +kernel
theorem boot_list_ : bootBuiltins "list" = some (.type "list") := by decide +kernel

/-! #### readings, one step each -/
section
variable {σ : L2.St} {H : Hp} {Q : VK} {v : V}
theorem r_var {i : Nat} (h : σ[i]? = some (some v)) (q : Q v H) : tVar i σ H Q := ⟨v, h, q⟩
theorem r_c (q : Q v H) : tC v σ H Q := q
theorem r_op {r : R2} {ta tb : TE} (q : ta σ H fun x H1 => tb σ H1 fun y H2 => r x y H2 Q) : tOp r ta tb σ H Q := q
theorem r_I0 {g : Int → Int → V} {i j : Int} (q : Q (g i j) H) : rI0 g (.int i) (.int j) H Q := ⟨i, j, rfl, rfl, q⟩
theorem r_eqI {i j : Int} (q : Q (.bl (decide (i = j))) H) : rEq (.int i) (.int j) H Q := ⟨rfl, by
  have e : decide (V.int i = V.int j) = decide (i = j) := by
    by_cases h : i = j
    · subst h; simp
    · rw [decide_eq_false h, decide_eq_false (fun z => h (V.int.inj z))]
  rw [e]; exact q⟩
theorem r_eqB {i j : Bool} (q : Q (.bl (i == j)) H) : rEq (.bl i) (.bl j) H Q := ⟨rfl, by rw [dec_bl]; exact q⟩
theorem r_neI {i j : Int} (q : Q (.bl (!decide (i = j))) H) : rNe (.int i) (.int j) H Q := ⟨rfl, by
  have e : decide (V.int i = V.int j) = decide (i = j) := by
    by_cases h : i = j
    · subst h; simp
    · rw [decide_eq_false h, decide_eq_false (fun z => h (V.int.inj z))]
  rw [e]; exact q⟩
theorem r_nil {Q : List V → Hp → Prop} (q : Q [] H) : tNil σ H Q := q
theorem r_cons {ta : TE} {tr : TA} {Q : List V → Hp → Prop} (q : ta σ H fun x H1 => tr σ H1 fun xs H2 => Q (x :: xs) H2) : tCons ta tr σ H Q := q
theorem r_cl {sp : Sp} {t : TA} (q : t σ H fun vs H1 => sp vs H1 Q E0) : tCl sp t σ H Q := q
theorem r_cx {sp : Sp} {t : TA} {W : WX} (q : t σ H fun vs H1 => sp vs H1 Q (fun cls d H2 => W cls d σ H2)) : tCx sp W t σ H Q := q
theorem r_cb {r : List V → Hp → VK → Prop} {t : TA} (q : t σ H fun vs H1 => r vs H1 Q) : tCB r t σ H Q := q
theorem r_notV {ta : TE} (q : ta σ H fun x H1 => ∃ c, x = .bl c ∧ Q (.bl (!c)) H1) : tNotV ta σ H Q := q
theorem r_andV {ta tb : TE} (q : ta σ H fun x H1 => ∃ c, x = .bl c ∧ if c = true then tb σ H1 Q else Q (.bl false) H1) : tAndV ta tb σ H Q := q
theorem r_orV {ta tb : TE} (q : ta σ H fun x H1 => ∃ c, x = .bl c ∧ if c = true then Q (.bl true) H1 else tb σ H1 Q) : tOrV ta tb σ H Q := q
theorem r_tup {t : TA} (q : t σ H fun xs H1 => xs.length ≤ sizeLine ∧ ∀ p, H1 p = none → Q (.ref p) (upd H1 p (.tup xs))) : tTup t σ H Q := q
theorem r_lst {t : TA} (q : t σ H fun xs H1 => xs.length ≤ sizeLine ∧ ∀ p, H1 p = none → Q (.ref p) (upd H1 p (.lst xs))) : tLst t σ H Q := q
theorem r_ifE {t : TT} {ta tb : TE} (q : t σ H fun c H1 => if c = true then ta σ H1 Q else tb σ H1 Q) : tIf t ta tb σ H Q := q
theorem r_bl {b : Bool} {P : Bool → Prop} (q : P b) : ∃ c, V.bl b = .bl c ∧ P c := ⟨b, rfl, q⟩
variable {QB : Bool → Hp → Prop}
theorem r_test {t : TE} (q : t σ H fun x H' => ∃ k, x = .bl k ∧ QB k H') : tTest t σ H QB := q
theorem r_B {t : TE} (q : t σ H fun x H1 => ∃ c, x = .bl c ∧ QB c H1) : tB t σ H QB := q
theorem r_and {t u : TT} (q : t σ H fun c H1 => if c = true then u σ H1 QB else QB false H1) : tAnd t u σ H QB := q
theorem r_or {t u : TT} (q : t σ H fun c H1 => if c = true then QB true H1 else u σ H1 QB) : tOr t u σ H QB := q
theorem r_not {t : TT} (q : t σ H fun c H1 => QB (!c) H1) : tNot t σ H QB := q
variable {D : Ends} {t u : TS} {te : TE} {g : TG}
theorem r_seq (q : t { D with nx := u D } σ H) : tSeq t u D σ H := q
theorem r_next (q : D.nx σ H) : tNext D σ H := q
theorem r_ret (q : te σ H D.rt) : tRet te D σ H := q
theorem r_drop (q : te σ H fun _ H1 => D.nx σ H1) : tDrop te D σ H := q
theorem r_asg (q : te σ H fun x H1 => g x σ H1 D.nx) : tAsg te g D σ H := q
theorem r_ifS {c : TT} (q : c σ H fun b H1 => if b = true then t D σ H1 else u D σ H1) : tIfS c t u D σ H := q
theorem r_gName {i : Nat} {Q : L2.St → Hp → Prop} (q : Q (σ.set i (some v)) H) : gName i v σ H Q := q
theorem r_gTup {K : PySem.W.Frag} {n : Nat} {t : TGs} {a : Addr} {xs : List V} {Q : L2.St → Hp → Prop} (h : H a = some (.tup xs)) (hn : xs.length = n) (q : t xs σ H Q) : gTup K n t (.ref a) σ H Q := ⟨a, xs, rfl, .of h, hn, q⟩
theorem r_gUnl {K : PySem.W.Frag} {n : Nat} {t : TGs} {a : Addr} {xs : List V} {Q : L2.St → Hp → Prop} (h : H a = some (.lst xs)) (hn : xs.length = n) (q : t xs σ H Q) : gUnl K n t (.ref a) σ H Q := ⟨a, xs, rfl, .of h, hn, q⟩
theorem r_gCons {t : TG} {u : TGs} {r : List V} {Q : L2.St → Hp → Prop} (q : t v σ H fun σ' H' => u r σ' H' Q) : gCons t u (v :: r) σ H Q := ⟨v, r, rfl, q⟩
theorem r_gNil {Q : L2.St → Hp → Prop} (q : Q σ H) : gNil [] σ H Q := ⟨rfl, q⟩
end
theorem line_of {n : Nat} (h : n ≤ 1000000) : n ≤ sizeLine := by rw [sizeLine_eq]; omega
theorem line_lt {n : Nat} (h : n ≤ 1000000) : n < sizeLine := by rw [sizeLine_eq]; omega
theorem if_t {c : Bool} {A B : Prop} (hc : c = true) (h : A) : if c = true then A else B := by
  rw [if_pos hc]
  exact h
theorem if_f {c : Bool} {A B : Prop} (hc : c = false) (h : B) : if c = true then A else B := by
  rw [hc, if_neg Bool.false_ne_true]
  exact h
/-- the test is known to be c' -/
theorem if_by {c c' : Bool} {A B : Prop} (hc : c = c') (h1 : c' = true → A) (h2 : c' = false → B) : if c = true then A else B := by
  subst hc
  cases c with
  | true => exact if_t rfl (h1 rfl)
  | false => exact if_f rfl (h2 rfl)
end KC

/-! ## KcRep -/
/-! ### how the data lie in the heap -/
namespace KC
open PySem PySem.Spec PyProof.Rows L2
open Oc (C Axiom)
open Oc11 (House)

/-! #### heaps -/
/-- tuples stay as they are -/
def Tups (H H' : Hp) : Prop := ∀ b xs, H b = some (.tup xs) → H' b = some (.tup xs)
theorem Tups.refl (H : Hp) : Tups H H := fun _ _ h => h
theorem Tups.trans {H H1 H2 : Hp} (a : Tups H H1) (b : Tups H1 H2) : Tups H H2 := fun c xs h => b c xs (a c xs h)
theorem _root_.L2.Same.tups {H H' : Hp} (s : Same H H') : Tups H H' := fun b xs h => s b _ h
theorem _root_.L2.Same.upd {H : Hp} {p : Addr} {o : HO} (n : H p = none) : Same H (L2.upd H p o) := fun b u h => by
  rw [upd_ne (ne_of_none h n)]; exact h
/-- a thing that was not there at the beginning is written -/
theorem _root_.L2.Same.put {H0 H : Hp} {p : Addr} {o : HO} (s : Same H0 H) (n : H0 p = none) : Same H0 (L2.upd H p o) := fun b u h => by
  rw [upd_ne (ne_of_none h n)]; exact s b u h
theorem Tups.lst {H : Hp} {p : Addr} {xs : List V} {o : HO} (e : H p = some (.lst xs)) : Tups H (upd H p o) := fun b ys h => by
  rw [upd_ne (fun z => by rw [z, e] at h; cases h)]; exact h
theorem Tups.ins {H : Hp} {p C dx : Addr} {fs : List (Str × V)} {o : HO} (e : H p = some (.ins C dx fs)) : Tups H (upd H p o) := fun b ys h => by
  rw [upd_ne (fun z => by rw [z, e] at h; cases h)]; exact h
theorem Tups.new {H : Hp} {p : Addr} {o : HO} (n : H p = none) : Tups H (upd H p o) := Same.tups (Same.upd n)
/-- all but the object at a -/
def But (a : Addr) (H H' : Hp) : Prop := ∀ b o, b ≠ a → H b = some o → H' b = some o
theorem But.refl (a : Addr) (H : Hp) : But a H H := fun _ _ _ h => h
theorem But.trans {a : Addr} {H H1 H2 : Hp} (x : But a H H1) (y : But a H1 H2) : But a H H2 := fun b o n h => y b o n (x b o n h)
theorem But.of {a : Addr} {H H' : Hp} (s : Same H H') : But a H H' := fun b o _ h => s b o h
theorem But.upd {a : Addr} {H : Hp} {o : HO} : But a H (L2.upd H a o) := fun b u n h => by rw [upd_ne n]; exact h
theorem But.put {a p : Addr} {H0 H : Hp} {o : HO} (s : But a H0 H) (n : H0 p = none) : But a H0 (L2.upd H p o) := fun b u nb h => by
  rw [upd_ne (ne_of_none h n)]; exact s b u nb h
theorem But.at {a p : Addr} {H H' : Hp} {o u : HO} (s : But a H H') (ha : H a = some u) (hp : H p = some o) (d : o ≠ u) : H' p = some o := s p o (ne_of hp ha d) hp
theorem But.tups {a C dx : Addr} {fs : List (Str × V)} {H H' : Hp} (s : But a H H') (ha : H a = some (.ins C dx fs)) : Tups H H' := fun b xs h => s.at ha h (by intro z; cases z)

/-! #### lists of things against lists of values -/
def Al {α : Type} (R : α → V → Prop) : List α → List V → Prop
  | [], [] => True
  | x :: xs, v :: vs => R x v ∧ Al R xs vs
  | _, _ => False
section
variable {α : Type} {R R' : α → V → Prop}
theorem Al.length : ∀ {xs : List α} {vs : List V}, Al R xs vs → xs.length = vs.length
  | [], [], _ => rfl
  | x :: xs, v :: vs, h => by simp [Al.length h.2]
  | [], v :: vs, h => h.elim
  | x :: xs, [], h => h.elim
theorem Al.mono (f : ∀ x v, R x v → R' x v) : ∀ {xs : List α} {vs : List V}, Al R xs vs → Al R' xs vs
  | [], [], _ => trivial
  | x :: xs, v :: vs, h => ⟨f _ _ h.1, Al.mono f h.2⟩
  | [], v :: vs, h => h.elim
  | x :: xs, [], h => h.elim
theorem Al.app : ∀ {xs ys : List α} {vs ws : List V}, Al R xs vs → Al R ys ws → Al R (xs ++ ys) (vs ++ ws)
  | [], _, [], _, _, k => k
  | x :: xs, _, v :: vs, _, h, k => ⟨h.1, Al.app h.2 k⟩
  | [], _, v :: vs, _, h, _ => h.elim
  | x :: xs, _, [], _, h, _ => h.elim
theorem Al.one {x : α} {v : V} (h : R x v) : Al R [x] [v] := ⟨h, trivial⟩
theorem Al.get : ∀ {xs : List α} {vs : List V} {i : Nat} {v : V}, Al R xs vs → vs[i]? = some v → ∃ x, xs[i]? = some x ∧ R x v
  | [], [], _, _, _, e => by simp at e
  | x :: xs, w :: vs, 0, v, h, e => by
    have : w = v := by simpa using e
    subst this
    exact ⟨x, rfl, h.1⟩
  | x :: xs, w :: vs, i + 1, v, h, e => by
    obtain ⟨y, a, b⟩ := Al.get (i := i) h.2 (by simpa using e)
    exact ⟨y, by simpa using a, b⟩
  | [], v :: vs, _, _, h, _ => h.elim
  | x :: xs, [], _, _, h, _ => h.elim
theorem Al.at : ∀ {xs : List α} {vs : List V} {i : Nat} {x : α}, Al R xs vs → xs[i]? = some x → ∃ v, vs[i]? = some v ∧ R x v
  | [], [], _, _, _, e => by simp at e
  | y :: xs, w :: vs, 0, x, h, e => by
    have : y = x := by simpa using e
    subst this
    exact ⟨w, rfl, h.1⟩
  | y :: xs, w :: vs, i + 1, x, h, e => by
    obtain ⟨v, a, b⟩ := Al.at (i := i) h.2 (by simpa using e)
    exact ⟨v, by simpa using a, b⟩
  | [], v :: vs, _, _, h, _ => h.elim
  | x :: xs, [], _, _, h, _ => h.elim
theorem Al.take : ∀ {xs : List α} {vs : List V} (n : Nat), Al R xs vs → Al R (xs.take n) (vs.take n)
  | _, _, 0, _ => by simp [Al]
  | [], [], _ + 1, h => by simp [Al]
  | x :: xs, v :: vs, n + 1, h => ⟨h.1, Al.take n h.2⟩
  | [], v :: vs, _, h => h.elim
  | x :: xs, [], _, h => h.elim
theorem Al.drop : ∀ {xs : List α} {vs : List V} (n : Nat), Al R xs vs → Al R (xs.drop n) (vs.drop n)
  | _, _, 0, h => by simpa using h
  | [], [], _ + 1, h => by simp [Al]
  | x :: xs, v :: vs, n + 1, h => Al.drop n h.2
  | [], v :: vs, _, h => h.elim
  | x :: xs, [], _, h => h.elim
theorem Al.map {f : α → V} : ∀ {xs : List α}, (∀ x ∈ xs, R x (f x)) → Al R xs (xs.map f)
  | [], _ => trivial
  | x :: xs, h => ⟨h x (by simp), Al.map fun y hy => h y (by simp [hy])⟩
theorem Al.eqv {f : α → V} : ∀ {xs : List α} {vs : List V}, Al (fun x v => v = f x) xs vs → vs = xs.map f
  | [], [], _ => rfl
  | x :: xs, v :: vs, h => by rw [List.map_cons, ← h.1, Al.eqv h.2]
  | [], v :: vs, h => h.elim
  | x :: xs, [], h => h.elim
end
/-- at p: a list of the things xs -/
def LAt {α : Type} (R : Hp → α → V → Prop) (H : Hp) (p : Addr) (xs : List α) : Prop := ∃ vs, H p = some (.lst vs) ∧ Al (R H) xs vs
theorem LAt.mono {α : Type} {R : Hp → α → V → Prop} {H H' : Hp} {p : Addr} {xs : List α} (h : LAt R H p xs) (k : ∀ vs, H p = some (.lst vs) → H' p = some (.lst vs)) (f : ∀ x v, R H x v → R H' x v) : LAt R H' p xs := by
  obtain ⟨vs, e, a⟩ := h
  exact ⟨vs, k vs e, a.mono f⟩

/-! #### concepts -/
def word : C → Nat
  | .top => 0
  | .bot => 1
  | .name _ => 2
  | .and _ _ => 3
  | .or _ _ => 4
  | .not _ => 5
  | .some _ _ => 6
  | .all _ _ => 7
def ConAt (H : Hp) : C → V → Prop
  | .top, v => ∃ a, v = .ref a ∧ H a = some (.tup [.int 0])
  | .bot, v => ∃ a, v = .ref a ∧ H a = some (.tup [.int 1])
  | .name n, v => ∃ a, v = .ref a ∧ H a = some (.tup [.int 2, .int n])
  | .and c d, v => ∃ a x y, v = .ref a ∧ H a = some (.tup [.int 3, x, y]) ∧ ConAt H c x ∧ ConAt H d y
  | .or c d, v => ∃ a x y, v = .ref a ∧ H a = some (.tup [.int 4, x, y]) ∧ ConAt H c x ∧ ConAt H d y
  | .not c, v => ∃ a x, v = .ref a ∧ H a = some (.tup [.int 5, x]) ∧ ConAt H c x
  | .some r c, v => ∃ a x, v = .ref a ∧ H a = some (.tup [.int 6, .int r, x]) ∧ ConAt H c x
  | .all r c, v => ∃ a x, v = .ref a ∧ H a = some (.tup [.int 7, .int r, x]) ∧ ConAt H c x
theorem ConAt.mono {H H' : Hp} (t : Tups H H') : ∀ {c : C} {v : V}, ConAt H c v → ConAt H' c v
  | .top, v, ⟨a, e, h⟩ => ⟨a, e, t _ _ h⟩
  | .bot, v, ⟨a, e, h⟩ => ⟨a, e, t _ _ h⟩
  | .name n, v, ⟨a, e, h⟩ => ⟨a, e, t _ _ h⟩
  | .and c d, v, ⟨a, x, y, e, h, h1, h2⟩ => ⟨a, x, y, e, t _ _ h, ConAt.mono t h1, ConAt.mono t h2⟩
  | .or c d, v, ⟨a, x, y, e, h, h1, h2⟩ => ⟨a, x, y, e, t _ _ h, ConAt.mono t h1, ConAt.mono t h2⟩
  | .not c, v, ⟨a, x, e, h, h1⟩ => ⟨a, x, e, t _ _ h, ConAt.mono t h1⟩
  | .some r c, v, ⟨a, x, e, h, h1⟩ => ⟨a, x, e, t _ _ h, ConAt.mono t h1⟩
  | .all r c, v, ⟨a, x, e, h, h1⟩ => ⟨a, x, e, t _ _ h, ConAt.mono t h1⟩
theorem ConAt.head {H : Hp} : ∀ {c : C} {v : V}, ConAt H c v → ∃ a xs, v = .ref a ∧ H a = some (.tup (.int (word c) :: xs))
  | .top, v, ⟨a, e, h⟩ => ⟨a, _, e, h⟩
  | .bot, v, ⟨a, e, h⟩ => ⟨a, _, e, h⟩
  | .name n, v, ⟨a, e, h⟩ => ⟨a, _, e, h⟩
  | .and c d, v, ⟨a, x, y, e, h, h1, h2⟩ => ⟨a, _, e, h⟩
  | .or c d, v, ⟨a, x, y, e, h, h1, h2⟩ => ⟨a, _, e, h⟩
  | .not c, v, ⟨a, x, e, h, h1⟩ => ⟨a, _, e, h⟩
  | .some r c, v, ⟨a, x, e, h, h1⟩ => ⟨a, _, e, h⟩
  | .all r c, v, ⟨a, x, e, h, h1⟩ => ⟨a, _, e, h⟩
/-- a concept as data -/
def cD : C → PyData
  | .top => .tuple [.int 0]
  | .bot => .tuple [.int 1]
  | .name n => .tuple [.int 2, .int n]
  | .and c d => .tuple [.int 3, cD c, cD d]
  | .or c d => .tuple [.int 4, cD c, cD d]
  | .not c => .tuple [.int 5, cD c]
  | .some r c => .tuple [.int 6, .int r, cD c]
  | .all r c => .tuple [.int 7, .int r, cD c]
theorem ConAt.dp {K : PySem.W.Frag} {H : Hp} : ∀ {c : C} {v : V}, ConAt H c v → Dp K H v (cD c)
  | .top, v, ⟨a, e, h⟩ => by subst e; exact .tup (.of h) (.cons (.int _) .nil)
  | .bot, v, ⟨a, e, h⟩ => by subst e; exact .tup (.of h) (.cons (.int _) .nil)
  | .name n, v, ⟨a, e, h⟩ => by subst e; exact .tup (.of h) (.cons (.int _) (.cons (.int _) .nil))
  | .and c d, v, ⟨a, x, y, e, h, h1, h2⟩ => by subst e; exact .tup (.of h) (.cons (.int _) (.cons (ConAt.dp h1) (.cons (ConAt.dp h2) .nil)))
  | .or c d, v, ⟨a, x, y, e, h, h1, h2⟩ => by subst e; exact .tup (.of h) (.cons (.int _) (.cons (ConAt.dp h1) (.cons (ConAt.dp h2) .nil)))
  | .not c, v, ⟨a, x, e, h, h1⟩ => by subst e; exact .tup (.of h) (.cons (.int _) (.cons (ConAt.dp h1) .nil))
  | .some r c, v, ⟨a, x, e, h, h1⟩ => by subst e; exact .tup (.of h) (.cons (.int _) (.cons (.int _) (.cons (ConAt.dp h1) .nil)))
  | .all r c, v, ⟨a, x, e, h, h1⟩ => by subst e; exact .tup (.of h) (.cons (.int _) (.cons (.int _) (.cons (ConAt.dp h1) .nil)))
theorem eqv_tup (xs ys : List PyData) : PyData.eqv (.tuple xs) (.tuple ys) = PyData.eqvAll xs ys := by simp only [PyData.eqv]
theorem eqv_list (xs ys : List PyData) : PyData.eqv (.list xs) (.list ys) = PyData.eqvAll xs ys := by simp only [PyData.eqv]
theorem eqv_int (i j : Int) : PyData.eqv (.int i) (.int j) = (i == j) := by simp only [PyData.eqv]
theorem eqv_cons (x y : PyData) (xs ys : List PyData) : PyData.eqvAll (x :: xs) (y :: ys) = (PyData.eqv x y && PyData.eqvAll xs ys) := by simp only [PyData.eqvAll]
theorem eqv_nn : PyData.eqvAll [] [] = true := by simp only [PyData.eqvAll]
theorem eqv_nc (y : PyData) (ys : List PyData) : PyData.eqvAll [] (y :: ys) = false := by simp only [PyData.eqvAll]
theorem eqv_cn (y : PyData) (ys : List PyData) : PyData.eqvAll (y :: ys) [] = false := by simp only [PyData.eqvAll]
theorem cD_eqv : ∀ (c d : C), PyData.eqv (cD c) (cD d) = decide (c = d) := by
  intro c
  induction c with
  | top => intro d; cases d <;> simp [cD, eqv_tup, eqv_int, eqv_cons, eqv_nn, eqv_nc, eqv_cn]
  | bot => intro d; cases d <;> simp [cD, eqv_tup, eqv_int, eqv_cons, eqv_nn, eqv_nc, eqv_cn]
  | name a =>
    intro d
    cases d <;> simp [cD, eqv_tup, eqv_int, eqv_cons, eqv_nn, eqv_nc, eqv_cn]
    rename_i b
    by_cases e : a = b
    · simp [e]
    · have : ¬ (a : Int) = b := by omega
      simp [e, this]
  | and c1 c2 ih1 ih2 =>
    intro d
    cases d <;> simp [cD, eqv_tup, eqv_int, eqv_cons, eqv_nn, eqv_nc, eqv_cn]
    rw [ih1, ih2]
  | or c1 c2 ih1 ih2 =>
    intro d
    cases d <;> simp [cD, eqv_tup, eqv_int, eqv_cons, eqv_nn, eqv_nc, eqv_cn]
    rw [ih1, ih2]
  | not c1 ih1 =>
    intro d
    cases d <;> simp [cD, eqv_tup, eqv_int, eqv_cons, eqv_nn, eqv_nc, eqv_cn]
    rw [ih1]
  | some r c1 ih1 =>
    intro d
    cases d <;> simp [cD, eqv_tup, eqv_int, eqv_cons, eqv_nn, eqv_nc, eqv_cn]
    rename_i r' c'
    rw [ih1]
    have e : ((r : Int) == r') = decide (r = r') := by
      rw [Bool.eq_iff_iff]; simp; omega
    rw [e]
  | all r c1 ih1 =>
    intro d
    cases d <;> simp [cD, eqv_tup, eqv_int, eqv_cons, eqv_nn, eqv_nc, eqv_cn]
    rename_i r' c'
    rw [ih1]
    have e : ((r : Int) == r') = decide (r = r') := by
      rw [Bool.eq_iff_iff]; simp; omega
    rw [e]
theorem cD_lay : ∀ c : C, (cD c).canLay0 = true
  | .top => by simp [cD, PyData.canLay0, PyData.canLayAll0]
  | .bot => by simp [cD, PyData.canLay0, PyData.canLayAll0]
  | .name n => by simp [cD, PyData.canLay0, PyData.canLayAll0]
  | .and c d => by simp [cD, PyData.canLay0, PyData.canLayAll0, cD_lay c, cD_lay d]
  | .or c d => by simp [cD, PyData.canLay0, PyData.canLayAll0, cD_lay c, cD_lay d]
  | .not c => by simp [cD, PyData.canLay0, PyData.canLayAll0, cD_lay c]
  | .some r c => by simp [cD, PyData.canLay0, PyData.canLayAll0, cD_lay c]
  | .all r c => by simp [cD, PyData.canLay0, PyData.canLayAll0, cD_lay c]
theorem cD_depth : ∀ c : C, (cD c).depth ≤ KM.size c
  | .top => by simp [cD, PyData.depth, PyData.depthAll, KM.size]
  | .bot => by simp [cD, PyData.depth, PyData.depthAll, KM.size]
  | .name n => by simp [cD, PyData.depth, PyData.depthAll, KM.size]
  | .and c d => by
    have := cD_depth c; have := cD_depth d
    simp only [cD, PyData.depth, PyData.depthAll, KM.size]; omega
  | .or c d => by
    have := cD_depth c; have := cD_depth d
    simp only [cD, PyData.depth, PyData.depthAll, KM.size]; omega
  | .not c => by
    have := cD_depth c
    simp only [cD, PyData.depth, PyData.depthAll, KM.size]; omega
  | .some r c => by
    have := cD_depth c
    simp only [cD, PyData.depth, PyData.depthAll, KM.size]; omega
  | .all r c => by
    have := cD_depth c
    simp only [cD, PyData.depth, PyData.depthAll, KM.size]; omega
theorem shaped_of {d : PyData} (h1 : d.canLay0 = true) (h2 : d.depth ≤ 64) : SeqAt.shaped d = true := by
  show (d.canLay0 && decide (d.depth ≤ 64)) = true
  rw [Bool.and_eq_true]
  exact ⟨h1, decide_eq_true h2⟩
theorem cD_shaped {c : C} (h : KM.size c ≤ 60) : SeqAt.shaped (cD c) = true := shaped_of (cD_lay c) (Nat.le_trans (cD_depth c) (by omega))
theorem lay_map {α : Type} {f : α → PyData} : ∀ {l : List α}, (∀ x ∈ l, (f x).canLay0 = true) → PyData.canLayAll0 (l.map f) = true
  | [], _ => by simp [PyData.canLayAll0]
  | x :: l, h => by
    simp only [List.map_cons, PyData.canLayAll0, Bool.and_eq_true]
    exact ⟨h x (by simp), lay_map fun y hy => h y (by simp [hy])⟩
theorem depth_map {α : Type} {f : α → PyData} {n : Nat} : ∀ {l : List α}, (∀ x ∈ l, (f x).depth ≤ n) → PyData.depthAll (l.map f) ≤ n
  | [], _ => by simp [PyData.depthAll]
  | x :: l, h => by
    have h1 := h x (by simp)
    have h2 := depth_map (l := l) fun y hy => h y (by simp [hy])
    simp only [List.map_cons, PyData.depthAll]
    omega
theorem list_shaped {α : Type} {f : α → PyData} {n : Nat} {l : List α} (h1 : ∀ x ∈ l, (f x).canLay0 = true) (h2 : ∀ x ∈ l, (f x).depth ≤ n) (hn : n ≤ 63) : SeqAt.shaped (.list (l.map f)) = true := by
  refine shaped_of (by simp only [PyData.canLay0]; exact lay_map h1) ?_
  have := depth_map h2
  simp only [PyData.depth]
  omega
theorem Al.dps {α : Type} {K : PySem.W.Frag} {H : Hp} {R : α → V → Prop} {f : α → PyData} (k : ∀ x v, R x v → Dp K H v (f x)) : ∀ {xs : List α} {vs : List V}, Al R xs vs → DpAll K H vs (xs.map f)
  | [], [], _ => .nil
  | x :: xs, v :: vs, h => .cons (k _ _ h.1) (Al.dps k h.2)
  | [], v :: vs, h => h.elim
  | x :: xs, [], h => h.elim
theorem LAt.dp {α : Type} {K : PySem.W.Frag} {R : Hp → α → V → Prop} {H : Hp} {f : α → PyData} {p : Addr} {xs : List α} (h : LAt R H p xs) (k : ∀ x v, R H x v → Dp K H v (f x)) : Dp K H (.ref p) (.list (xs.map f)) := by
  obtain ⟨vs, e, a⟩ := h
  exact .lst (.of e) (a.dps k)

/-! #### kinds -/
def b01 (b : Bool) : Int := if b = true then 1 else 0
def bitsV (n t : Nat) : List V := (List.range n).map fun k => V.int (b01 (Oc.bit t k))
theorem bitsV_len (n t : Nat) : (bitsV n t).length = n := by simp [bitsV]
theorem bitsV_at {n t k : Nat} (h : k < n) : (bitsV n t)[k]? = some (.int (b01 (Oc.bit t k))) := by
  simp [bitsV, h]
def KAt (n : Nat) (H : Hp) (t : Nat) (v : V) : Prop := ∃ a, v = .ref a ∧ H a = some (.tup (bitsV n t))
theorem KAt.mono {n : Nat} {H H' : Hp} (t : Tups H H') {k : Nat} {v : V} : KAt n H k v → KAt n H' k v := fun ⟨a, e, h⟩ => ⟨a, e, t _ _ h⟩
def PlAt (n : Nat) (H : Hp) (d : List Nat) (v : V) : Prop := ∃ a vs, v = .ref a ∧ H a = some (.tup vs) ∧ Al (KAt n H) d vs
theorem PlAt.mono {n : Nat} {H H' : Hp} (t : Tups H H') {k : List Nat} {v : V} : PlAt n H k v → PlAt n H' k v := fun ⟨a, vs, e, h, l⟩ => ⟨a, vs, e, t _ _ h, l.mono fun _ _ q => q.mono t⟩
/-! #### axioms, what is said, ties, pairs -/
def AxAt (H : Hp) (x : C × C) (v : V) : Prop := ∃ p y z, v = .ref p ∧ H p = some (.tup [y, z]) ∧ ConAt H x.1 y ∧ ConAt H x.2 z
theorem AxAt.mono {H H' : Hp} (t : Tups H H') {x : C × C} {v : V} : AxAt H x v → AxAt H' x v := fun ⟨p, y, z, e, h, a, b⟩ => ⟨p, y, z, e, t _ _ h, a.mono t, b.mono t⟩
def SaAt (H : Hp) (x : Nat × C) (v : V) : Prop := ∃ p y, v = .ref p ∧ H p = some (.tup [.int x.1, y]) ∧ ConAt H x.2 y
theorem SaAt.mono {H H' : Hp} (t : Tups H H') {x : Nat × C} {v : V} : SaAt H x v → SaAt H' x v := fun ⟨p, y, e, h, a⟩ => ⟨p, y, e, t _ _ h, a.mono t⟩
def TiAt (H : Hp) (x : Nat × Nat × Nat) (v : V) : Prop := ∃ p, v = .ref p ∧ H p = some (.tup [.int x.1, .int x.2.1, .int x.2.2])
theorem TiAt.mono {H H' : Hp} (t : Tups H H') {x : Nat × Nat × Nat} {v : V} : TiAt H x v → TiAt H' x v := fun ⟨p, e, h⟩ => ⟨p, e, t _ _ h⟩
def PrAt (H : Hp) (x : Nat × Nat) (v : V) : Prop := ∃ p, v = .ref p ∧ H p = some (.tup [.int x.1, .int x.2])
theorem PrAt.mono {H H' : Hp} (t : Tups H H') {x : Nat × Nat} {v : V} : PrAt H x v → PrAt H' x v := fun ⟨p, e, h⟩ => ⟨p, e, t _ _ h⟩
def pD (x : Nat × Nat) : PyData := .tuple [.int x.1, .int x.2]
theorem PrAt.dp {K : PySem.W.Frag} {H : Hp} {x : Nat × Nat} {v : V} : PrAt H x v → Dp K H v (pD x) := fun ⟨p, e, h⟩ => by
  subst e; exact .tup (.of h) (.cons (.int _) (.cons (.int _) .nil))
theorem pD_lay (x : Nat × Nat) : (pD x).canLay0 = true := by simp [pD, PyData.canLay0, PyData.canLayAll0]
theorem pD_depth (x : Nat × Nat) : (pD x).depth ≤ 1 := by simp [pD, PyData.depth, PyData.depthAll]
theorem pD_eqv (x y : Nat × Nat) : PyData.eqv (pD x) (pD y) = decide (x = y) := by
  obtain ⟨a, b⟩ := x
  obtain ⟨c, d⟩ := y
  simp only [pD, eqv_tup, eqv_cons, eqv_int, eqv_nn]
  rw [Bool.eq_iff_iff]
  simp
  omega
/-! #### insides -/
def inn (at_ : List C) (t : Nat) : C → Bool
  | .some _ c => Oc.holds at_ t c
  | .all _ c => Oc.holds at_ t c
  | _ => false
def ins (at_ : List C) (t : Nat) : List Bool := at_.map (inn at_ t)
def InAt (at_ : List C) (H : Hp) (t : Nat) (v : V) : Prop := ∃ a, v = .ref a ∧ H a = some (.lst ((ins at_ t).map V.bl))
theorem InAt.mono {at_ : List C} {H H' : Hp} (s : Same H H') {t : Nat} {v : V} : InAt at_ H t v → InAt at_ H' t v := fun ⟨a, e, h⟩ => ⟨a, e, s _ _ h⟩

/-! #### the house -/
def hF (pA : Addr) (n : Nat) (pS pT pAt pK : Addr) : List (Str × V) := [("axioms", .ref pA), ("things", .int n), ("said", .ref pS), ("ties", .ref pT), ("atoms", .ref pAt), ("kinds", .ref pK)]
structure HouAt (Cl : Addr) (H : Hp) (a : Addr) (h : House) (dx pA pS pT pAt pK : Addr) : Prop where
  obj : H a = some (.ins Cl dx (hF pA h.book.things pS pT pAt pK))
  ax : LAt AxAt H pA h.book.axioms
  sa : LAt SaAt H pS h.book.says
  ti : LAt TiAt H pT h.book.ties
  at1 : LAt ConAt H pAt h.atoms
  ki : LAt (KAt h.atoms.length) H pK h.types
def HouseAt (Cl : Addr) (H : Hp) (a : Addr) (h : House) : Prop := ∃ dx pA pS pT pAt pK, HouAt Cl H a h dx pA pS pT pAt pK
section
variable {H H' : Hp}
theorem LAt.axs (s : Same H H') {p : Addr} {xs : List Axiom} (h : LAt AxAt H p xs) : LAt AxAt H' p xs := h.mono (fun _ e => s _ _ e) fun _ _ q => q.mono s.tups
theorem LAt.sas (s : Same H H') {p : Addr} {xs : List (Nat × C)} (h : LAt SaAt H p xs) : LAt SaAt H' p xs := h.mono (fun _ e => s _ _ e) fun _ _ q => q.mono s.tups
theorem LAt.tis (s : Same H H') {p : Addr} {xs : List (Nat × Nat × Nat)} (h : LAt TiAt H p xs) : LAt TiAt H' p xs := h.mono (fun _ e => s _ _ e) fun _ _ q => q.mono s.tups
theorem LAt.cos (s : Same H H') {p : Addr} {xs : List C} (h : LAt ConAt H p xs) : LAt ConAt H' p xs := h.mono (fun _ e => s _ _ e) fun _ _ q => q.mono s.tups
theorem LAt.kis {n : Nat} (s : Same H H') {p : Addr} {xs : List Nat} (h : LAt (KAt n) H p xs) : LAt (KAt n) H' p xs := h.mono (fun _ e => s _ _ e) fun _ _ q => q.mono s.tups
theorem LAt.pls {n : Nat} (s : Same H H') {p : Addr} {xs : List (List Nat)} (h : LAt (PlAt n) H p xs) : LAt (PlAt n) H' p xs := h.mono (fun _ e => s _ _ e) fun _ _ q => q.mono s.tups
theorem LAt.prs (s : Same H H') {p : Addr} {xs : List (Nat × Nat)} (h : LAt PrAt H p xs) : LAt PrAt H' p xs := h.mono (fun _ e => s _ _ e) fun _ _ q => q.mono s.tups
theorem LAt.inss {at_ : List C} (s : Same H H') {p : Addr} {xs : List Nat} (h : LAt (InAt at_) H p xs) : LAt (InAt at_) H' p xs := h.mono (fun _ e => s _ _ e) fun _ _ q => q.mono s
theorem HouAt.same {Cl a dx pA pS pT pAt pK : Addr} {h : House} (s : Same H H') (x : HouAt Cl H a h dx pA pS pT pAt pK) : HouAt Cl H' a h dx pA pS pT pAt pK :=
  ⟨s _ _ x.obj, x.ax.axs s, x.sa.sas s, x.ti.tis s, x.at1.cos s, x.ki.kis s⟩
theorem HouseAt.same {Cl a : Addr} {h : House} (s : Same H H') (x : HouseAt Cl H a h) : HouseAt Cl H' a h := by
  obtain ⟨dx, pA, pS, pT, pAt, pK, x⟩ := x
  exact ⟨dx, pA, pS, pT, pAt, pK, x.same s⟩
end
theorem lk_here {k : Str} {v : V} {r : List (Str × V)} : List.lookup k ((k, v) :: r) = some v := by
  have e : (k == k) = true := beq_self_eq_true k
  simp only [List.lookup, e]
theorem lk_past {k g : Str} {v : V} {r : List (Str × V)} (h : (k == g) = false) : List.lookup k ((g, v) :: r) = List.lookup k r := by
  simp only [List.lookup, h]
theorem put_here {f : Str} {v x : V} {r : List (Str × V)} : putF f v ((f, x) :: r) = (f, v) :: r := if_pos rfl
theorem put_past {f g : Str} {v x : V} {r : List (Str × V)} (h : ¬ g = f) : putF f v ((g, x) :: r) = (g, x) :: putF f v r := if_neg h
section
variable {pA pS pT pAt pK q : Addr} {n : Nat} {i : Int}
theorem lkA : (hF pA n pS pT pAt pK).lookup ("axioms" : Str) = some (.ref pA) := lk_here
theorem lkN : (hF pA n pS pT pAt pK).lookup ("things" : Str) = some (.int n) := (lk_past (by decide +kernel)).trans lk_here
theorem lkS : (hF pA n pS pT pAt pK).lookup ("said" : Str) = some (.ref pS) := (lk_past (by decide +kernel)).trans ((lk_past (by decide +kernel)).trans lk_here)
theorem lkT : (hF pA n pS pT pAt pK).lookup ("ties" : Str) = some (.ref pT) := (lk_past (by decide +kernel)).trans ((lk_past (by decide +kernel)).trans ((lk_past (by decide +kernel)).trans lk_here))
theorem lkAt : (hF pA n pS pT pAt pK).lookup ("atoms" : Str) = some (.ref pAt) := (lk_past (by decide +kernel)).trans ((lk_past (by decide +kernel)).trans ((lk_past (by decide +kernel)).trans ((lk_past (by decide +kernel)).trans lk_here)))
theorem lkK : (hF pA n pS pT pAt pK).lookup ("kinds" : Str) = some (.ref pK) := (lk_past (by decide +kernel)).trans ((lk_past (by decide +kernel)).trans ((lk_past (by decide +kernel)).trans ((lk_past (by decide +kernel)).trans ((lk_past (by decide +kernel)).trans lk_here))))
theorem ptA : putF "axioms" (.ref q) (hF pA n pS pT pAt pK) = hF q n pS pT pAt pK := put_here
theorem ptN {m : Nat} : putF "things" (.int m) (hF pA n pS pT pAt pK) = hF pA m pS pT pAt pK := (put_past (by decide +kernel)).trans (congrArg _ put_here)
theorem ptS : putF "said" (.ref q) (hF pA n pS pT pAt pK) = hF pA n q pT pAt pK := (put_past (by decide +kernel)).trans (congrArg _ ((put_past (by decide +kernel)).trans (congrArg _ put_here)))
theorem ptT : putF "ties" (.ref q) (hF pA n pS pT pAt pK) = hF pA n pS q pAt pK := (put_past (by decide +kernel)).trans (congrArg _ ((put_past (by decide +kernel)).trans (congrArg _ ((put_past (by decide +kernel)).trans (congrArg _ put_here)))))
theorem ptAt : putF "atoms" (.ref q) (hF pA n pS pT pAt pK) = hF pA n pS pT q pK := (put_past (by decide +kernel)).trans (congrArg _ ((put_past (by decide +kernel)).trans (congrArg _ ((put_past (by decide +kernel)).trans (congrArg _ ((put_past (by decide +kernel)).trans (congrArg _ put_here)))))))
theorem ptK : putF "kinds" (.ref q) (hF pA n pS pT pAt pK) = hF pA n pS pT pAt q := (put_past (by decide +kernel)).trans (congrArg _ ((put_past (by decide +kernel)).trans (congrArg _ ((put_past (by decide +kernel)).trans (congrArg _ ((put_past (by decide +kernel)).trans (congrArg _ ((put_past (by decide +kernel)).trans (congrArg _ put_here)))))))))
end
end KC

/-! ## KcZip -/
/-! ### zip of a list, a tuple, a list, walked -/
namespace L2
open PySem PySem.Spec PyProof.Rows
/-- the list at a, the tuple at b, the list at c as they stand at each turn, the items in new tuples -/
def Itz3 (K : PySem.W.Frag) (a b c : Addr) : It :=
  ⟨fun i H => ∃ (xs ys zs : List V) (x y z : V), SqL K H a xs ∧ SqT K H b ys ∧ SqL K H c zs ∧ xs[i]? = some x ∧ ys[i]? = some y ∧ zs[i]? = some z,
    fun i H v H' => ∃ T x y z, v = .ref T ∧ H T = none ∧ H' = upd H T (.tup [x, y, z]) ∧ (∀ xs, SqL K H a xs → xs[i]? = some x) ∧ (∀ ys, SqT K H b ys → ys[i]? = some y) ∧ ∀ zs, SqL K H c zs → zs[i]? = some z,
    fun i H => ∃ xs ys zs : List V, SqL K H a xs ∧ SqT K H b ys ∧ SqL K H c zs ∧ i = min (min xs.length ys.length) zs.length⟩
theorem turn_zip3 {P : Program} {w : World} {K : PySem.W.Frag} {elts : List Expr} {kk : Nat} {tpos : Pos} {N a b c : Addr} (ha : a < N) (hb : b < N) (hc' : c < N) :
    Turn P w K (.Tuple elts kk tpos) (Itz3 K a b c) [N + 5, N + 3, N + 4, N, N + 1, N + 2] (N + 5) (fun i h => IsZip h (N + 5) (N + 3) (N + 4) .none ∧ IsTupOf3 h (N + 3) (.ref N) (.ref (N + 1)) (.ref (N + 2)) ∧ (∃ x y z, IsTupOf3 h (N + 4) x y z) ∧ h.IsListIter N a i ∧ h.IsTupleIter (N + 1) b i ∧ h.IsListIter (N + 2) c i) where
  mem := by simp
  obj := fun i h st d hd => by
    obtain ⟨hz, hTI, ⟨x, y, z, hTO⟩, ⟨o1, e1, _, d1⟩, ⟨o2, e2, _, d2⟩, ⟨o3, e3, _, d3⟩⟩ := st
    have e' : d = N + 5 ∨ d = N + 3 ∨ d = N + 4 ∨ d = N ∨ d = N + 1 ∨ d = N + 2 := by simpa using hd
    rcases e' with q | q | q | q | q | q
    · rw [q]; exact ⟨_, hz, fun v q => nomatch q⟩
    · rw [q]; exact ⟨_, hTI, fun v q => nomatch q⟩
    · rw [q]; exact ⟨_, hTO, fun v q => nomatch q⟩
    · rw [q]; exact ⟨o1, e1, fun v q => by rw [d1] at q; cases q⟩
    · rw [q]; exact ⟨o2, e2, fun v q => by rw [d2] at q; cases q⟩
    · rw [q]; exact ⟨o3, e3, fun v q => by rw [d3] at q; cases q⟩
  keep := fun i h h' st k => by
    obtain ⟨hz, hTI, ⟨x, y, z, hTO⟩, h1, h2, h3⟩ := st
    exact ⟨k (N + 5) (by simp) _ hz, k (N + 3) (by simp) _ hTI, ⟨x, y, z, k (N + 4) (by simp) _ hTO⟩, h1.at fun o q => k N (by simp) o q, h2.at fun o q => k (N + 1) (by simp) o q, h3.at fun o q => k (N + 2) (by simp) o q⟩
  item := by
    intro X hP hw hK hc i pins s σ H E I hf st hg
    subst hP hw hK
    obtain ⟨hz, hTI, hTO, h1, h2, h3⟩ := id st
    obtain ⟨xs, ys, zs, x, y, z, hqx, hqy, hqz, hx, hy, hzz⟩ := hg
    obtain ⟨its, rv, p, _⟩ := I.list hqx
    obtain ⟨its2, rv2, p2, _⟩ := I.tuple hqy
    obtain ⟨its3, rv3, p3, _⟩ := I.list hqz
    obtain ⟨u, hu, ru⟩ := rv.get hx
    obtain ⟨u2, hu2, ru2⟩ := rv2.get hy
    obtain ⟨u3, hu3, ru3⟩ := rv3.get hzz
    have hh : X.A.in1.handled = none := I.ok.hd hc
    have D1 := Draws.list (prog := X.prog) (w := X.w) (A := X.A.in1) hh N a (Nat.ne_of_lt ha) its.toArray
    have D2 := Draws.tuple (prog := X.prog) (w := X.w) (A := X.A.in1) hh (N + 1) b (Nat.ne_of_lt (Nat.lt_of_lt_of_le hb (Nat.le_add_right N 1))) its2.toArray
    have D3 := Draws.list (prog := X.prog) (w := X.w) (A := X.A.in1) hh (N + 2) c (Nat.ne_of_lt (Nat.lt_of_lt_of_le hc' (Nat.le_add_right N 2))) its3.toArray
    have S := zip_sep3 (N := N) (fp1 := [a]) (fp2 := [b]) (fp3 := [c]) (by simpa using ha) (by simpa using hb) (by simpa using hc')
    have W := GoesN.zip3 (prog := X.prog) (w := X.w) (A := X.A) (elts := elts) (x1 := kk) (pos := tpos) S D1 D2 D3
    have l1 : i < its.length := (List.getElem?_eq_some_iff.mp hu).1
    have l2 : i < its2.length := (List.getElem?_eq_some_iff.mp hu2).1
    have l3 : i < its3.length := (List.getElem?_eq_some_iff.mp hu3).1
    have hi : i < min (min its.toArray.size its2.toArray.size) its3.toArray.size := by
      simp only [List.size_toArray]; omega
    refine thn (W.goes i s (fun v s2 => ∃ x' H', Inv X pins σ H' s2 ∧ RelV x' v ∧ (Itz3 X.K a b c).yld i H x' H' ∧ (IsZip s2.heap (N + 5) (N + 3) (N + 4) .none ∧ IsTupOf3 s2.heap (N + 3) (.ref N) (.ref (N + 1)) (.ref (N + 2)) ∧ (∃ x y z, IsTupOf3 s2.heap (N + 4) x y z) ∧ s2.heap.IsListIter N a (i + 1) ∧ s2.heap.IsTupleIter (N + 1) b (i + 1) ∧ s2.heap.IsListIter (N + 2) c (i + 1)) ∧ ∀ d ∈ [N + 5, N + 3, N + 4, N, N + 1, N + 2], H' d = none) E hi ⟨hz, hTI, hTO, ⟨h1, p.isList⟩, ⟨h2, p2⟩, ⟨h3, p3.isList⟩⟩ fun v h' tk hY st' hk _ => ?_) fun r s1 hr => hr
    obtain ⟨T, v1, v2, v3, rfl, hT, e1, e2, e3, hTt⟩ := hY
    obtain ⟨z', TI', TO', ⟨i1', _⟩, ⟨i2', _⟩, ⟨i3', _⟩⟩ := st'
    have f1 : v1 = u := by rw [show its.toArray[i]? = its[i]? by simp, hu] at e1; exact (Option.some.inj e1).symm
    have f2 : v2 = u2 := by rw [show its2.toArray[i]? = its2[i]? by simp, hu2] at e2; exact (Option.some.inj e2).symm
    have f3 : v3 = u3 := by rw [show its3.toArray[i]? = its3[i]? by simp, hu3] at e3; exact (Option.some.inj e3).symm
    subst f1 f2 f3
    have new : ObjOk X.prog X.w (upd H T (.tup [x, y, z])) h' T (.tup [x, y, z]) :=
      ⟨by show 3 ≤ sizeLine; decide, [v1, v2, v3], .cons ru (.cons ru2 (.cons ru3 .nil)), hTt⟩
    have I1 : Inv X pins σ (upd H T (.tup [x, y, z])) { s with heap := h', toks := tk } :=
      I.turnedNew (ch := [N + 5, N + 4, N, N + 1, N + 2]) (fun d o hb q => hk d o hb q) (fun d hd => hf d (by
        have e' : d = N + 5 ∨ d = N + 4 ∨ d = N ∨ d = N + 1 ∨ d = N + 2 := by simpa using hd
        rcases e' with q | q | q | q | q <;> (rw [q]; simp))) hT new
    have hTn : H T = none := I.hok.fresh hT
    refine ⟨.ref T, _, I1, rfl, ⟨T, x, y, z, rfl, hTn, rfl, fun l hl => by rw [I.list_inj hl hqx]; exact hx, fun l hl => by rw [I.tuple_inj hl hqy]; exact hy, fun l hl => by rw [I.list_inj hl hqz]; exact hzz⟩, ⟨z', TI', TO', i1', i2', i3'⟩, fun d hd => ?_⟩
    have hlt : d < s.heap.objs.size := by
      have hz5 : N + 5 < s.heap.objs.size := Heap.lt_size hz
      have hle : d ≤ N + 5 := by
        have e' : d = N + 5 ∨ d = N + 3 ∨ d = N + 4 ∨ d = N ∨ d = N + 1 ∨ d = N + 2 := by simpa using hd
        rcases e' with q | q | q | q | q | q <;> (rw [q]; first | exact Nat.le_refl _ | exact Nat.add_le_add_left (by decide) _ | exact Nat.le_add_right _ _)
      exact Nat.lt_of_le_of_lt hle hz5
    rw [upd_ne (Nat.ne_of_lt (Nat.lt_of_lt_of_le hlt hT))]
    exact (hf d hd).1
  done := by
    intro X hP hw hK hc i pins s σ H E I hf st hg
    subst hP hw hK
    obtain ⟨hz, hTI, hTO, h1, h2, h3⟩ := id st
    obtain ⟨xs, ys, zs, hqx, hqy, hqz, hend⟩ := hg
    obtain ⟨its, rv, p, _⟩ := I.list hqx
    obtain ⟨its2, rv2, p2, _⟩ := I.tuple hqy
    obtain ⟨its3, rv3, p3, _⟩ := I.list hqz
    have hh : X.A.in1.handled = none := I.ok.hd hc
    have D1 := Draws.list (prog := X.prog) (w := X.w) (A := X.A.in1) hh N a (Nat.ne_of_lt ha) its.toArray
    have D2 := Draws.tuple (prog := X.prog) (w := X.w) (A := X.A.in1) hh (N + 1) b (Nat.ne_of_lt (Nat.lt_of_lt_of_le hb (Nat.le_add_right N 1))) its2.toArray
    have D3 := Draws.list (prog := X.prog) (w := X.w) (A := X.A.in1) hh (N + 2) c (Nat.ne_of_lt (Nat.lt_of_lt_of_le hc' (Nat.le_add_right N 2))) its3.toArray
    have S := zip_sep3 (N := N) (fp1 := [a]) (fp2 := [b]) (fp3 := [c]) (by simpa using ha) (by simpa using hb) (by simpa using hc')
    have W := GoesN.zip3 (prog := X.prog) (w := X.w) (A := X.A) (elts := elts) (x1 := kk) (pos := tpos) S D1 D2 D3
    have l1 := rv.length
    have l2 := rv2.length
    have l3 := rv3.length
    have hi : i = min (min its.toArray.size its2.toArray.size) its3.toArray.size := by
      simp only [List.size_toArray]; rw [← l1, ← l2, ← l3]; exact hend
    refine W.stops s (fun s1 => Inv X pins σ H s1) E (by rw [← hi]; exact ⟨hz, hTI, hTO, ⟨h1, p.isList⟩, ⟨h2, p2⟩, ⟨h3, p3.isList⟩⟩) fun h' tk hk _ => ?_
    exact I.turnedL (ch := [N + 5, N + 4, N, N + 1, N + 2]) (fun d o hb q => hk d o hb q) (fun d hd => hf d (by
        have e' : d = N + 5 ∨ d = N + 4 ∨ d = N ∨ d = N + 1 ∨ d = N + 2 := by simpa using hd
        rcases e' with q | q | q | q | q <;> (rw [q]; simp)))
  self := fun A i s Q E st h => wpAny_pyIter_zip st.1 h
def iZip3 (K : PySem.W.Frag) (ta : TA) : TI := fun σ H R => ta σ H fun vs H1 => ∃ a b c xs ys zs, vs = [.ref a, .ref b, .ref c] ∧ SqL K H1 a xs ∧ SqT K H1 b ys ∧ SqL K H1 c zs ∧ R (Itz3 K a b c) H1
theorem pi_zip3 {X : Cx} {e e2 e3 : Expr} {ta : TA} {p pos tpos : Pos} {elts : List Expr} {kk : Nat} (hg : Gl X "zip") (hm : X.mg "zip" = none) (ha : PA X [e, e2, e3] ta)
    (hs : starEach [e, e2, e3] X.env = (false, eval e X.env) :: starEach [e2, e3] X.env := by rfl) (hpl : (backTo pos (starEach [e2, e3] X.env)).any (·.1) = false := by rfl) :
    PI X (.Tuple elts kk tpos) (.Call (.Name "zip" p) [e, e2, e3] [] pos) (iZip3 X.K ta) := by
  refine ⟨fun pins s σ H R I h => ?_⟩
  refine Call_ (ld_blt I hg hm PyProof.Rows.boot_zip (PyProof.Rows.callWith_type1 (thn (ha.run pos pins s σ H _ I h) fun us s1 ⟨vs, H1, I1, r1, q1⟩ => ?_) hs hpl))
  obtain ⟨a, b, c, xs, ys, zs, ex, hqx, hqy, hqz, q⟩ := q1
  subst ex
  cases r1 with
  | cons r rr =>
    cases rr with
    | cons r' rr =>
      cases rr with
      | cons r'' rr =>
        cases rr
        cases r
        cases r'
        cases r''
        obtain ⟨its, rv, p1, _⟩ := I1.list hqx
        obtain ⟨its2, rv2, p2, _⟩ := I1.tuple hqy
        obtain ⟨its3, rv3, p3, _⟩ := I1.list hqz
        have la : a < s1.heap.objs.size := p1.lt
        have lb : b < s1.heap.objs.size := p2.lt
        have lc : c < s1.heap.objs.size := p3.lt
        refine zip_begins3 (begins_list a its.toArray) (begins_tuple b its2.toArray) (begins_list c its3.toArray) p1.isList p2 p3.isList fun h' hz hTI hTO h1 h2 h3 hsz hk => wpAny_pyIter_zip hz ?_
        have I2 : Inv X pins σ H1 { s1 with heap := h' } := I1.kept (t' := s1.toks) hk
        refine ⟨s1.heap.objs.size + 5, [s1.heap.objs.size + 5, s1.heap.objs.size + 3, s1.heap.objs.size + 4, s1.heap.objs.size, s1.heap.objs.size + 1, s1.heap.objs.size + 2], _, _, H1, rfl, I2, turn_zip3 la lb lc, ⟨hz, hTI, ⟨_, _, _, hTO⟩, ⟨_, h1, rfl, rfl⟩, ⟨_, h2, rfl, rfl⟩, ⟨_, h3, rfl, rfl⟩⟩, fun d hd => ?_, q⟩
        have e' : d = s1.heap.objs.size + 5 ∨ d = s1.heap.objs.size + 3 ∨ d = s1.heap.objs.size + 4 ∨ d = s1.heap.objs.size ∨ d = s1.heap.objs.size + 1 ∨ d = s1.heap.objs.size + 2 := by simpa using hd
        have hle : s1.heap.objs.size ≤ d := by
          rcases e' with z | z | z | z | z | z <;> (rw [z]; first | exact Nat.le_refl _ | exact Nat.le_add_right _ _)
        exact I1.fpOk hle (I1.hok.fresh hle)
/-- the loop over it: the three stay as they are -/
theorem for_zip3 {K : PySem.W.Frag} {a b c : Addr} {xs ys zs : List V} {g : TG} {tb : TS} {D : Ends} {σ : L2.St} {H : Hp} (hl1 : ys.length = xs.length) (hl2 : zs.length = xs.length) (Pv : Nat → L2.St → Hp → Prop) (h0 : Pv 0 σ H)
    (hl : ∀ i σ H, i ≤ xs.length → Pv i σ H → SqL K H a xs ∧ SqT K H b ys ∧ SqL K H c zs)
    (hs : ∀ i x y z T σ H, xs[i]? = some x → ys[i]? = some y → zs[i]? = some z → Pv i σ H → H T = none → g (.ref T) σ (upd H T (.tup [x, y, z])) fun σ2 H2 => tb { D with nx := Pv (i + 1), ct := Pv (i + 1), bk := D.nx } σ2 H2) (hd : ∀ σ H, Pv xs.length σ H → D.nx σ H) :
    ∃ W : Nat → Nat → L2.St → Hp → Prop, (∃ m, W 0 m σ H) ∧ ∀ i m σ H, W i m σ H →
      ((Itz3 K a b c).stop i H ∧ D.nx σ H) ∨ ((Itz3 K a b c).go i H ∧ ∃ N : L2.St → Hp → Prop, (∀ σ' H', N σ' H' → ∃ m', m' < m ∧ W (i + 1) m' σ' H') ∧ ∀ x H', (Itz3 K a b c).yld i H x H' → g x σ H' fun σ2 H2 => tb { D with nx := N, ct := N, bk := D.nx } σ2 H2) := by
  refine ⟨fun i m σ H => m = xs.length - i ∧ i ≤ xs.length ∧ Pv i σ H, ⟨xs.length, by simp, Nat.zero_le _, h0⟩, ?_⟩
  rintro i m σ H ⟨rfl, hi, p⟩
  obtain ⟨q1, q2, q3⟩ := hl i σ H hi p
  by_cases hlt : i < xs.length
  · refine .inr ⟨⟨xs, ys, zs, xs[i], ys[i]'(by omega), zs[i]'(by omega), q1, q2, q3, by simp [hlt], by simp, by simp⟩, Pv (i + 1), fun σ' H' p' => ⟨xs.length - (i + 1), by omega, rfl, hlt, p'⟩, fun x H' y => ?_⟩
    obtain ⟨T, x1, y1, z1, rfl, hT, rfl, k1, k2, k3⟩ := y
    exact hs i x1 y1 z1 T σ H (k1 xs q1) (k2 ys q2) (k3 zs q3) p hT
  · have e : i = xs.length := by omega
    subst e
    exact .inl ⟨⟨xs, ys, zs, q1, q2, q3, by omega⟩, hd σ H p⟩
end L2

/-! ## KcTxt -/
namespace KC
open PySem PySem.Spec PyProof.Rows L2
open Oc (C Axiom)
open Oc11 (House)
def topS (i : Nat) : Stmt := PySem.Challenge.pw_keptconcepts_s01_answers.main.body.getD i (.Pass ⟨0, 0, 0, 0⟩)
/-- what the top has written, but the defs -/
structure Txt (K : PySem.W.Frag) (mg : Str → Option Value) (CR fI Cl aD aS aR : Addr) : Prop where
  low : PySem.LowX.LowTxt K mg CR fI
  c_EVERYTHING : ∃ t, mg "EVERYTHING" = some (.int (0) t)
  c_NOTHING : ∃ t, mg "NOTHING" = some (.int (1) t)
  c_NAMED : ∃ t, mg "NAMED" = some (.int (2) t)
  c_BOTH : ∃ t, mg "BOTH" = some (.int (3) t)
  c_EITHER : ∃ t, mg "EITHER" = some (.int (4) t)
  c_NOT : ∃ t, mg "NOT" = some (.int (5) t)
  c_SOME : ∃ t, mg "SOME" = some (.int (6) t)
  c_ALL : ∃ t, mg "ALL" = some (.int (7) t)
  c_WORDS : ∃ t, mg "WORDS" = some (.int (8) t)
  c_NAMES : ∃ t, mg "NAMES" = some (.int (4) t)
  c_ROLES : ∃ t, mg "ROLES" = some (.int (2) t)
  c_NO_CONCEPT : ∃ t, mg "NO_CONCEPT" = some (.int (-1) t)
  c_MOST_ATOMS : ∃ t, mg "MOST_ATOMS" = some (.int (6) t)
  c_MOST_AXIOMS : ∃ t, mg "MOST_AXIOMS" = some (.int (5) t)
  c_MOST_THINGS : ∃ t, mg "MOST_THINGS" = some (.int (2) t)
  c_MOST_SAID : ∃ t, mg "MOST_SAID" = some (.int (5) t)
  c_MOST_TIES : ∃ t, mg "MOST_TIES" = some (.int (5) t)
  c_NOT_SO : ∃ t, mg "NOT_SO" = some (.int (-1) t)
  c_NONE_SUCH : ∃ t, mg "NONE_SUCH" = some (.int (-2) t)
  c_NO_MODEL : ∃ t, mg "NO_MODEL" = some (.int (-6) t)
  c_NO_ROOM : ∃ t, mg "NO_ROOM" = some (.int (-7) t)
  b_len : mg "len" = none
  b_range : mg "range" = none
  b_all : mg "all" = none
  b_any : mg "any" = none
  b_int : mg "int" = none
  b_list : mg "list" = none
  b_zip : mg "zip" = none
  b_enumerate : mg "enumerate" = none
  cl : Cls K Cl
  nA : NoAttr K Cl "axioms"
  nN : NoAttr K Cl "things"
  nS : NoAttr K Cl "said"
  nT : NoAttr K Cl "ties"
  nAt : NoAttr K Cl "atoms"
  nK : NoAttr K Cl "kinds"
  t_DEEDS : mg "DEEDS" = some (.ref aD)
  t_SIZES : mg "SIZES" = some (.ref aS)
  t_ROWED : mg "ROWED" = some (.ref aR)
  l_SIZES : ∀ H : Hp, SqT K H aS ([0, 0, 1, 0, 1, 1, 3, 1, 0, 1, 0, 0, 0, 0].map V.int)
  l_ROWED : ∀ H : Hp, SqT K H aR ([1, 4, 8, 9].map V.int)
/-- a refusal by the number n -/
def RF (CR : Addr) (n : Int) (H : Hp) (E : XK) : Prop := ∀ (d : Addr) (H' : Hp), Same H H' → H' d = some (.xd [(("number" : Str), .int n)]) → E (.ref CR) (some d) H'
def nV (ns : List Nat) : List V := ns.map fun n : Nat => V.int (n : Int)
theorem nV_at {ns : List Nat} {i : Nat} : (nV ns)[i]? = (ns[i]?).map fun n : Nat => V.int (n : Int) := by simp [nV]
theorem nV_len {ns : List Nat} : (nV ns).length = ns.length := by simp [nV]
/-! #### more readings -/
section
variable {K : PySem.W.Frag} {σ : L2.St} {H : Hp} {Q : VK} {v x : V} {p : Addr} {xs ys : List V} {i : Int}
theorem r_ixT (h : H p = some (.tup xs)) {j : Nat} (hi : i = (j : Int)) (hv : xs[j]? = some v) (q : Q v H) : rIxT K (.ref p) (.int i) H Q := ⟨p, xs, i, v, rfl, rfl, .of h, at_of hi hv, q⟩
theorem r_ixL (h : H p = some (.lst xs)) {j : Nat} (hi : i = (j : Int)) (hv : xs[j]? = some v) (q : Q v H) : rIxL K (.ref p) (.int i) H Q := ⟨p, xs, i, v, rfl, rfl, .of h, at_of hi hv, q⟩
theorem r_ixLK (h : SqL K H p xs) {j : Nat} (hi : i = (j : Int)) (hv : xs[j]? = some v) (q : Q v H) : rIxL K (.ref p) (.int i) H Q := ⟨p, xs, i, v, rfl, rfl, h, at_of hi hv, q⟩
theorem r_ixTK (h : SqT K H p xs) {j : Nat} (hi : i = (j : Int)) (hv : xs[j]? = some v) (q : Q v H) : rIxT K (.ref p) (.int i) H Q := ⟨p, xs, i, v, rfl, rfl, h, at_of hi hv, q⟩
theorem r_inT (h : SqT K H p xs) (f1 : flatV x = true) (f2 : xs.all flatV = true) (q : Q (.bl (inV x xs)) H) : rIn K false x (.ref p) H Q := ⟨p, xs, rfl, .inr h, f1, f2, q⟩
theorem r_fld {ta : TE} {f : Str} (q : ta σ H fun x H1 => ∃ a C dx fs v, x = .ref a ∧ H1 a = some (.ins C dx fs) ∧ Cls K C ∧ NoAttr K C f ∧ fs.lookup f = some v ∧ Q v H1) : tFld K ta f σ H Q := q
theorem r_cat {a b : Addr} (ha : H a = some (.lst xs)) (hb : H b = some (.lst ys)) (hn : xs.length + ys.length ≤ sizeLine) (q : ∀ p, H p = none → Q (.ref p) (upd H p (.lst (xs ++ ys)))) : rCat (.ref a) (.ref b) H Q := ⟨a, b, xs, ys, rfl, rfl, ha, hb, hn, q⟩
theorem r_append {l : Addr} (h : H l = some (.lst xs)) (hn : xs.length < sizeLine) (q : Q .non (upd H l (.lst (xs ++ [v])))) : rAppend (.ref l) [v] H Q := ⟨l, xs, v, rfl, rfl, h, hn, q⟩
theorem r_extend {l b : Addr} (h : H l = some (.lst xs)) (h2 : H b = some (.lst ys)) (hn : xs.length + ys.length ≤ sizeLine) (q : Q .non (upd H l (.lst (xs ++ ys)))) : rExtend (.ref l) [.ref b] H Q := ⟨l, b, xs, ys, rfl, rfl, h, h2, hn, q⟩
theorem r_bm {r : V → List V → Hp → VK → Prop} {to : TE} {t : TA} (q : to σ H fun x H1 => tyV K "list" x H1 ∧ t σ H1 fun xs H2 => r x xs H2 Q) : tBM K "list" r to t σ H Q := q
theorem tyL (h : H p = some (.lst xs)) : tyV K "list" (.ref p) H := .inl ⟨rfl, _, .of h⟩
theorem r_par {i j : Nat} {ta : TA} {D : Ends} (q : ta σ H fun vs H1 => ∃ v w, vs = [v, w] ∧ D.nx ((σ.set i (some v)).set j (some w)) H1) : tPar i j ta D σ H := q
theorem r_list {tl : TE} {R : It → Hp → Prop} (q : tl σ H fun x H1 => ∃ a, x = .ref a ∧ (∃ xs, SqL K H1 a xs) ∧ R (Itl K a) H1) : iList K tl σ H R := q
end
theorem r_for {wi : TI} {g : TG} {tb : TS} {D : Ends} {σ : L2.St} {H : Hp} (q : wi σ H fun J H1 => ∃ W : Nat → Nat → L2.St → Hp → Prop, (∃ m, W 0 m σ H1) ∧ ∀ i m σ H, W i m σ H →
  (J.stop i H ∧ D.nx σ H) ∨ (J.go i H ∧ ∃ N : L2.St → Hp → Prop, (∀ σ' H', N σ' H' → ∃ m', m' < m ∧ W (i + 1) m' σ' H') ∧ ∀ x H', J.yld i H x H' → g x σ H' fun σ2 H2 => tb { D with nx := N, ct := N, bk := D.nx } σ2 H2)) : tFor wi g tb D σ H := q
theorem r_raise {C : Addr} {W : WX} {ta : TA} {D : Ends} {σ : L2.St} {H : Hp} (q : ta σ H fun vs H1 => ∃ v, vs = [v] ∧ ∀ d, H1 d = none → W (.ref C) (some d) σ (upd H1 d (.xd [(("number" : Str), v)]))) : tRaiseLow C W ta D σ H := q
theorem RF.go {CR : Addr} {n : Int} {H0 H : Hp} {E : XK} (r : RF CR n H0 E) (s : Same H0 H) : ∃ v, [V.int n] = [v] ∧ ∀ d, H d = none → E (.ref CR) (some d) (upd H d (.xd [(("number" : Str), v)])) :=
  ⟨_, rfl, fun d hd => r d _ (s.trans (Same.upd hd)) upd_same⟩
theorem r_rng1 {ta : TA} {σ : L2.St} {H : Hp} {R : It → Hp → Prop} (q : ta σ H fun vs H1 => ∃ j : Int, vs = [.int j] ∧ -(2 ^ 62) ≤ j ∧ j < 2 ^ 62 ∧ R (Itr 0 j.toNat) H1) : iRng1 ta σ H R := q
theorem r_enum {K : PySem.W.Frag} {ta : TA} {σ : L2.St} {H : Hp} {R : It → Hp → Prop} (q : ta σ H fun vs H1 => ∃ a xs, vs = [.ref a] ∧ SqL K H1 a xs ∧ R (Ite K a) H1) : iEnum K ta σ H R := q
theorem r_zip3 {K : PySem.W.Frag} {ta : TA} {σ : L2.St} {H : Hp} {R : It → Hp → Prop} (q : ta σ H fun vs H1 => ∃ a b c xs ys zs, vs = [.ref a, .ref b, .ref c] ∧ SqL K H1 a xs ∧ SqT K H1 b ys ∧ SqL K H1 c zs ∧ R (Itz3 K a b c) H1) : iZip3 K ta σ H R := q
theorem r_lc {wi : TI} {g : TG} {tt : TT} {te : TE} {vs : List Nat} {σ : L2.St} {H : Hp} {Q : VK} (q : wi σ H fun J H1 => ∀ D, H1 D = none → ∃ W : Nat → Nat → Hp → Prop, (∃ m, W 0 m (upd H1 D (.lst []))) ∧ ∀ i m H, W i m H →
  (J.stop i H ∧ Q (.ref D) H) ∨ (J.go i H ∧ ∃ Nx : Hp → Prop, (∀ H', Nx H' → ∃ m', m' < m ∧ W (i + 1) m' H') ∧ ∀ x H', J.yld i H x H' → g x (wipe σ vs) H' fun σ2 H2 => wipe σ2 vs = wipe σ vs ∧ tt σ2 H2 fun b H3 =>
    if b = true then te σ2 H3 fun y H4 => ∃ acc, H4 D = some (.lst acc) ∧ acc.length < sizeLine ∧ Nx (upd H4 D (.lst (acc ++ [y]))) else Nx H3)) : tLc wi g tt te vs σ H Q := q
theorem r_yes {σ : L2.St} {H : Hp} {Q : Bool → Hp → Prop} (q : Q true H) : tYes σ H Q := q
theorem r_sFld {K : PySem.W.Frag} {ta tv : TE} {f : Str} {D : Ends} {σ : L2.St} {H : Hp} (q : tv σ H fun y H1 => ta σ H1 fun x H2 => ∃ a C dx fs, x = .ref a ∧ H2 a = some (.ins C dx fs) ∧ Cls K C ∧ NoAttr K C f ∧ fs.length < 1000 ∧ D.nx σ (upd H2 a (.ins C dx (putF f y fs)))) : sFld K ta tv f D σ H := q
/-- enumerate: the list stays as it is -/
theorem for_enum {K : PySem.W.Frag} {a : Addr} {xs : List V} {g : TG} {tb : TS} {D : Ends} {σ : L2.St} {H : Hp} (Pv : Nat → L2.St → Hp → Prop) (h0 : Pv 0 σ H) (hl : ∀ i σ H, i ≤ xs.length → Pv i σ H → SqL K H a xs)
    (hs : ∀ i x T σ H, xs[i]? = some x → Pv i σ H → H T = none → g (.ref T) σ (upd H T (.tup [.int (i : Nat), x])) fun σ2 H2 => tb { D with nx := Pv (i + 1), ct := Pv (i + 1), bk := D.nx } σ2 H2) (hd : ∀ σ H, Pv xs.length σ H → D.nx σ H) :
    ∃ W : Nat → Nat → L2.St → Hp → Prop, (∃ m, W 0 m σ H) ∧ ∀ i m σ H, W i m σ H →
      ((Ite K a).stop i H ∧ D.nx σ H) ∨ ((Ite K a).go i H ∧ ∃ N : L2.St → Hp → Prop, (∀ σ' H', N σ' H' → ∃ m', m' < m ∧ W (i + 1) m' σ' H') ∧ ∀ x H', (Ite K a).yld i H x H' → g x σ H' fun σ2 H2 => tb { D with nx := N, ct := N, bk := D.nx } σ2 H2) := by
  refine ⟨fun i m σ H => m = xs.length - i ∧ i ≤ xs.length ∧ Pv i σ H, ⟨xs.length, by simp, Nat.zero_le _, h0⟩, ?_⟩
  rintro i m σ H ⟨rfl, hi, p⟩
  have q := hl i σ H hi p
  by_cases hlt : i < xs.length
  · refine .inr ⟨⟨xs, xs[i], q, by simp [hlt]⟩, Pv (i + 1), fun σ' H' p' => ⟨xs.length - (i + 1), by omega, rfl, hlt, p'⟩, fun x H' y => ?_⟩
    obtain ⟨T, x1, rfl, hT, rfl, k1⟩ := y
    exact hs i x1 T σ H (k1 xs q) p hT
  · have e : i = xs.length := by omega
    subst e
    exact .inl ⟨⟨xs, q, Nat.le_refl _⟩, hd σ H p⟩
theorem ixT_K {X : Cx} {K : PySem.W.Frag} (h : X.K = K) : IxR X (rIxT K) := h ▸ ix_tup
theorem ixL_K {X : Cx} {K : PySem.W.Frag} (h : X.K = K) : IxR X (rIxL K) := h ▸ ix_list
theorem fld_K {X : Cx} {K : PySem.W.Frag} {e : Expr} {f : Str} {pos : Pos} {ta : TE} (h : X.K = K) (he : PE X e ta) (hb : attributeBase e f X.env (eval e X.env) = eval e X.env) : PE X (.Attribute e f pos) (tFld K ta f) := h ▸ pe_fld he hb
theorem catA_K {X : Cx} {K : PySem.W.Frag} (h : X.K = K) : OpR X (binaryOp .Add) (rCatA K) := h ▸ op_catA
theorem notInD_K {X : Cx} {K : PySem.W.Frag} (h : X.K = K) (hu : X.A.units + 65 < cLine) : OpR X (compareOp .NotIn) (rNotInD K) := h ▸ op_notInD hu
theorem sz_ok {n : Nat} (h : n ≤ 1000000 := by first | decide | (simp; done) | (simp; omega) | omega) : n ≤ sizeLine := by rw [sizeLine_eq]; omega
end KC

/-! ## KcCon -/
namespace KC
open PySem PySem.Spec PyProof.Rows L2
open Oc (C Axiom)
open Oc11 (House)
local macro_rules | `(tactic| walk_at "kc") => `(tactic| with_reducible (first
  | refine r_seq ?_ | refine r_ifS ?_ | refine r_asg ?_ | refine r_ret ?_ | refine r_drop ?_ | refine r_next ?_
  | refine r_op ?_ | refine r_c ?_ | refine r_cons ?_ | refine r_nil ?_ | refine r_cl ?_ | refine r_cx ?_ | refine r_cb ?_
  | refine r_test ?_ | refine r_B ?_ | refine r_and ?_ | refine r_or ?_ | refine r_not ?_ | refine r_bl ?_
  | refine r_notV ?_ | refine r_andV ?_ | refine r_orV ?_ | refine r_tup ?_ | refine r_lst ?_ | refine r_ifE ?_
  | refine r_for ?_ | refine r_lc ?_ | refine r_yes ?_ | refine r_sFld ?_ | refine r_fld ?_ | refine r_par ?_ | refine r_rng1 ?_ | refine r_enum ?_ | refine r_zip3 ?_ | refine r_raise ?_ | refine r_list ?_ | refine r_bm ?_ | refine r_I0 ?_ | refine r_eqI ?_ | refine r_eqB ?_ | refine r_neI ?_ | refine r_gName ?_ | refine r_gCons ?_ | refine r_gNil ?_
  | (refine r_var (by with_unfolding_all rfl) ?_)))
section
variable {P : Program} {w : World} {K : PySem.W.Frag} {mg : Str → Option Value} {base : Heap} {CR fI Cl aD aS aR : Addr}
/-! ### is_modal -/
abbrev s_is_modal : Stmt := topS 18
abbrev N_is_modal : List Str := ["concept"]
theorem sc_is_modal : FnScope N_is_modal ["concept"] (defScope s_is_modal) := ⟨rfl, rfl, rfl, by decide +kernel, rfl, by decide +kernel, by decide +kernel⟩
def modal : C → Bool
  | .some _ _ => true
  | .all _ _ => true
  | _ => false
def spModal : Sp := fun vs H Q _ => ∃ (v : V) (c : C), vs = [v] ∧ ConAt H c v ∧ ∀ H', Same H H' → Q (.bl (modal c)) H'
theorem d_is_modal (T : Txt K mg CR fI Cl aD aS aR) (G : Glob K mg "is_modal" s_is_modal) : DefOk P w K mg base CX0 1 "is_modal" spModal := by
  refine mkDef (ps := ["concept"]) G (fun _ _ _ _ _ _ us hl => match us, hl with | [_], _ => rfl) fun f fd F => F.ok sc_is_modal (fun vs H Q E h => ?_) fun cdv A outer s H vs Q E hr h => ⟨_, ((pss_one (ps_ret (pe_cmpR op_in_seq (pe_ix ix_tup (pv 0) pe_int (fun _ _ => rfl)) (pe_tup (pa_cons (pe_gint (by rfl) T.c_SOME) (pa_cons (pe_gint (by rfl) T.c_ALL) pa_nil))) (by with_unfolding_all rfl))))), ?_⟩
  · obtain ⟨v, c, rfl, _⟩ := h; rfl
  · obtain ⟨v, c, rfl, hc, q⟩ := h
    obtain ⟨a, xs, rfl, ha⟩ := hc.head
    repeat walk_at "kc"
    refine r_ixT ha (j := 0) rfl rfl ?_
    repeat walk_at "kc"
    refine ⟨sz_ok, fun p hp => r_inT (.of upd_same) rfl rfl ?_⟩
    have e : inV (V.int (word c)) [V.int 6, V.int 7] = modal c := by cases c <;> rfl
    rw [e]
    exact q _ (Same.upd hp)
/-! ### is_atom -/
abbrev s_is_atom : Stmt := topS 19
abbrev N_is_atom : List Str := ["concept"]
theorem sc_is_atom : FnScope N_is_atom ["concept"] (defScope s_is_atom) := ⟨rfl, rfl, rfl, by decide +kernel, rfl, by decide +kernel, by decide +kernel⟩
def spIsAtom : Sp := fun vs H Q _ => ∃ (v : V) (c : C), vs = [v] ∧ ConAt H c v ∧ ∀ H', Same H H' → Q (.bl (KM.isAtom c)) H'
theorem d_is_atom (T : Txt K mg CR fI Cl aD aS aR) (D_is_modal : DefOk P w K mg base CX0 1 "is_modal" spModal) (G : Glob K mg "is_atom" s_is_atom) : DefOk P w K mg base CX0 2 "is_atom" spIsAtom := by
  refine mkDef (ps := ["concept"]) G (fun _ _ _ _ _ _ us hl => match us, hl with | [_], _ => rfl) fun f fd F => F.ok sc_is_atom (fun vs H Q E h => ?_) fun cdv A outer s H vs Q E hr h => ⟨_, ((pss_one (ps_ret (pe_or (pe_cmpR op_eq (pe_ix ix_tup (pv 0) pe_int (fun _ _ => rfl)) (pe_gint (by rfl) T.c_NAMED) (nomark _)) (pe_one (pe_cl D_is_modal (hr.mono (by decide)) (by exact (pa_cons (pv 0) pa_nil)))))))), ?_⟩
  · obtain ⟨v, c, rfl, _⟩ := h; rfl
  · obtain ⟨v, c, rfl, hc, q⟩ := h
    obtain ⟨a, xs, rfl, ha⟩ := hc.head
    repeat walk_at "kc"
    refine r_ixT ha (j := 0) rfl rfl ?_
    repeat walk_at "kc"
    refine if_by (c' := decide (word c = 2)) (by simp; omega) (fun e => ?_) (fun e => ?_)
    · have e2 : KM.isAtom c = true := by cases c <;> simp [word] at e <;> rfl
      rw [e2] at q
      exact q _ (Same.refl _)
    · repeat walk_at "kc"
      refine ⟨_, c, rfl, hc, fun H' s => ?_⟩
      have e2 : KM.isAtom c = modal c := by cases c <;> simp [word] at e <;> rfl
      rw [← e2]
      exact q _ s
/-! ### parts_of -/
abbrev s_parts_of : Stmt := topS 20
abbrev N_parts_of : List Str := ["concept"]
theorem sc_parts_of : FnScope N_parts_of ["concept"] (defScope s_parts_of) := ⟨rfl, rfl, rfl, by decide +kernel, rfl, by decide +kernel, by decide +kernel⟩
def parts : C → List C
  | .and c d => [c, d]
  | .or c d => [c, d]
  | .not c => [c]
  | .some _ c => [c]
  | .all _ c => [c]
  | _ => []
def spParts : Sp := fun vs H Q _ => ∃ (v : V) (c : C), vs = [v] ∧ ConAt H c v ∧ ∀ H' p, Same H H' → H p = none → LAt ConAt H' p (parts c) → Q (.ref p) H'
theorem d_parts_of (T : Txt K mg CR fI Cl aD aS aR) (D_is_modal : DefOk P w K mg base CX0 1 "is_modal" spModal) (G : Glob K mg "parts_of" s_parts_of) : DefOk P w K mg base CX0 2 "parts_of" spParts := by
  refine mkDef (ps := ["concept"]) G (fun _ _ _ _ _ _ us hl => match us, hl with | [_], _ => rfl) fun f fd F => F.ok sc_parts_of (fun vs H Q E h => ?_) fun cdv A outer s H vs Q E hr h => ⟨_, ((pss_cons (ps_if (pt_cmpR op_in_seq (pe_ix ix_tup (pv 0) pe_int (fun _ _ => rfl)) (pe_tup (pa_cons (pe_gint (by rfl) T.c_BOTH) (pa_cons (pe_gint (by rfl) T.c_EITHER) pa_nil))) (by with_unfolding_all rfl))
      (pss_one (ps_ret (pe_lst (pa_cons (pe_ix ix_tup (pv 0) pe_int (fun _ _ => rfl)) (pa_cons (pe_ix ix_tup (pv 0) pe_int (fun _ _ => rfl)) pa_nil)))))
      pss_nil)
    (pss_cons (ps_if (pt_cmpR op_eq (pe_ix ix_tup (pv 0) pe_int (fun _ _ => rfl)) (pe_gint (by rfl) T.c_NOT) (nomark _))
      (pss_one (ps_ret (pe_lst (pa_cons (pe_ix ix_tup (pv 0) pe_int (fun _ _ => rfl)) pa_nil))))
      pss_nil)
    (pss_cons (ps_if (pt_val (pe_cl D_is_modal (hr.mono (by decide)) (by exact (pa_cons (pv 0) pa_nil))))
      (pss_one (ps_ret (pe_lst (pa_cons (pe_ix ix_tup (pv 0) pe_int (fun _ _ => rfl)) pa_nil))))
      pss_nil)
    (pss_one (ps_ret (pe_lst pa_nil))))))), ?_⟩
  · obtain ⟨v, c, rfl, _⟩ := h; rfl
  · obtain ⟨v, c, rfl, hc, q⟩ := h
    obtain ⟨a, xs, rfl, ha⟩ := hc.head
    repeat walk_at "kc"
    refine r_ixT ha (j := 0) rfl rfl ?_
    repeat walk_at "kc"
    refine ⟨sz_ok, fun p hp => r_inT (.of upd_same) rfl rfl ?_⟩
    have s1 := Same.upd (o := .tup [.int 3, .int 4]) hp
    repeat walk_at "kc"
    refine if_by (c' := decide (word c = 3 ∨ word c = 4)) (by cases c <;> rfl) (fun e => ?_) (fun e => ?_)
    · have two : ∃ c1 c2 y z, parts c = [c1, c2] ∧ xs = [y, z] ∧ ConAt H c1 y ∧ ConAt H c2 z := by
        cases c <;> simp [word] at e
        · obtain ⟨b, y, z, eb, hb, h1, h2⟩ := hc
          cases eb
          rw [ha] at hb
          injection hb with hb
          injection hb with hb
          injection hb with _ hb
          exact ⟨_, _, y, z, rfl, hb, h1, h2⟩
        · obtain ⟨b, y, z, eb, hb, h1, h2⟩ := hc
          cases eb
          rw [ha] at hb
          injection hb with hb
          injection hb with hb
          injection hb with _ hb
          exact ⟨_, _, y, z, rfl, hb, h1, h2⟩
      obtain ⟨c1, c2, y, z, ep, rfl, h1, h2⟩ := two
      repeat walk_at "kc"
      refine r_ixT (s1 _ _ ha) (j := 1) rfl rfl ?_
      repeat walk_at "kc"
      refine r_ixT (s1 _ _ ha) (j := 2) rfl rfl ?_
      repeat walk_at "kc"
      refine ⟨sz_ok, fun l hl => ?_⟩
      have s2 := s1.trans (Same.upd (o := .lst [y, z]) hl)
      refine q _ l s2 (s1.free hl) ?_
      rw [ep]
      exact ⟨[y, z], upd_same, h1.mono s2.tups, h2.mono s2.tups, trivial⟩
    · repeat walk_at "kc"
      refine r_ixT (s1 _ _ ha) (j := 0) rfl rfl ?_
      repeat walk_at "kc"
      refine if_by (c' := decide (word c = 5)) (by simp; omega) (fun e2 => ?_) (fun e2 => ?_)
      · have one : ∃ c1 y, parts c = [c1] ∧ xs = [y] ∧ ConAt H c1 y := by
          cases c <;> simp [word] at e2
          obtain ⟨b, y, eb, hb, h1⟩ := hc
          cases eb
          rw [ha] at hb
          injection hb with hb
          injection hb with hb
          injection hb with _ hb
          exact ⟨_, y, rfl, hb, h1⟩
        obtain ⟨c1, y, ep, rfl, h1⟩ := one
        repeat walk_at "kc"
        refine r_ixT (s1 _ _ ha) (j := 1) rfl rfl ?_
        repeat walk_at "kc"
        refine ⟨sz_ok, fun l hl => ?_⟩
        have s2 := s1.trans (Same.upd (o := .lst [y]) hl)
        refine q _ l s2 (s1.free hl) ?_
        rw [ep]
        exact ⟨[y], upd_same, h1.mono s2.tups, trivial⟩
      · repeat walk_at "kc"
        refine ⟨_, c, rfl, hc.mono s1.tups, fun H' s2 => ?_⟩
        have s3 := s1.trans s2
        refine r_bl ?_
        refine if_by (c' := modal c) rfl (fun e3 => ?_) (fun e3 => ?_)
        · have one : ∃ c1 r y, parts c = [c1] ∧ xs = [r, y] ∧ ConAt H c1 y := by
            cases c <;> simp [modal] at e3
            · obtain ⟨b, y, eb, hb, h1⟩ := hc
              cases eb
              rw [ha] at hb
              injection hb with hb
              injection hb with hb
              injection hb with _ hb
              exact ⟨_, _, y, rfl, hb, h1⟩
            · obtain ⟨b, y, eb, hb, h1⟩ := hc
              cases eb
              rw [ha] at hb
              injection hb with hb
              injection hb with hb
              injection hb with _ hb
              exact ⟨_, _, y, rfl, hb, h1⟩
          obtain ⟨c1, r, y, ep, rfl, h1⟩ := one
          repeat walk_at "kc"
          refine r_ixT (s3 _ _ ha) (j := 2) rfl rfl ?_
          repeat walk_at "kc"
          refine ⟨sz_ok, fun l hl => ?_⟩
          have s4 := s3.trans (Same.upd (o := .lst [y]) hl)
          refine q _ l s4 (s3.free hl) ?_
          rw [ep]
          exact ⟨[y], upd_same, h1.mono s4.tups, trivial⟩
        · repeat walk_at "kc"
          refine ⟨sz_ok, fun l hl => ?_⟩
          have s4 := s3.trans (Same.upd (o := .lst []) hl)
          refine q _ l s4 (s3.free hl) ?_
          have ep : parts c = [] := by cases c <;> simp [word, modal] at e e2 e3 <;> rfl
          rw [ep]
          exact ⟨[], upd_same, trivial⟩
/-! ### atoms_in -/
abbrev s_atoms_in : Stmt := topS 21
abbrev N_atoms_in : List Str := ["concept", "found", "part"]
theorem sc_atoms_in : FnScope N_atoms_in ["concept"] (defScope s_atoms_in) := ⟨rfl, rfl, rfl, by decide +kernel, rfl, by decide +kernel, by decide +kernel⟩
def spAtoms (n : Nat) : Sp := fun vs H Q _ => ∃ (v : V) (c : C), vs = [v] ∧ ConAt H c v ∧ KM.size c ≤ n ∧ KM.size c ≤ 60 ∧ ∀ H' p, Same H H' → H p = none → LAt ConAt H' p c.atoms → Q (.ref p) H'
theorem atoms_parts (c : C) : c.atoms = (if KM.isAtom c = true then [c] else []) ++ (parts c).flatMap C.atoms := by
  cases c <;> simp [C.atoms, KM.isAtom, parts]
theorem parts_size {c d : C} (h : d ∈ parts c) : KM.size d < KM.size c := by
  cases c with
  | top => simp [parts] at h
  | bot => simp [parts] at h
  | name a => simp [parts] at h
  | and c1 c2 =>
    simp only [parts, List.mem_cons, List.mem_nil_iff, or_false] at h
    have := KM.size_pos c1
    have := KM.size_pos c2
    rcases h with h | h <;> (subst h; simp only [KM.size]; omega)
  | or c1 c2 =>
    simp only [parts, List.mem_cons, List.mem_nil_iff, or_false] at h
    have := KM.size_pos c1
    have := KM.size_pos c2
    rcases h with h | h <;> (subst h; simp only [KM.size]; omega)
  | not c1 => simp only [parts, List.mem_cons, List.mem_nil_iff, or_false] at h; subst h; simp only [KM.size]; omega
  | some r c1 => simp only [parts, List.mem_cons, List.mem_nil_iff, or_false] at h; subst h; simp only [KM.size]; omega
  | all r c1 => simp only [parts, List.mem_cons, List.mem_nil_iff, or_false] at h; subst h; simp only [KM.size]; omega
theorem flat_take {α β : Type} (f : α → List β) (l : List α) (i : Nat) : ((l.take i).flatMap f).length ≤ (l.flatMap f).length := by
  have e : (l.flatMap f) = (l.take i).flatMap f ++ (l.drop i).flatMap f := by rw [← List.flatMap_append, List.take_append_drop]
  rw [e, List.length_append]; omega
theorem parts_len (c : C) : (parts c).length ≤ 2 := by cases c <;> simp [parts]
theorem take_more {α : Type} {l : List α} {i : Nat} {x : α} (h : l[i]? = some x) : l.take (i + 1) = l.take i ++ [x] := by
  obtain ⟨hi, e⟩ := List.getElem?_eq_some_iff.mp h
  rw [List.take_succ, h]; rfl
theorem d_atoms_in (D_parts_of : DefOk P w K mg base CX0 2 "parts_of" spParts) (D_is_atom : DefOk P w K mg base CX0 2 "is_atom" spIsAtom) (G : Glob K mg "atoms_in" s_atoms_in) : ∀ n, DefOk P w K mg base CX0 (n + 3) "atoms_in" (spAtoms n) := by
  intro n
  induction n with
  | zero =>
    have no : ∀ vs H Q E, ¬ spAtoms 0 vs H Q E := fun vs H Q E ⟨v, c, _, _, h, _⟩ => by have := KM.size_pos c; omega
    exact mkDef (ps := ["concept"]) G (fun _ _ _ _ _ _ us hl => match us, hl with | [_], _ => rfl) fun f fd F => F.ok sc_atoms_in (fun vs H Q E h => (no _ _ _ _ h).elim) fun cdv A outer s H vs Q E hr h => (no _ _ _ _ h).elim
  | succ n D_atoms_in =>
    refine mkDef (ps := ["concept"]) G (fun _ _ _ _ _ _ us hl => match us, hl with | [_], _ => rfl) fun f fd F => F.ok sc_atoms_in (fun vs H Q E h => ?_) fun cdv A outer s H vs Q E hr h => ⟨_, ((pss_cons (ps_set (i := 1) sc_atoms_in.nd rfl (Or.inl rfl) (pe_ifExp (pt_val (pe_cl D_is_atom (hr.mono (by omega)) (by exact (pa_cons (pv 0) pa_nil)))) (pe_lst (pa_cons (pv 0) pa_nil)) (pe_lst pa_nil)))
    (pss_cons (ps_for PassesOwn.never rfl (pi_list (pe_cl D_parts_of (hr.mono (by omega)) (by exact (pa_cons (pv 0) pa_nil)))) (pg_name (i := 2) sc_atoms_in.nd rfl (Or.inl rfl))
      (pss_one (ps_expr (pe_bm PySem.F.plainAttrs_list PySem.F.slot_list_extend PySem.F.type_list_extend mt_extend (pv 1) (pa_cons (pe_cl D_atoms_in (hr.mono (by omega)) (by exact (pa_cons (pv 2) pa_nil))) pa_nil)))))
    (pss_one (ps_ret (pv 1)))))), ?_⟩
    · obtain ⟨v, c, rfl, _⟩ := h; rfl
    · obtain ⟨v, c, rfl, hc, hn, h60, q⟩ := h
      repeat walk_at "kc"
      refine ⟨_, c, rfl, hc, fun H1 s1 => ?_⟩
      refine r_bl ?_
      -- found, then the rest
      have rest : ∀ (l : Addr) (H2 : Hp) (vs0 : List V), Same H H2 → H l = none → H2 l = some (.lst vs0) → Al (ConAt H2) (if KM.isAtom c = true then [c] else []) vs0 →
          tSeq (tFor (iList K (tCl spParts (tCons (tVar 0) tNil))) (gName 2) (tDrop (tBM K "list" rExtend (tVar 1) (tCons (tCl (spAtoms n) (tCons (tVar 2) tNil)) tNil)))) (tRet (tVar 1)) { nx := fun _ H' => Q .non H', rt := Q } [some v, some (.ref l), none] H2 := by
        intro l H2 vs0 s2 nl hl ha
        repeat walk_at "kc"
        refine ⟨v, c, rfl, hc.mono s2.tups, fun H3 pp s3 npp hpp => ?_⟩
        obtain ⟨pvs, hpp, ap⟩ := hpp
        have hlp : pp ≠ l := fun e => by rw [e, hl] at npp; cases npp
        refine ⟨pp, rfl, ⟨_, .of hpp⟩, for_list (xs := pvs) (fun i σ H' => ∃ v2, σ = [some v, some (.ref l), v2] ∧ Same H H' ∧ Tups H3 H' ∧ H' pp = some (.lst pvs) ∧ ∃ vs, H' l = some (.lst vs) ∧ Al (ConAt H') ((if KM.isAtom c = true then [c] else []) ++ ((parts c).take i).flatMap C.atoms) vs) ?_ ?_ ?_ ?_⟩
        · exact ⟨none, rfl, s2.trans s3, Tups.refl _, hpp, vs0, s3 _ _ hl, by simpa using ha.mono fun _ _ z => z.mono s3.tups⟩
        · rintro i σ H' _ ⟨v2, rfl, _, _, e, _⟩
          exact .of e
        · rintro i x σ H' hx ⟨v2, rfl, s4, t4, e4, vs, hvs, av⟩
          obtain ⟨d, hd, hdx⟩ := ap.get hx
          have hsz := parts_size (List.mem_of_getElem? hd)
          repeat walk_at "kc"
          refine ⟨tyL hvs, ?_⟩
          repeat walk_at "kc"
          refine ⟨x, d, rfl, hdx.mono t4, by omega, by omega, fun H5 r s5 nr hr5 => ?_⟩
          obtain ⟨ws, hws, aw⟩ := hr5
          have hl5 := s5 _ _ hvs
          have e1 := av.length
          have e2 := aw.length
          have e3 := KM.atoms_len d
          have e4' : (((parts c).take i).flatMap C.atoms).length ≤ 60 := by
            have q1 := KM.atoms_len c
            have q2 := atoms_parts c
            have q3 : (((parts c).take i).flatMap C.atoms).length ≤ ((parts c).flatMap C.atoms).length := flat_take _ _ _
            rw [q2, List.length_append] at q1
            omega
          repeat walk_at "kc"
          refine r_extend hl5 hws (line_of ?_) ?_
          · rw [← e1, ← e2, List.length_append]
            have : (if KM.isAtom c = true then [c] else []).length ≤ 1 := by split <;> simp
            omega
          have tl : Tups H5 (upd H5 l (.lst (vs ++ ws))) := Tups.lst hl5
          refine ⟨some x, rfl, (s4.trans s5).put nl, (t4.trans s5.tups).trans tl, ?_, vs ++ ws, upd_same, ?_⟩
          · rw [upd_ne hlp]; exact s5 _ _ e4
          · rw [take_more hd, List.flatMap_append, ← List.append_assoc]
            refine Al.app (av.mono fun _ _ z => z.mono (s5.tups.trans tl)) ?_
            simp only [List.flatMap_cons, List.flatMap_nil, List.append_nil]
            exact aw.mono fun _ _ z => z.mono tl
        · rintro σ H' ⟨v2, rfl, s4, t4, e4, vs, hvs, av⟩
          repeat walk_at "kc"
          refine q H' l s4 nl ⟨vs, hvs, ?_⟩
          rw [atoms_parts c]
          rw [← ap.length, List.take_length] at av
          exact av
      refine if_by (c' := KM.isAtom c) rfl (fun e => ?_) (fun e => ?_)
      · repeat walk_at "kc"
        refine ⟨sz_ok, fun l hl => r_gName ?_⟩
        have s2 := s1.trans (Same.upd (o := .lst [v]) hl)
        refine rest l _ [v] s2 (s1.free hl) upd_same ?_
        rw [if_pos e]
        exact .one (hc.mono s2.tups)
      · repeat walk_at "kc"
        refine ⟨sz_ok, fun l hl => r_gName ?_⟩
        have s2 := s1.trans (Same.upd (o := .lst []) hl)
        refine rest l _ [] s2 (s1.free hl) upd_same ?_
        rw [if_neg (by rw [e]; simp)]
        trivial
end
end KC

/-! ## KcCon2 -/
namespace KC
open PySem PySem.Spec PyProof.Rows L2
open Oc (C Axiom)
open Oc11 (House)
local macro_rules | `(tactic| walk_at "kc") => `(tactic| with_reducible (first
  | refine r_seq ?_ | refine r_ifS ?_ | refine r_asg ?_ | refine r_ret ?_ | refine r_drop ?_ | refine r_next ?_
  | refine r_op ?_ | refine r_c ?_ | refine r_cons ?_ | refine r_nil ?_ | refine r_cl ?_ | refine r_cx ?_ | refine r_cb ?_
  | refine r_test ?_ | refine r_B ?_ | refine r_and ?_ | refine r_or ?_ | refine r_not ?_ | refine r_bl ?_
  | refine r_notV ?_ | refine r_andV ?_ | refine r_orV ?_ | refine r_tup ?_ | refine r_lst ?_ | refine r_ifE ?_
  | refine r_for ?_ | refine r_lc ?_ | refine r_yes ?_ | refine r_sFld ?_ | refine r_fld ?_ | refine r_par ?_ | refine r_rng1 ?_ | refine r_enum ?_ | refine r_zip3 ?_ | refine r_raise ?_ | refine r_list ?_ | refine r_bm ?_ | refine r_I0 ?_ | refine r_eqI ?_ | refine r_eqB ?_ | refine r_neI ?_ | refine r_gName ?_ | refine r_gCons ?_ | refine r_gNil ?_
  | (refine r_var (by with_unfolding_all rfl) ?_)))
section
variable {P : Program} {w : World} {K : PySem.W.Frag} {mg : Str → Option Value} {base : Heap} {CR fI Cl aD aS aR : Addr}
/-! ### with_atoms -/
abbrev s_with_atoms : Stmt := topS 22
abbrev N_with_atoms : List Str := ["atoms", "concepts", "found", "concept", "atom"]
theorem sc_with_atoms : FnScope N_with_atoms ["atoms", "concepts"] (defScope s_with_atoms) := ⟨rfl, rfl, rfl, by decide +kernel, rfl, by decide +kernel, by decide +kernel⟩
def Small (cs : List C) : Prop := ∀ c ∈ cs, KM.size c ≤ 30
def spWith : Sp := fun vs H Q _ => ∃ (pa pc : Addr) (as cs : List C), vs = [.ref pa, .ref pc] ∧ LAt ConAt H pa as ∧ LAt ConAt H pc cs ∧ Small as ∧ Small cs ∧ as.length ≤ 6 ∧ cs.length ≤ 20 ∧
  ∀ H' p, Same H H' → H p = none → LAt ConAt H' p (KM.withAtoms as cs) → Q (.ref p) H'
theorem any_cD (fs : List C) (c : C) : (fs.map cD).any (fun z => PyData.eqv z (cD c)) = fs.contains c := by
  rw [List.any_map, List.contains_eq_any_beq]
  congr 1
  funext x
  show PyData.eqv (cD x) (cD c) = (c == x)
  rw [cD_eqv]
  by_cases h : x = c
  · subst h; simp
  · have h' : ¬ c = x := fun e => h e.symm
    simp [h, h']
theorem flat_small {cs : List C} (h : Small cs) : (cs.flatMap C.atoms).length ≤ 30 * cs.length := by
  induction cs with
  | nil => simp
  | cons c r ih =>
    have h1 := KM.atoms_len c
    have h2 := h c (by simp)
    have h3 := ih fun d hd => h d (by simp [hd])
    simp only [List.flatMap_cons, List.length_append, List.length_cons]
    omega
theorem fold_len (l m : List C) : (l.foldl KM.add1 m).length ≤ m.length + l.length := by
  obtain ⟨r, e, h⟩ := KM.fold_prefix l m
  rw [e, List.length_append]; omega
theorem d_with_atoms (T : Txt K mg CR fI Cl aD aS aR) (D_atoms_in : DefOk P w K mg base CX0 33 "atoms_in" (spAtoms 30)) (G : Glob K mg "with_atoms" s_with_atoms) : DefOk P w K mg base CX0 34 "with_atoms" spWith := by
  refine mkDef (ps := ["atoms", "concepts"]) G (fun _ _ _ _ _ _ us hl => match us, hl with | [_, _], _ => rfl) fun f fd F => F.ok sc_with_atoms (fun vs H Q E h => ?_) fun cdv A outer s H vs Q E hr h => ⟨_, ((pss_cons (ps_set (i := 2) sc_with_atoms.nd rfl (Or.inl rfl) (pe_callTy call_list_of (by rfl) T.b_list boot_list_ (pa_cons (pv 0) pa_nil)))
    (pss_cons (ps_for PassesOwn.never rfl (pi_list (pv 1)) (pg_name (i := 3) sc_with_atoms.nd rfl (Or.inl rfl))
      (pss_one (ps_for PassesOwn.never rfl (pi_list (pe_cl D_atoms_in (hr.mono (by decide)) (by exact (pa_cons (pv 3) pa_nil)))) (pg_name (i := 4) sc_with_atoms.nd rfl (Or.inl rfl))
        (pss_one (ps_if (pt_cmpR (op_notInD (hu65 hr)) (pv 4) (pv 2) (by with_unfolding_all rfl))
          (pss_one (ps_expr (pe_bm PySem.F.plainAttrs_list PySem.F.slot_list_append PySem.F.type_list_append mt_append (pv 2) (pa_cons (pv 4) pa_nil))))
          pss_nil)))))
    (pss_one (ps_ret (pv 2)))))), ?_⟩
  · obtain ⟨pa, pc, as, cs, rfl, _⟩ := h; rfl
  · obtain ⟨pa, pc, as, cs, rfl, ⟨va, hpa, la⟩, ⟨vc, hpc, lc⟩, za, zc, na, nc, q⟩ := h
    repeat walk_at "kc"
    refine ⟨pa, va, rfl, .inl (.of hpa), fun l hl => ?_⟩
    repeat walk_at "kc"
    have s1 : Same H (upd H l (.lst va)) := Same.upd hl
    have hpl : pc ≠ l := fun e => by rw [e, hl] at hpc; cases hpc
    have found_len : ∀ i, (((cs.take i).flatMap C.atoms).foldl KM.add1 as).length ≤ 606 := fun i => by
      have h1 := fold_len ((cs.take i).flatMap C.atoms) as
      have h2 := flat_take C.atoms cs i
      have h3 := flat_small zc
      omega
    refine ⟨pc, rfl, ⟨vc, .of (s1 _ _ hpc)⟩, for_list (xs := vc) (fun i σ H' => ∃ v3 v4, σ = [some (.ref pa), some (.ref pc), some (.ref l), v3, v4] ∧ Same H H' ∧ H' pc = some (.lst vc) ∧ ∃ vs, H' l = some (.lst vs) ∧ Al (ConAt H') (((cs.take i).flatMap C.atoms).foldl KM.add1 as) vs) ?_ ?_ ?_ ?_⟩
    · exact ⟨none, none, rfl, s1, s1 _ _ hpc, va, upd_same, by simpa using la.mono fun _ _ z => z.mono s1.tups⟩
    · rintro i σ H' _ ⟨v3, v4, rfl, _, e, _⟩
      exact .of e
    · rintro i x σ H' hx ⟨v3, v4, rfl, s2, e2, vs, hvs, av⟩
      obtain ⟨c, hc, hcx⟩ := lc.get hx
      have hsz := zc c (List.mem_of_getElem? hc)
      repeat walk_at "kc"
      refine ⟨x, c, rfl, hcx.mono s2.tups, hsz, by omega, fun H3 r s3 nr hr3 => ?_⟩
      obtain ⟨rs, hrs, ar⟩ := hr3
      have hlr : r ≠ l := fun e => by rw [e, hvs] at nr; cases nr
      have n3 : H l = none := hl
      refine ⟨r, rfl, ⟨rs, .of hrs⟩, for_list (xs := rs) (fun j σ H' => ∃ v4, σ = [some (.ref pa), some (.ref pc), some (.ref l), some x, v4] ∧ Same H H' ∧ Tups H3 H' ∧ H' pc = some (.lst vc) ∧ H' r = some (.lst rs) ∧ ∃ vs, H' l = some (.lst vs) ∧ Al (ConAt H') ((c.atoms.take j).foldl KM.add1 (((cs.take i).flatMap C.atoms).foldl KM.add1 as)) vs) ?_ ?_ ?_ ?_⟩
      · exact ⟨v4, rfl, s2.trans s3, Tups.refl _, s3 _ _ e2, hrs, vs, s3 _ _ hvs, by simpa using av.mono fun _ _ z => z.mono s3.tups⟩
      · rintro j σ H' _ ⟨v4, rfl, _, _, _, e, _⟩
        exact .of e
      · rintro j y σ H4 hy ⟨v4, rfl, s4, t4, e4, e5, ws, hws, aw⟩
        obtain ⟨b, hb, hby⟩ := ar.get hy
        have hbs : KM.size b ≤ 30 := Nat.le_trans (KM.atoms_size c b (List.mem_of_getElem? hb)) hsz
        have hby4 := hby.mono t4
        have small : ∀ z ∈ (c.atoms.take j).foldl KM.add1 (((cs.take i).flatMap C.atoms).foldl KM.add1 as), KM.size z ≤ 30 := fun z hz => by
          rcases (KM.fold_mem _ _ _).mp hz with hz | hz
          · rcases (KM.fold_mem _ _ _).mp hz with hz | hz
            · exact za z hz
            · obtain ⟨d, hd, hz⟩ := List.mem_flatMap.mp hz
              exact Nat.le_trans (KM.atoms_size d z hz) (zc d (List.mem_of_mem_take hd))
          · exact Nat.le_trans (KM.atoms_size c z (List.mem_of_mem_take hz)) hsz
        repeat walk_at "kc"
        refine ⟨cD b, ((c.atoms.take j).foldl KM.add1 (((cs.take i).flatMap C.atoms).foldl KM.add1 as)).map cD, hby4.dp, LAt.dp ⟨ws, hws, aw⟩ fun _ _ z => z.dp, cD_shaped (by omega), list_shaped (n := 30) (fun z _ => cD_lay z) (fun z hz => Nat.le_trans (cD_depth z) (small z hz)) (by omega), ?_⟩
        rw [any_cD]
        refine r_bl ?_
        have more : (c.atoms.take (j + 1)).foldl KM.add1 (((cs.take i).flatMap C.atoms).foldl KM.add1 as) = KM.add1 ((c.atoms.take j).foldl KM.add1 (((cs.take i).flatMap C.atoms).foldl KM.add1 as)) b := by
          rw [take_more hb, List.foldl_append]; rfl
        refine if_by rfl (fun e => ?_) (fun e => ?_)
        · repeat walk_at "kc"
          refine ⟨tyL hws, ?_⟩
          repeat walk_at "kc"
          refine r_append hws (line_lt ?_) ?_
          · rw [← aw.length]
            have h1 := fold_len (c.atoms.take j) (((cs.take i).flatMap C.atoms).foldl KM.add1 as)
            have h2 := found_len i
            have h3 := KM.atoms_len c
            have h4 : (c.atoms.take j).length ≤ c.atoms.length := by rw [List.length_take]; omega
            omega
          have tl : Tups H4 (upd H4 l (.lst (ws ++ [y]))) := Tups.lst hws
          refine ⟨some y, rfl, s4.put hl, t4.trans tl, by rw [upd_ne hpl]; exact e4, by rw [upd_ne hlr]; exact e5, ws ++ [y], upd_same, ?_⟩
          rw [more]
          have hn : ¬ ((c.atoms.take j).foldl KM.add1 (((cs.take i).flatMap C.atoms).foldl KM.add1 as)).contains b = true := by
            intro z; rw [z] at e; cases e
          unfold KM.add1 at hn ⊢
          rw [if_neg hn]
          exact (aw.mono fun _ _ z => z.mono tl).app (.one (hby4.mono tl))
        · repeat walk_at "kc"
          refine ⟨some y, rfl, s4, t4, e4, e5, ws, hws, ?_⟩
          rw [more]
          have hn : ((c.atoms.take j).foldl KM.add1 (((cs.take i).flatMap C.atoms).foldl KM.add1 as)).contains b = true := by
            simpa using e
          unfold KM.add1 at hn ⊢
          rw [if_pos hn]
          exact aw
      · rintro σ H4 ⟨v4, rfl, s4, t4, e4, e5, ws, hws, aw⟩
        refine ⟨some x, v4, rfl, s4, e4, ws, hws, ?_⟩
        rw [take_more hc, List.flatMap_append, List.foldl_append]
        simp only [List.flatMap_cons, List.flatMap_nil, List.append_nil]
        rw [← ar.length, List.take_length] at aw
        exact aw
    · rintro σ H' ⟨v3, v4, rfl, s2, e2, vs, hvs, av⟩
      repeat walk_at "kc"
      refine q H' l s2 hl ⟨vs, hvs, ?_⟩
      rw [← lc.length, List.take_length] at av
      exact av
end
end KC

/-! ## KcCon3 -/
namespace KC
open PySem PySem.Spec PyProof.Rows L2
open Oc (C Axiom)
open Oc11 (House)
local macro_rules | `(tactic| walk_at "kc") => `(tactic| with_reducible (first
  | refine r_seq ?_ | refine r_ifS ?_ | refine r_asg ?_ | refine r_ret ?_ | refine r_drop ?_ | refine r_next ?_
  | refine r_op ?_ | refine r_c ?_ | refine r_cons ?_ | refine r_nil ?_ | refine r_cl ?_ | refine r_cx ?_ | refine r_cb ?_
  | refine r_test ?_ | refine r_B ?_ | refine r_and ?_ | refine r_or ?_ | refine r_not ?_ | refine r_bl ?_
  | refine r_notV ?_ | refine r_andV ?_ | refine r_orV ?_ | refine r_tup ?_ | refine r_lst ?_ | refine r_ifE ?_
  | refine r_for ?_ | refine r_lc ?_ | refine r_yes ?_ | refine r_sFld ?_ | refine r_fld ?_ | refine r_par ?_ | refine r_rng1 ?_ | refine r_enum ?_ | refine r_zip3 ?_ | refine r_raise ?_ | refine r_list ?_ | refine r_bm ?_ | refine r_I0 ?_ | refine r_eqI ?_ | refine r_eqB ?_ | refine r_neI ?_ | refine r_gName ?_ | refine r_gCons ?_ | refine r_gNil ?_
  | (refine r_var (by with_unfolding_all rfl) ?_)))
section
variable {P : Program} {w : World} {K : PySem.W.Frag} {mg : Str → Option Value} {base : Heap} {CR fI Cl aD aS aR : Addr}
/-! ### number_below -/
abbrev s_number_below : Stmt := topS 15
abbrev N_number_below : List Str := ["numbers", "at", "bound"]
theorem sc_number_below : FnScope N_number_below ["numbers", "at", "bound"] (defScope s_number_below) := ⟨rfl, rfl, rfl, by decide +kernel, rfl, by decide +kernel, by decide +kernel⟩
def spNB (CR : Addr) : Sp := fun vs H Q E => ∃ (p : Addr) (ns : List Nat) (a : Nat) (b : Int), vs = [.ref p, .int (a : Nat), .int b] ∧ H p = some (.lst (nV ns)) ∧
  (∀ z : Nat, ns[a]? = some z → (z : Int) < b → Q (.int (z : Nat)) H) ∧ ((∀ z : Nat, ns[a]? = some z → b ≤ (z : Int)) → RF CR (-1) H E)
theorem d_number_below (T : Txt K mg CR fI Cl aD aS aR) (G : Glob K mg "number_below" s_number_below) : DefOk P w K mg base (L2.CX P w) 3 "number_below" (spNB CR) := by
  refine mkDef (ps := ["numbers", "at", "bound"]) G (fun _ _ _ _ _ _ us hl => match us, hl with | [_, _, _], _ => rfl) fun f fd F => F.okX sc_number_below (fun vs H Q E h => ?_) fun cdv A outer s H vs Q E hr h => ⟨_, ((pss_cons (ps_if (PW.pt (pw_or (pt_cmpR op_ge (pv 1) (pe_callB call_len_seq (by rfl) T.b_len boot_len_ (pa_cons (pv 0) pa_nil)) (nomark _)) (pw_or1 (pt_cmpR op_ge (pe_ix ix_list (pv 0) (pv 1) (fun _ _ => rfl)) (pv 2) (nomark _)))))
      (pss_one (ps_raiseLow rfl T.low hr (takes_of rfl rfl rfl rfl) (by exact (pa_cons (pe_gint (by rfl) T.c_NO_CONCEPT) pa_nil))))
      pss_nil)
    (pss_one (ps_ret (pe_ix ix_list (pv 0) (pv 1) (fun _ _ => rfl)))))), ?_⟩
  · obtain ⟨p, ns, a, b, rfl, _⟩ := h; rfl
  · obtain ⟨p, ns, a, b, rfl, hp, k1, k2⟩ := h
    repeat walk_at "kc"
    refine ⟨p, nV ns, rfl, .inl (.of hp), ?_⟩
    repeat walk_at "kc"
    refine if_by (c' := decide (ns.length ≤ a)) (by rw [nV_len]; simp) (fun e => ?_) (fun e => ?_)
    · refine if_t rfl ?_
      have e := of_decide_eq_true e
      repeat walk_at "kc"
      refine RF.go (k2 fun z hz => ?_) (Same.refl _)
      rw [List.getElem?_eq_none_iff.mpr e] at hz; cases hz
    · have e := of_decide_eq_false e
      have hz : ns[a]? = some (ns[a]'(by omega)) := List.getElem?_eq_getElem (by omega)
      generalize ns[a]'(by omega) = z at hz
      have hv : (nV ns)[a]? = some (V.int (z : Nat)) := by rw [nV_at, hz]; rfl
      repeat walk_at "kc"
      refine r_ixL hp (j := a) rfl hv ?_
      repeat walk_at "kc"
      refine if_by rfl (fun e2 => ?_) (fun e2 => ?_)
      · have e2 : b ≤ (z : Int) := of_decide_eq_true e2
        repeat walk_at "kc"
        refine RF.go (k2 fun z' hz' => ?_) (Same.refl _)
        rw [hz] at hz'; cases hz'; exact e2
      · have e2 : ¬ b ≤ (z : Int) := of_decide_eq_false e2
        repeat walk_at "kc"
        refine r_ixL hp (j := a) rfl hv ?_
        exact k1 z hz (by omega)
/-! ### concept_from -/
theorem read_nil (n : Nat) : Oc.read n [] = none := by cases n <;> rfl
theorem read_big {n w : Nat} {r : List Nat} (h : 8 ≤ w) : Oc.read n (w :: r) = none := by
  cases n with
  | zero => rfl
  | succ n =>
    unfold Oc.read
    split <;> simp_all
theorem read_suf : ∀ {n : Nat} {l r : List Nat} {c : C}, Oc.read n l = some (c, r) → ∃ pre, l = pre ++ r ∧ pre.length = KM.size c
  | 0, l, r, c, h => by cases h
  | n + 1, l, r, c, h => by
    unfold Oc.read at h
    split at h
    · cases h; exact ⟨[0], rfl, rfl⟩
    · cases h; exact ⟨[1], rfl, rfl⟩
    · split at h
      · cases h; exact ⟨[2, _], rfl, rfl⟩
      · cases h
    · split at h
      · cases h
      · rename_i r0 x hx
        obtain ⟨c1, r1⟩ := x
        cases hy : Oc.read n r1 with
        | none => simp only [hy] at h; cases h
        | some y =>
          obtain ⟨c2, r2⟩ := y
          simp only [hy] at h
          cases h
          obtain ⟨p1, e1, l1⟩ := read_suf hx
          obtain ⟨p2, e2, l2⟩ := read_suf hy
          exact ⟨3 :: (p1 ++ p2), by rw [e1, e2]; simp, by simp [KM.size, l1, l2]; omega⟩
    · split at h
      · cases h
      · rename_i r0 x hx
        obtain ⟨c1, r1⟩ := x
        cases hy : Oc.read n r1 with
        | none => simp only [hy] at h; cases h
        | some y =>
          obtain ⟨c2, r2⟩ := y
          simp only [hy] at h
          cases h
          obtain ⟨p1, e1, l1⟩ := read_suf hx
          obtain ⟨p2, e2, l2⟩ := read_suf hy
          exact ⟨4 :: (p1 ++ p2), by rw [e1, e2]; simp, by simp [KM.size, l1, l2]; omega⟩
    · rename_i r0
      cases hy : Oc.read n r0 with
      | none => rw [hy] at h; cases h
      | some y =>
        obtain ⟨c2, r2⟩ := y
        rw [hy] at h
        cases h
        obtain ⟨p2, e2, l2⟩ := read_suf hy
        exact ⟨5 :: p2, by rw [e2]; simp, by simp [KM.size, l2]; omega⟩
    · rename_i k r0
      split at h
      · cases hy : Oc.read n r0 with
        | none => rw [hy] at h; cases h
        | some y =>
          obtain ⟨c2, r2⟩ := y
          rw [hy] at h
          cases h
          obtain ⟨p2, e2, l2⟩ := read_suf hy
          exact ⟨6 :: k :: p2, by rw [e2]; simp, by simp [KM.size, l2]; omega⟩
      · cases h
    · rename_i k r0
      split at h
      · cases hy : Oc.read n r0 with
        | none => rw [hy] at h; cases h
        | some y =>
          obtain ⟨c2, r2⟩ := y
          rw [hy] at h
          cases h
          obtain ⟨p2, e2, l2⟩ := read_suf hy
          exact ⟨7 :: k :: p2, by rw [e2]; simp, by simp [KM.size, l2]; omega⟩
      · cases h
    · cases h
theorem drop_suf {ns pre r : List Nat} {a b : Nat} (h : ns.drop a = pre ++ r) (hb : b + r.length = ns.length) : ns.drop b = r := by
  have hs : r <:+ ns := ⟨ns.take a ++ pre, by rw [List.append_assoc, ← h, List.take_append_drop]⟩
  have := List.suffix_iff_eq_drop.mp hs
  rw [this]
  congr 1
  omega
theorem drop_cons {ns rest : List Nat} {a x : Nat} (h : ns.drop a = x :: rest) : ns[a]? = some x ∧ ns.drop (a + 1) = rest ∧ a + 1 + rest.length = ns.length := by
  have h1 : (ns.drop a)[0]? = some x := by rw [h]; rfl
  rw [List.getElem?_drop] at h1
  have h2 : (ns.drop a).drop 1 = rest := by rw [h]; rfl
  rw [List.drop_drop] at h2
  have h3 := congrArg List.length h
  rw [List.length_drop, List.length_cons] at h3
  refine ⟨h1, h2, ?_⟩
  omega
abbrev s_concept_from : Stmt := topS 16
abbrev N_concept_from : List Str := ["numbers", "at", "word", "one", "behind", "other", "role"]
theorem sc_concept_from : FnScope N_concept_from ["numbers", "at"] (defScope s_concept_from) := ⟨rfl, rfl, rfl, by decide +kernel, rfl, by decide +kernel, by decide +kernel⟩
def CFend (CR : Addr) (H : Hp) (Q : VK) (E : XK) (ns : List Nat) (x : Option (C × List Nat)) : Prop := match x with
  | some (c, r) => ∀ (H' : Hp) (t : Addr) (v : V) (b : Nat), Same H H' → b + r.length = ns.length → H' t = some (.tup [v, .int (b : Nat)]) → ConAt H' c v → Q (.ref t) H'
  | none => RF CR (-1) H E
def spCF (CR : Addr) (n : Nat) : Sp := fun vs H Q E => ∃ (p : Addr) (ns : List Nat) (a : Nat), vs = [.ref p, .int (a : Nat)] ∧ H p = some (.lst (nV ns)) ∧ a ≤ ns.length ∧ ns.length - a < n ∧ CFend CR H Q E ns (Oc.read n (ns.drop a))
theorem d_concept_from (T : Txt K mg CR fI Cl aD aS aR) (D_number_below : DefOk P w K mg base (L2.CX P w) 3 "number_below" (spNB CR)) (G : Glob K mg "concept_from" s_concept_from) : ∀ n, DefOk P w K mg base (L2.CX P w) (n + 4) "concept_from" (spCF CR n) := by
  intro n
  induction n with
  | zero =>
    have no : ∀ vs H Q E, ¬ spCF CR 0 vs H Q E := fun vs H Q E ⟨p, ns, a, _, _, _, h, _⟩ => by omega
    exact mkDef (ps := ["numbers", "at"]) G (fun _ _ _ _ _ _ us hl => match us, hl with | [_, _], _ => rfl) fun f fd F => F.okX sc_concept_from (fun vs H Q E h => (no _ _ _ _ h).elim) fun cdv A outer s H vs Q E hr h => (no _ _ _ _ h).elim
  | succ n D_concept_from =>
    refine mkDef (ps := ["numbers", "at"]) G (fun _ _ _ _ _ _ us hl => match us, hl with | [_, _], _ => rfl) fun f fd F => F.okX sc_concept_from (fun vs H Q E h => ?_) fun cdv A outer s H vs Q E hr h => ⟨_, ((pss_cons (ps_set (i := 2) sc_concept_from.nd rfl (Or.inl rfl) (pe_cx D_number_below (takes_of rfl rfl rfl rfl) (hr.mono (by omega)) (by exact (pa_cons (pv 0) (pa_cons (pv 1) (pa_cons (pe_gint (by rfl) T.c_WORDS) pa_nil))))))
    (pss_cons (ps_if (pt_cmpR op_eq (pv 2) (pe_gint (by rfl) T.c_NAMED) (nomark _))
      (pss_one (ps_ret (pe_tup (pa_cons (pe_tup (pa_cons (pv 2) (pa_cons (pe_cx D_number_below (takes_of rfl rfl rfl rfl) (hr.mono (by omega)) (by exact (pa_cons (pv 0) (pa_cons (pe_op op_add (pv 1) pe_int) (pa_cons (pe_gint (by rfl) T.c_NAMES) pa_nil))))) pa_nil))) (pa_cons (pe_op op_add (pv 1) pe_int) pa_nil)))))
      pss_nil)
    (pss_cons (ps_if (pt_cmpR op_in_seq (pv 2) (pe_tup (pa_cons (pe_gint (by rfl) T.c_BOTH) (pa_cons (pe_gint (by rfl) T.c_EITHER) pa_nil))) (by with_unfolding_all rfl))
      (pss_cons (ps_asg (pe_cx D_concept_from (takes_of rfl rfl rfl rfl) (hr.mono (by omega)) (by exact (pa_cons (pv 0) (pa_cons (pe_op op_add (pv 1) pe_int) pa_nil)))) (pg_tup rfl (pgs_cons (pg_name (i := 3) sc_concept_from.nd rfl (Or.inl rfl)) (pgs_cons (pg_name (i := 4) sc_concept_from.nd rfl (Or.inl rfl)) pgs_nil))))
      (pss_cons (ps_asg (pe_cx D_concept_from (takes_of rfl rfl rfl rfl) (hr.mono (by omega)) (by exact (pa_cons (pv 0) (pa_cons (pv 4) pa_nil)))) (pg_tup rfl (pgs_cons (pg_name (i := 5) sc_concept_from.nd rfl (Or.inl rfl)) (pgs_cons (pg_name (i := 4) sc_concept_from.nd rfl (Or.inl rfl)) pgs_nil))))
      (pss_one (ps_ret (pe_tup (pa_cons (pe_tup (pa_cons (pv 2) (pa_cons (pv 3) (pa_cons (pv 5) pa_nil)))) (pa_cons (pv 4) pa_nil)))))))
      pss_nil)
    (pss_cons (ps_if (pt_cmpR op_eq (pv 2) (pe_gint (by rfl) T.c_NOT) (nomark _))
      (pss_cons (ps_asg (pe_cx D_concept_from (takes_of rfl rfl rfl rfl) (hr.mono (by omega)) (by exact (pa_cons (pv 0) (pa_cons (pe_op op_add (pv 1) pe_int) pa_nil)))) (pg_tup rfl (pgs_cons (pg_name (i := 3) sc_concept_from.nd rfl (Or.inl rfl)) (pgs_cons (pg_name (i := 4) sc_concept_from.nd rfl (Or.inl rfl)) pgs_nil))))
      (pss_one (ps_ret (pe_tup (pa_cons (pe_tup (pa_cons (pv 2) (pa_cons (pv 3) pa_nil))) (pa_cons (pv 4) pa_nil))))))
      pss_nil)
    (pss_cons (ps_if (pt_cmpR op_in_seq (pv 2) (pe_tup (pa_cons (pe_gint (by rfl) T.c_SOME) (pa_cons (pe_gint (by rfl) T.c_ALL) pa_nil))) (by with_unfolding_all rfl))
      (pss_cons (ps_set (i := 6) sc_concept_from.nd rfl (Or.inl rfl) (pe_cx D_number_below (takes_of rfl rfl rfl rfl) (hr.mono (by omega)) (by exact (pa_cons (pv 0) (pa_cons (pe_op op_add (pv 1) pe_int) (pa_cons (pe_gint (by rfl) T.c_ROLES) pa_nil))))))
      (pss_cons (ps_asg (pe_cx D_concept_from (takes_of rfl rfl rfl rfl) (hr.mono (by omega)) (by exact (pa_cons (pv 0) (pa_cons (pe_op op_add (pv 1) pe_int) pa_nil)))) (pg_tup rfl (pgs_cons (pg_name (i := 3) sc_concept_from.nd rfl (Or.inl rfl)) (pgs_cons (pg_name (i := 4) sc_concept_from.nd rfl (Or.inl rfl)) pgs_nil))))
      (pss_one (ps_ret (pe_tup (pa_cons (pe_tup (pa_cons (pv 2) (pa_cons (pv 6) (pa_cons (pv 3) pa_nil)))) (pa_cons (pv 4) pa_nil)))))))
      pss_nil)
    (pss_one (ps_ret (pe_tup (pa_cons (pe_tup (pa_cons (pv 2) pa_nil)) (pa_cons (pe_op op_add (pv 1) pe_int) pa_nil))))))))))), ?_⟩
    · obtain ⟨p, ns, a, rfl, _⟩ := h; rfl
    · obtain ⟨p, ns, a, rfl, hp, ha, hn, q⟩ := h
      repeat walk_at "kc"
      cases hd : ns.drop a with
      | nil =>
        rw [hd, read_nil] at q
        have hl : ns.length ≤ a := by
          have := congrArg List.length hd
          rw [List.length_drop] at this
          simp at this
          omega
        refine ⟨p, ns, a, _, rfl, hp, fun z hz _ => ?_, fun _ => q⟩
        rw [List.getElem?_eq_none_iff.mpr hl] at hz; cases hz
      | cons x rest =>
        rw [hd] at q
        obtain ⟨hx, hrest, hlen⟩ := drop_cons hd
        refine ⟨p, ns, a, _, rfl, hp, fun z hz hz8 => ?_, fun h8 => ?_⟩
        rotate_left
        · have : 8 ≤ x := by have := h8 x hx; omega
          rw [read_big this] at q
          exact q
        · rw [hx] at hz
          cases hz
          have h8 : x < 8 := by omega
          repeat walk_at "kc"
          have cases8 : x = 0 ∨ x = 1 ∨ x = 2 ∨ x = 3 ∨ x = 4 ∨ x = 5 ∨ x = 6 ∨ x = 7 := by omega
          rcases cases8 with e | e | e | e | e | e | e | e <;> subst e
          · refine if_f (by decide) ?_
            repeat walk_at "kc"
            refine ⟨sz_ok, fun p1 h1 => r_inT (.of upd_same) rfl rfl (r_bl (if_f rfl ?_))⟩
            have s1 := Same.upd (o := .tup [.int 3, .int 4]) h1
            repeat walk_at "kc"
            refine if_f (by decide) ?_
            repeat walk_at "kc"
            refine ⟨sz_ok, fun p2 h2 => r_inT (.of upd_same) rfl rfl (r_bl (if_f rfl ?_))⟩
            have s2 := s1.trans (Same.upd (o := .tup [.int 6, .int 7]) h2)
            repeat walk_at "kc"
            refine ⟨sz_ok, fun p3 h3 => ?_⟩
            have s3 := s2.trans (Same.upd (o := .tup [.int ((0 : Nat) : Int)]) h3)
            repeat walk_at "kc"
            refine ⟨sz_ok, fun p4 h4 => ?_⟩
            have k4 := Same.upd (o := .tup [.ref p3, .int ((a : Int) + 1)]) h4
            exact q _ p4 (.ref p3) (a + 1) (s3.trans k4) hlen upd_same ⟨p3, rfl, k4 _ _ upd_same⟩
          · refine if_f (by decide) ?_
            repeat walk_at "kc"
            refine ⟨sz_ok, fun p1 h1 => r_inT (.of upd_same) rfl rfl (r_bl (if_f rfl ?_))⟩
            have s1 := Same.upd (o := .tup [.int 3, .int 4]) h1
            repeat walk_at "kc"
            refine if_f (by decide) ?_
            repeat walk_at "kc"
            refine ⟨sz_ok, fun p2 h2 => r_inT (.of upd_same) rfl rfl (r_bl (if_f rfl ?_))⟩
            have s2 := s1.trans (Same.upd (o := .tup [.int 6, .int 7]) h2)
            repeat walk_at "kc"
            refine ⟨sz_ok, fun p3 h3 => ?_⟩
            have s3 := s2.trans (Same.upd (o := .tup [.int ((1 : Nat) : Int)]) h3)
            repeat walk_at "kc"
            refine ⟨sz_ok, fun p4 h4 => ?_⟩
            have k4 := Same.upd (o := .tup [.ref p3, .int ((a : Int) + 1)]) h4
            exact q _ p4 (.ref p3) (a + 1) (s3.trans k4) hlen upd_same ⟨p3, rfl, k4 _ _ upd_same⟩
          · -- a name
            refine if_t (by decide) ?_
            repeat walk_at "kc"
            refine ⟨p, ns, a + 1, _, rfl, hp, fun z hz hz4 => ?_, fun h4 => ?_⟩
            · cases rest with
              | nil => rw [List.getElem?_eq_none_iff.mpr (by simp at hlen; omega)] at hz; cases hz
              | cons y r2 =>
                obtain ⟨hy, _, hlen2⟩ := drop_cons hrest
                rw [hy] at hz
                have ez := Option.some.inj hz
                subst ez
                have e : Oc.read (n + 1) (2 :: y :: r2) = some (.name y, r2) := by
                  show (if y < Oc.NAMES then some (C.name y, r2) else none) = _
                  rw [if_pos (by show y < 4; omega)]
                rw [e] at q
                repeat walk_at "kc"
                refine ⟨sz_ok, fun p3 h3 => ?_⟩
                have s3 := Same.upd (o := .tup [.int ((2 : Nat) : Int), .int (y : Nat)]) h3
                repeat walk_at "kc"
                refine ⟨sz_ok, fun p4 h4 => ?_⟩
                have k4 := Same.upd (o := .tup [.ref p3, .int ((a : Int) + 2)]) h4
                exact q _ p4 (.ref p3) (a + 2) (s3.trans k4) (by omega) upd_same ⟨p3, rfl, k4 _ _ upd_same⟩
            · have e : Oc.read (n + 1) (2 :: rest) = none := by
                cases rest with
                | nil => rfl
                | cons y r2 =>
                  obtain ⟨hy, _, hlen2⟩ := drop_cons hrest
                  have := h4 y hy
                  show (if y < Oc.NAMES then some (C.name y, r2) else none) = _
                  rw [if_neg (by show ¬ y < 4; omega)]
              rw [e] at q
              exact q
          · -- both
            refine if_f (by decide) ?_
            repeat walk_at "kc"
            refine ⟨sz_ok, fun p1 h1 => r_inT (.of upd_same) rfl rfl (r_bl (if_t rfl ?_))⟩
            have s1 := Same.upd (o := .tup [.int 3, .int 4]) h1
            have e0 : Oc.read (n + 1) (3 :: rest) = match Oc.read n rest with | none => none | some x => (Oc.read n x.2).map fun y => (.and x.1 y.1, y.2) := rfl
            rw [e0] at q
            repeat walk_at "kc"
            refine ⟨p, ns, a + 1, rfl, s1 _ _ hp, by omega, by omega, ?_⟩
            rw [hrest]
            cases h5 : Oc.read n rest with
            | none => rw [h5] at q; exact fun d H' s k => q d H' (s1.trans s) k
            | some x =>
              obtain ⟨c1, r1⟩ := x
              rw [h5] at q
              intro H3 t v b s3 hb ht hc1
              obtain ⟨pre, ep, _⟩ := read_suf h5
              have hdb := drop_suf (hrest.trans ep) hb
              refine r_gTup ht rfl ?_
              repeat walk_at "kc"
              refine ⟨p, ns, b, rfl, s3 _ _ (s1 _ _ hp), by omega, by have := congrArg List.length ep; simp at this; omega, ?_⟩
              rw [hdb]
              cases h6 : Oc.read n r1 with
              | none => simp only [h6] at q; exact fun d H' s k => q d H' ((s1.trans s3).trans s) k
              | some y =>
                obtain ⟨c2, r2⟩ := y
                simp only [h6] at q
                intro H4 t2 v2 b2 s4 hb2 ht2 hc2
                refine r_gTup ht2 rfl ?_
                repeat walk_at "kc"
                refine ⟨sz_ok, fun p3 h3 => ?_⟩
                have k3 := Same.upd (o := .tup [.int ((3 : Nat) : Int), v, v2]) h3
                repeat walk_at "kc"
                refine ⟨sz_ok, fun p4 h4 => ?_⟩
                have k4 := Same.upd (o := .tup [.ref p3, .int (b2 : Nat)]) h4
                exact q _ p4 (.ref p3) b2 (((s1.trans s3).trans s4).trans (k3.trans k4)) hb2 upd_same ⟨p3, v, v2, rfl, k4 _ _ upd_same, hc1.mono (s4.trans (k3.trans k4)).tups, hc2.mono (k3.trans k4).tups⟩
          · -- either
            refine if_f (by decide) ?_
            repeat walk_at "kc"
            refine ⟨sz_ok, fun p1 h1 => r_inT (.of upd_same) rfl rfl (r_bl (if_t rfl ?_))⟩
            have s1 := Same.upd (o := .tup [.int 3, .int 4]) h1
            have e0 : Oc.read (n + 1) (4 :: rest) = match Oc.read n rest with | none => none | some x => (Oc.read n x.2).map fun y => (.or x.1 y.1, y.2) := rfl
            rw [e0] at q
            repeat walk_at "kc"
            refine ⟨p, ns, a + 1, rfl, s1 _ _ hp, by omega, by omega, ?_⟩
            rw [hrest]
            cases h5 : Oc.read n rest with
            | none => rw [h5] at q; exact fun d H' s k => q d H' (s1.trans s) k
            | some x =>
              obtain ⟨c1, r1⟩ := x
              rw [h5] at q
              intro H3 t v b s3 hb ht hc1
              obtain ⟨pre, ep, _⟩ := read_suf h5
              have hdb := drop_suf (hrest.trans ep) hb
              refine r_gTup ht rfl ?_
              repeat walk_at "kc"
              refine ⟨p, ns, b, rfl, s3 _ _ (s1 _ _ hp), by omega, by have := congrArg List.length ep; simp at this; omega, ?_⟩
              rw [hdb]
              cases h6 : Oc.read n r1 with
              | none => simp only [h6] at q; exact fun d H' s k => q d H' ((s1.trans s3).trans s) k
              | some y =>
                obtain ⟨c2, r2⟩ := y
                simp only [h6] at q
                intro H4 t2 v2 b2 s4 hb2 ht2 hc2
                refine r_gTup ht2 rfl ?_
                repeat walk_at "kc"
                refine ⟨sz_ok, fun p3 h3 => ?_⟩
                have k3 := Same.upd (o := .tup [.int ((4 : Nat) : Int), v, v2]) h3
                repeat walk_at "kc"
                refine ⟨sz_ok, fun p4 h4 => ?_⟩
                have k4 := Same.upd (o := .tup [.ref p3, .int (b2 : Nat)]) h4
                exact q _ p4 (.ref p3) b2 (((s1.trans s3).trans s4).trans (k3.trans k4)) hb2 upd_same ⟨p3, v, v2, rfl, k4 _ _ upd_same, hc1.mono (s4.trans (k3.trans k4)).tups, hc2.mono (k3.trans k4).tups⟩
          · -- not
            refine if_f (by decide) ?_
            repeat walk_at "kc"
            refine ⟨sz_ok, fun p1 h1 => r_inT (.of upd_same) rfl rfl (r_bl (if_f rfl ?_))⟩
            have s1 := Same.upd (o := .tup [.int 3, .int 4]) h1
            have e0 : Oc.read (n + 1) (5 :: rest) = (Oc.read n rest).map fun x => (.not x.1, x.2) := rfl
            rw [e0] at q
            repeat walk_at "kc"
            refine if_t (by decide) ?_
            repeat walk_at "kc"
            refine ⟨p, ns, a + 1, rfl, s1 _ _ hp, by omega, by omega, ?_⟩
            rw [hrest]
            cases h5 : Oc.read n rest with
            | none => rw [h5] at q; exact fun d H' s k => q d H' (s1.trans s) k
            | some x =>
              obtain ⟨c1, r1⟩ := x
              rw [h5] at q
              intro H3 t v b s3 hb ht hc1
              refine r_gTup ht rfl ?_
              repeat walk_at "kc"
              refine ⟨sz_ok, fun p3 h3 => ?_⟩
              have k3 := Same.upd (o := .tup [.int ((5 : Nat) : Int), v]) h3
              repeat walk_at "kc"
              refine ⟨sz_ok, fun p4 h4 => ?_⟩
              have k4 := Same.upd (o := .tup [.ref p3, .int (b : Nat)]) h4
              exact q _ p4 (.ref p3) b ((s1.trans s3).trans (k3.trans k4)) hb upd_same ⟨p3, v, rfl, k4 _ _ upd_same, hc1.mono (k3.trans k4).tups⟩
          · -- some
            refine if_f (by decide) ?_
            repeat walk_at "kc"
            refine ⟨sz_ok, fun p1 h1 => r_inT (.of upd_same) rfl rfl (r_bl (if_f rfl ?_))⟩
            have s1 := Same.upd (o := .tup [.int 3, .int 4]) h1
            repeat walk_at "kc"
            refine if_f (by decide) ?_
            repeat walk_at "kc"
            refine ⟨sz_ok, fun p2 h2 => r_inT (.of upd_same) rfl rfl (r_bl (if_t rfl ?_))⟩
            have s2 := s1.trans (Same.upd (o := .tup [.int 6, .int 7]) h2)
            repeat walk_at "kc"
            refine ⟨p, ns, a + 1, _, rfl, s2 _ _ hp, fun z hz hz2 => ?_, fun h4 => ?_⟩
            · cases rest with
              | nil => rw [List.getElem?_eq_none_iff.mpr (by simp at hlen; omega)] at hz; cases hz
              | cons y r2 =>
                obtain ⟨hy, hrest2, hlen2⟩ := drop_cons hrest
                rw [hy] at hz
                have ez := Option.some.inj hz
                subst ez
                have e : Oc.read (n + 1) (6 :: y :: r2) = (Oc.read n r2).map fun x => (.some y x.1, x.2) := by
                  show (if y < Oc.ROLES then (Oc.read n r2).map fun x => (C.some y x.1, x.2) else none) = _
                  rw [if_pos (by show y < 2; omega)]
                rw [e] at q
                repeat walk_at "kc"
                refine ⟨p, ns, a + 2, rfl, s2 _ _ hp, by omega, by omega, ?_⟩
                rw [hrest2]
                cases h5 : Oc.read n r2 with
                | none => rw [h5] at q; exact fun d H' s k => q d H' (s2.trans s) k
                | some x =>
                  obtain ⟨c1, r1⟩ := x
                  rw [h5] at q
                  intro H3 t v b s3 hb ht hc1
                  refine r_gTup ht rfl ?_
                  repeat walk_at "kc"
                  refine ⟨sz_ok, fun p3 h3 => ?_⟩
                  have k3 := Same.upd (o := .tup [.int ((6 : Nat) : Int), .int (y : Nat), v]) h3
                  repeat walk_at "kc"
                  refine ⟨sz_ok, fun p4 h4 => ?_⟩
                  have k4 := Same.upd (o := .tup [.ref p3, .int (b : Nat)]) h4
                  exact q _ p4 (.ref p3) b ((s2.trans s3).trans (k3.trans k4)) hb upd_same ⟨p3, v, rfl, k4 _ _ upd_same, hc1.mono (k3.trans k4).tups⟩
            · have e : Oc.read (n + 1) (6 :: rest) = none := by
                cases rest with
                | nil => rfl
                | cons y r2 =>
                  obtain ⟨hy, _, hlen2⟩ := drop_cons hrest
                  have := h4 y hy
                  show (if y < Oc.ROLES then (Oc.read n r2).map fun x => (C.some y x.1, x.2) else none) = _
                  rw [if_neg (by show ¬ y < 2; omega)]
              rw [e] at q
              exact fun d H' s k => q d H' (s2.trans s) k
          · -- all
            refine if_f (by decide) ?_
            repeat walk_at "kc"
            refine ⟨sz_ok, fun p1 h1 => r_inT (.of upd_same) rfl rfl (r_bl (if_f rfl ?_))⟩
            have s1 := Same.upd (o := .tup [.int 3, .int 4]) h1
            repeat walk_at "kc"
            refine if_f (by decide) ?_
            repeat walk_at "kc"
            refine ⟨sz_ok, fun p2 h2 => r_inT (.of upd_same) rfl rfl (r_bl (if_t rfl ?_))⟩
            have s2 := s1.trans (Same.upd (o := .tup [.int 6, .int 7]) h2)
            repeat walk_at "kc"
            refine ⟨p, ns, a + 1, _, rfl, s2 _ _ hp, fun z hz hz2 => ?_, fun h4 => ?_⟩
            · cases rest with
              | nil => rw [List.getElem?_eq_none_iff.mpr (by simp at hlen; omega)] at hz; cases hz
              | cons y r2 =>
                obtain ⟨hy, hrest2, hlen2⟩ := drop_cons hrest
                rw [hy] at hz
                have ez := Option.some.inj hz
                subst ez
                have e : Oc.read (n + 1) (7 :: y :: r2) = (Oc.read n r2).map fun x => (.all y x.1, x.2) := by
                  show (if y < Oc.ROLES then (Oc.read n r2).map fun x => (C.all y x.1, x.2) else none) = _
                  rw [if_pos (by show y < 2; omega)]
                rw [e] at q
                repeat walk_at "kc"
                refine ⟨p, ns, a + 2, rfl, s2 _ _ hp, by omega, by omega, ?_⟩
                rw [hrest2]
                cases h5 : Oc.read n r2 with
                | none => rw [h5] at q; exact fun d H' s k => q d H' (s2.trans s) k
                | some x =>
                  obtain ⟨c1, r1⟩ := x
                  rw [h5] at q
                  intro H3 t v b s3 hb ht hc1
                  refine r_gTup ht rfl ?_
                  repeat walk_at "kc"
                  refine ⟨sz_ok, fun p3 h3 => ?_⟩
                  have k3 := Same.upd (o := .tup [.int ((7 : Nat) : Int), .int (y : Nat), v]) h3
                  repeat walk_at "kc"
                  refine ⟨sz_ok, fun p4 h4 => ?_⟩
                  have k4 := Same.upd (o := .tup [.ref p3, .int (b : Nat)]) h4
                  exact q _ p4 (.ref p3) b ((s2.trans s3).trans (k3.trans k4)) hb upd_same ⟨p3, v, rfl, k4 _ _ upd_same, hc1.mono (k3.trans k4).tups⟩
            · have e : Oc.read (n + 1) (7 :: rest) = none := by
                cases rest with
                | nil => rfl
                | cons y r2 =>
                  obtain ⟨hy, _, hlen2⟩ := drop_cons hrest
                  have := h4 y hy
                  show (if y < Oc.ROLES then (Oc.read n r2).map fun x => (C.all y x.1, x.2) else none) = _
                  rw [if_neg (by show ¬ y < 2; omega)]
              rw [e] at q
              exact fun d H' s k => q d H' (s2.trans s) k
end
end KC

/-! ## KcCon4 -/
namespace KC
open PySem PySem.Spec PyProof.Rows L2
open Oc (C Axiom)
open Oc11 (House)
local macro_rules | `(tactic| walk_at "kc") => `(tactic| with_reducible (first
  | refine r_seq ?_ | refine r_ifS ?_ | refine r_asg ?_ | refine r_ret ?_ | refine r_drop ?_ | refine r_next ?_
  | refine r_op ?_ | refine r_c ?_ | refine r_cons ?_ | refine r_nil ?_ | refine r_cl ?_ | refine r_cx ?_ | refine r_cb ?_
  | refine r_test ?_ | refine r_B ?_ | refine r_and ?_ | refine r_or ?_ | refine r_not ?_ | refine r_bl ?_
  | refine r_notV ?_ | refine r_andV ?_ | refine r_orV ?_ | refine r_tup ?_ | refine r_lst ?_ | refine r_ifE ?_
  | refine r_for ?_ | refine r_lc ?_ | refine r_yes ?_ | refine r_sFld ?_ | refine r_fld ?_ | refine r_par ?_ | refine r_rng1 ?_ | refine r_enum ?_ | refine r_zip3 ?_ | refine r_raise ?_ | refine r_list ?_ | refine r_bm ?_ | refine r_I0 ?_ | refine r_eqI ?_ | refine r_eqB ?_ | refine r_neI ?_ | refine r_gName ?_ | refine r_gCons ?_ | refine r_gNil ?_
  | (refine r_var (by with_unfolding_all rfl) ?_)))
section
variable {P : Program} {w : World} {K : PySem.W.Frag} {mg : Str → Option Value} {base : Heap} {CR fI Cl aD aS aR : Addr}
/-! ### concepts_in -/
theorem read_fuel : ∀ (n m : Nat) (l : List Nat), l.length < n → l.length < m → Oc.read n l = Oc.read m l
  | 0, _, l, h, _ => by omega
  | n + 1, 0, l, _, h => by omega
  | n + 1, m + 1, [], _, _ => rfl
  | n + 1, m + 1, x :: r, hn, hm => by
    have hn' : r.length < n := by simpa using hn
    have hm' : r.length < m := by simpa using hm
    have two : ∀ (f : C → C → C), ((match Oc.read n r with | none => none | some x => (Oc.read n x.2).map fun y : C × List Nat => (f x.1 y.1, y.2)) : Option (C × List Nat)) = (match Oc.read m r with | none => none | some x => (Oc.read m x.2).map fun y : C × List Nat => (f x.1 y.1, y.2)) := fun f => by
      rw [read_fuel n m r hn' hm']
      cases e : Oc.read m r with
      | none => rfl
      | some y =>
        obtain ⟨c, r2⟩ := y
        obtain ⟨pre, ep, _⟩ := read_suf e
        have hl := congrArg List.length ep
        rw [List.length_append] at hl
        simp only
        rw [read_fuel n m r2 (by omega) (by omega)]
    by_cases h8 : 8 ≤ x
    · rw [read_big h8, read_big h8]
    · have cases8 : x = 0 ∨ x = 1 ∨ x = 2 ∨ x = 3 ∨ x = 4 ∨ x = 5 ∨ x = 6 ∨ x = 7 := by omega
      rcases cases8 with e | e | e | e | e | e | e | e <;> subst e
      · rfl
      · rfl
      · cases r with
        | nil => rfl
        | cons y r2 => rfl
      · exact two .and
      · exact two .or
      · show (Oc.read n r).map _ = (Oc.read m r).map _
        rw [read_fuel n m r hn' hm']
      · cases r with
        | nil => rfl
        | cons y r2 =>
          show (if y < Oc.ROLES then (Oc.read n r2).map _ else none) = (if y < Oc.ROLES then (Oc.read m r2).map _ else none)
          rw [read_fuel n m r2 (by simp at hn'; omega) (by simp at hm'; omega)]
      · cases r with
        | nil => rfl
        | cons y r2 =>
          show (if y < Oc.ROLES then (Oc.read n r2).map _ else none) = (if y < Oc.ROLES then (Oc.read m r2).map _ else none)
          rw [read_fuel n m r2 (by simp at hn'; omega) (by simp at hm'; omega)]
/-- so many concepts, no more -/
def CI : Nat → List C → List Nat → Option (List C)
  | 0, acc, rem => if rem = [] then some acc else none
  | k + 1, acc, rem => match Oc.read (rem.length + 1) rem with
    | none => none
    | some x => CI k (acc ++ [x.1]) x.2
theorem CI_zero (acc : List C) (rem : List Nat) : CI 0 acc rem = if rem = [] then some acc else none := rfl
theorem CI_succ (k : Nat) (acc : List C) (rem : List Nat) : CI (k + 1) acc rem = match Oc.read (rem.length + 1) rem with
    | none => none
    | some x => CI k (acc ++ [x.1]) x.2 := rfl
theorem CI_one (l : List Nat) : CI 1 [] l = (Oc.concept l).map fun c => [c] := by
  unfold CI Oc.concept
  cases Oc.read (l.length + 1) l with
  | none => rfl
  | some x =>
    obtain ⟨c, r⟩ := x
    cases r <;> simp [CI]
theorem CI_two (l : List Nat) : CI 2 [] l = (Oc.two l).map fun x => [x.1, x.2] := by
  unfold CI Oc.two
  cases Oc.read (l.length + 1) l with
  | none => rfl
  | some x =>
    obtain ⟨c, r⟩ := x
    simp only
    unfold CI Oc.concept
    cases Oc.read (r.length + 1) r with
    | none => rfl
    | some y =>
      obtain ⟨d, r2⟩ := y
      cases r2 <;> simp [CI]
theorem CI_small : ∀ {k : Nat} {acc cs : List C} {rem : List Nat}, CI k acc rem = some cs → rem.length ≤ 30 → Small acc → Small cs
  | 0, acc, cs, rem, h, _, z => by
    unfold CI at h
    split at h
    · cases h; exact z
    · cases h
  | k + 1, acc, cs, rem, h, hl, z => by
    unfold CI at h
    cases e : Oc.read (rem.length + 1) rem with
    | none => rw [e] at h; cases h
    | some x =>
      obtain ⟨c, r⟩ := x
      rw [e] at h
      obtain ⟨pre, ep, el⟩ := read_suf e
      have hlen := congrArg List.length ep
      rw [List.length_append] at hlen
      refine CI_small h (by simp only; omega) fun d hd => ?_
      rcases List.mem_append.mp hd with hd | hd
      · exact z d hd
      · have : d = c := by simpa using hd
        subst this
        omega
theorem CI_len : ∀ {k : Nat} {acc cs : List C} {rem : List Nat}, CI k acc rem = some cs → cs.length = acc.length + k
  | 0, acc, cs, rem, h => by
    unfold CI at h
    split at h
    · cases h; rfl
    · cases h
  | k + 1, acc, cs, rem, h => by
    unfold CI at h
    cases e : Oc.read (rem.length + 1) rem with
    | none => rw [e] at h; cases h
    | some x =>
      rw [e] at h
      have := CI_len h
      simp at this
      omega
abbrev s_concepts_in : Stmt := topS 17
abbrev N_concepts_in : List Str := ["numbers", "many", "found", "at", "turn", "one"]
theorem sc_concepts_in : FnScope N_concepts_in ["numbers", "many"] (defScope s_concepts_in) := ⟨rfl, rfl, rfl, by decide +kernel, rfl, by decide +kernel, by decide +kernel⟩
def CIend (CR : Addr) (H : Hp) (Q : VK) (E : XK) (x : Option (List C)) : Prop := match x with
  | some cs => ∀ (H' : Hp) (t : Addr), Same H H' → H t = none → LAt ConAt H' t cs → Q (.ref t) H'
  | none => RF CR (-1) H E
def spCI (CR : Addr) : Sp := fun vs H Q E => ∃ (p : Addr) (ns : List Nat) (k : Nat), vs = [.ref p, .int (k : Nat)] ∧ H p = some (.lst (nV ns)) ∧ ns.length ≤ 30 ∧ k ≤ 2 ∧ CIend CR H Q E (CI k [] ns)
theorem d_concepts_in (T : Txt K mg CR fI Cl aD aS aR) (D_concept_from : DefOk P w K mg base (L2.CX P w) 35 "concept_from" (spCF CR 31)) (G : Glob K mg "concepts_in" s_concepts_in) : DefOk P w K mg base (L2.CX P w) 36 "concepts_in" (spCI CR) := by
  refine mkDef (ps := ["numbers", "many"]) G (fun _ _ _ _ _ _ us hl => match us, hl with | [_, _], _ => rfl) fun f fd F => F.okX sc_concepts_in (fun vs H Q E h => ?_) fun cdv A outer s H vs Q E hr h => ⟨_, ((pss_cons (ps_set (i := 2) sc_concepts_in.nd rfl (Or.inl rfl) (pe_lst pa_nil))
    (pss_cons (ps_set (i := 3) sc_concepts_in.nd rfl (Or.inl rfl) pe_int)
    (pss_cons (ps_for (passes_of rfl) rfl (pi_range1 (by rfl) T.b_range (pa_cons (pv 1) pa_nil)) (pg_name (i := 4) sc_concepts_in.nd rfl (Or.inl rfl))
      (pss_cons (ps_asg (pe_cx D_concept_from (takes_of rfl rfl rfl rfl) (hr.mono (by decide)) (by exact (pa_cons (pv 0) (pa_cons (pv 3) pa_nil)))) (pg_tup rfl (pgs_cons (pg_name (i := 5) sc_concepts_in.nd rfl (Or.inl rfl)) (pgs_cons (pg_name (i := 3) sc_concepts_in.nd rfl (Or.inl rfl)) pgs_nil))))
      (pss_one (ps_expr (pe_bm PySem.F.plainAttrs_list PySem.F.slot_list_append PySem.F.type_list_append mt_append (pv 2) (pa_cons (pv 5) pa_nil))))))
    (pss_cons (ps_if (pt_cmpR op_ne (pv 3) (pe_callB call_len_seq (by rfl) T.b_len boot_len_ (pa_cons (pv 0) pa_nil)) (nomark _))
      (pss_one (ps_raiseLow rfl T.low hr (takes_of rfl rfl rfl rfl) (by exact (pa_cons (pe_gint (by rfl) T.c_NO_CONCEPT) pa_nil))))
      pss_nil)
    (pss_one (ps_ret (pv 2)))))))), ?_⟩
  · obtain ⟨p, ns, k, rfl, _⟩ := h; rfl
  · obtain ⟨p, ns, k, rfl, hp, hl, hk, q⟩ := h
    repeat walk_at "kc"
    refine ⟨sz_ok, fun l hln => ?_⟩
    repeat walk_at "kc"
    have s1 : Same H (upd H l (.lst [])) := Same.upd hln
    refine ⟨k, rfl, by omega, by omega, for_range (lo := 0) (n := k) (fun i σ H' => ∃ (v4 v5 : Option V) (b : Nat) (rem : List Nat) (acc : List C), σ = [some (.ref p), some (.int (k : Nat)), some (.ref l), some (.int (b : Nat)), v4, v5] ∧ Same H H' ∧ b + rem.length = ns.length ∧ ns.drop b = rem ∧ CI k [] ns = CI (k - i) acc rem ∧ acc.length ≤ i ∧ ∃ vs, H' l = some (.lst vs) ∧ Al (ConAt H') acc vs) ?_ ?_ ?_⟩
    · exact ⟨none, none, 0, ns, [], rfl, s1, by simp, rfl, rfl, Nat.le_refl _, [], upd_same, trivial⟩
    · rintro i σ H' hi ⟨v4, v5, b, rem, acc, rfl, s2, hb, hd, eq, ha, vs, hvs, av⟩
      have ek : k - i = (k - (i + 1)) + 1 := by omega
      rw [ek, CI_succ] at eq
      repeat walk_at "kc"
      refine ⟨p, ns, b, rfl, s2 _ _ hp, by omega, by omega, ?_⟩
      rw [hd, read_fuel 31 (rem.length + 1) rem (by omega) (by omega)]
      cases e : Oc.read (rem.length + 1) rem with
      | none =>
        rw [e] at eq
        simp only at eq
        rw [show CI k [] ns = none from eq] at q
        exact fun d H' s k => q d H' (s2.trans s) k
      | some x =>
        obtain ⟨c, r⟩ := x
        rw [e] at eq
        simp only at eq
        intro H3 t v b2 s3 hb2 ht hc
        refine r_gTup ht rfl ?_
        repeat walk_at "kc"
        have hvs3 := s3 _ _ hvs
        refine ⟨tyL hvs3, ?_⟩
        repeat walk_at "kc"
        refine r_append hvs3 (line_lt (by rw [← av.length]; omega)) ?_
        have tl : Tups H3 (upd H3 l (.lst (vs ++ [v]))) := Tups.lst hvs3
        obtain ⟨pre, ep, _⟩ := read_suf e
        refine ⟨_, some v, b2, r, acc ++ [c], rfl, (s2.trans s3).put hln, hb2, drop_suf (hd.trans ep) hb2, eq, by simp; omega, vs ++ [v], upd_same, (av.mono fun _ _ z => z.mono (s3.tups.trans tl)).app (.one (hc.mono tl))⟩
    · rintro σ H' ⟨v4, v5, b, rem, acc, rfl, s2, hb, hd, eq, ha, vs, hvs, av⟩
      rw [Nat.sub_self, CI_zero] at eq
      repeat walk_at "kc"
      refine ⟨p, nV ns, rfl, .inl (.of (s2 _ _ hp)), ?_⟩
      rw [nV_len]
      refine r_neI (r_bl ?_)
      refine if_by (c' := decide (rem ≠ [])) (by
        cases rem with
        | nil => simp at hb; simp; omega
        | cons x r => simp at hb; simp; omega) (fun e => ?_) (fun e => ?_)
      · have e := of_decide_eq_true e
        rw [if_neg e] at eq
        rw [eq] at q
        repeat walk_at "kc"
        exact RF.go q s2
      · have e : rem = [] := by simpa using e
        rw [if_pos e] at eq
        rw [eq] at q
        repeat walk_at "kc"
        exact q H' l s2 hln ⟨vs, hvs, av⟩
end
end KC

/-! ## KcKin -/
namespace KC
open PySem PySem.Spec PyProof.Rows L2
open Oc (C Axiom)
open Oc11 (House)
local macro_rules | `(tactic| walk_at "kc") => `(tactic| with_reducible (first
  | refine r_seq ?_ | refine r_ifS ?_ | refine r_asg ?_ | refine r_ret ?_ | refine r_drop ?_ | refine r_next ?_
  | refine r_op ?_ | refine r_c ?_ | refine r_cons ?_ | refine r_nil ?_ | refine r_cl ?_ | refine r_cx ?_ | refine r_cb ?_
  | refine r_test ?_ | refine r_B ?_ | refine r_and ?_ | refine r_or ?_ | refine r_not ?_ | refine r_bl ?_
  | refine r_notV ?_ | refine r_andV ?_ | refine r_orV ?_ | refine r_tup ?_ | refine r_lst ?_ | refine r_ifE ?_
  | refine r_for ?_ | refine r_lc ?_ | refine r_yes ?_ | refine r_sFld ?_ | refine r_fld ?_ | refine r_par ?_ | refine r_rng1 ?_ | refine r_enum ?_ | refine r_zip3 ?_ | refine r_raise ?_ | refine r_list ?_ | refine r_bm ?_ | refine r_I0 ?_ | refine r_eqI ?_ | refine r_eqB ?_ | refine r_neI ?_ | refine r_gName ?_ | refine r_gCons ?_ | refine r_gNil ?_
  | (refine r_var (by with_unfolding_all rfl) ?_)))
section
variable {P : Program} {w : World} {K : PySem.W.Frag} {mg : Str → Option Value} {base : Heap} {CR fI Cl aD aS aR : Addr}
/-- atoms as the house has them -/
structure AtS (as : List C) : Prop where
  ok : KM.AtOk as
  sm : Small as
  le : as.length ≤ 6
/-! ### holds -/
abbrev s_holds : Stmt := topS 24
abbrev N_holds : List Str := ["concept", "kind", "atoms", "word"]
theorem sc_holds : FnScope N_holds ["concept", "kind", "atoms"] (defScope s_holds) := ⟨rfl, rfl, rfl, by decide +kernel, rfl, by decide +kernel, by decide +kernel⟩
def spHolds (n : Nat) : Sp := fun vs H Q _ => ∃ (cv kv : V) (pa : Addr) (c : C) (t : Nat) (as : List C), vs = [cv, kv, .ref pa] ∧ ConAt H c cv ∧ KAt as.length H t kv ∧ LAt ConAt H pa as ∧ AtS as ∧ KM.Sub c as ∧ KM.size c ≤ n ∧ KM.size c ≤ 30 ∧
  ∀ H', Same H H' → Q (.bl (Oc.holds as t c)) H'
theorem b01_one (b : Bool) : decide (b01 b = 1) = b := by cases b <;> rfl
theorem d_holds (T : Txt K mg CR fI Cl aD aS aR) (G : Glob K mg "holds" s_holds) : ∀ n, DefOk P w K mg base CX0 (n + 1) "holds" (spHolds n) := by
  intro n
  induction n with
  | zero =>
    have no : ∀ vs H Q E, ¬ spHolds 0 vs H Q E := fun vs H Q E ⟨cv, kv, pa, c, t, as, _, _, _, _, _, _, h, _⟩ => by have := KM.size_pos c; omega
    exact mkDef (ps := ["concept", "kind", "atoms"]) G (fun _ _ _ _ _ _ us hl => match us, hl with | [_, _, _], _ => rfl) fun f fd F => F.ok sc_holds (fun vs H Q E h => (no _ _ _ _ h).elim) fun cdv A outer s H vs Q E hr h => (no _ _ _ _ h).elim
  | succ n D_holds =>
    refine mkDef (ps := ["concept", "kind", "atoms"]) G (fun _ _ _ _ _ _ us hl => match us, hl with | [_, _, _], _ => rfl) fun f fd F => F.ok sc_holds (fun vs H Q E h => ?_) fun cdv A outer s H vs Q E hr h => ⟨_, ((pss_cons (ps_set (i := 3) sc_holds.nd rfl (Or.inl rfl) (pe_ix ix_tup (pv 0) pe_int (fun _ _ => rfl)))
    (pss_cons (ps_if (pt_cmpR op_eq (pv 3) (pe_gint (by rfl) T.c_EVERYTHING) (nomark _))
      (pss_one (ps_ret pe_bl))
      pss_nil)
    (pss_cons (ps_if (pt_cmpR op_eq (pv 3) (pe_gint (by rfl) T.c_NOTHING) (nomark _))
      (pss_one (ps_ret pe_bl))
      pss_nil)
    (pss_cons (ps_if (pt_cmpR op_eq (pv 3) (pe_gint (by rfl) T.c_BOTH) (nomark _))
      (pss_one (ps_ret (pe_and (pe_cl D_holds (hr.mono (by omega)) (by exact (pa_cons (pe_ix ix_tup (pv 0) pe_int (fun _ _ => rfl)) (pa_cons (pv 1) (pa_cons (pv 2) pa_nil))))) (pe_one (pe_cl D_holds (hr.mono (by omega)) (by exact (pa_cons (pe_ix ix_tup (pv 0) pe_int (fun _ _ => rfl)) (pa_cons (pv 1) (pa_cons (pv 2) pa_nil)))))))))
      pss_nil)
    (pss_cons (ps_if (pt_cmpR op_eq (pv 3) (pe_gint (by rfl) T.c_EITHER) (nomark _))
      (pss_one (ps_ret (pe_or (pe_cl D_holds (hr.mono (by omega)) (by exact (pa_cons (pe_ix ix_tup (pv 0) pe_int (fun _ _ => rfl)) (pa_cons (pv 1) (pa_cons (pv 2) pa_nil))))) (pe_one (pe_cl D_holds (hr.mono (by omega)) (by exact (pa_cons (pe_ix ix_tup (pv 0) pe_int (fun _ _ => rfl)) (pa_cons (pv 1) (pa_cons (pv 2) pa_nil)))))))))
      pss_nil)
    (pss_cons (ps_if (pt_cmpR op_eq (pv 3) (pe_gint (by rfl) T.c_NOT) (nomark _))
      (pss_one (ps_ret (pe_not (pe_cl D_holds (hr.mono (by omega)) (by exact (pa_cons (pe_ix ix_tup (pv 0) pe_int (fun _ _ => rfl)) (pa_cons (pv 1) (pa_cons (pv 2) pa_nil))))))))
      pss_nil)
    (pss_one (ps_ret (pe_cmpR op_eq (pe_ix ix_tup (pv 1) (pe_bm PySem.F.plainAttrs_list PySem.F.slot_list_index PySem.F.type_list_index (mt_indexD (hu65 hr)) (pv 2) (pa_cons (pv 0) pa_nil)) (fun _ _ => rfl)) pe_int (nomark _))))))))))), ?_⟩
    · obtain ⟨cv, kv, pa, c, t, as, rfl, _⟩ := h; rfl
    · obtain ⟨cv, kv, pa, c, t, as, rfl, hc, hk, ha, z, hsub, hn, h30, q⟩ := h
      have atom : ∀ a xs, cv = .ref a → H a = some (.tup (.int (word c) :: xs)) → KM.isAtom c = true → tSeq (tAsg (tOp (rIxT K) (tVar 0) (tC (V.int 0))) (gName 3))
            (tSeq (tIfS (tTest (tOp rEq (tVar 3) (tC (V.int 0)))) (tRet (tC (V.bl true))) tNext)
              (tSeq (tIfS (tTest (tOp rEq (tVar 3) (tC (V.int 1)))) (tRet (tC (V.bl false))) tNext)
                (tSeq (tIfS (tTest (tOp rEq (tVar 3) (tC (V.int 3)))) (tRet (tAndV (tCl (spHolds n) (tCons (tOp (rIxT K) (tVar 0) (tC (V.int 1))) (tCons (tVar 1) (tCons (tVar 2) tNil)))) (tCl (spHolds n) (tCons (tOp (rIxT K) (tVar 0) (tC (V.int 2))) (tCons (tVar 1) (tCons (tVar 2) tNil)))))) tNext)
                  (tSeq (tIfS (tTest (tOp rEq (tVar 3) (tC (V.int 4)))) (tRet (tOrV (tCl (spHolds n) (tCons (tOp (rIxT K) (tVar 0) (tC (V.int 1))) (tCons (tVar 1) (tCons (tVar 2) tNil)))) (tCl (spHolds n) (tCons (tOp (rIxT K) (tVar 0) (tC (V.int 2))) (tCons (tVar 1) (tCons (tVar 2) tNil)))))) tNext)
                    (tSeq (tIfS (tTest (tOp rEq (tVar 3) (tC (V.int 5)))) (tRet (tNotV (tCl (spHolds n) (tCons (tOp (rIxT K) (tVar 0) (tC (V.int 1))) (tCons (tVar 1) (tCons (tVar 2) tNil)))))) tNext)
                      (tRet (tOp rEq (tOp (rIxT K) (tVar 1) (tBM K "list" (rIndexD K) (tVar 2) (tCons (tVar 0) tNil))) (tC (V.int 1)))))))))
          { nx := fun _ H' => Q V.non H', rt := Q } (L2.start N_holds [cv, kv, .ref pa]) H := by
        intro a xs ea hx hat
        subst ea
        repeat walk_at "kc"
        refine r_ixT hx (j := 0) rfl rfl ?_
        repeat walk_at "kc"
        refine if_f (by cases c <;> simp [KM.isAtom] at hat <;> simp [word]) ?_
        repeat walk_at "kc"
        refine if_f (by cases c <;> simp [KM.isAtom] at hat <;> simp [word]) ?_
        repeat walk_at "kc"
        refine if_f (by cases c <;> simp [KM.isAtom] at hat <;> simp [word]) ?_
        repeat walk_at "kc"
        refine if_f (by cases c <;> simp [KM.isAtom] at hat <;> simp [word]) ?_
        repeat walk_at "kc"
        refine if_f (by cases c <;> simp [KM.isAtom] at hat <;> simp [word]) ?_
        repeat walk_at "kc"
        obtain ⟨va, hpa, la⟩ := ha
        obtain ⟨b, rfl, hb⟩ := hk
        have hmem : c ∈ as := hsub c (KM.atom_self hat)
        obtain ⟨j, ej, hj, hjc⟩ := KM.idx_some hmem
        refine ⟨tyL hpa, ?_⟩
        repeat walk_at "kc"
        refine ⟨pa, .ref a, cD c, as.map cD, j, cD c, rfl, rfl, LAt.dp ⟨va, hpa, la⟩ fun _ _ z => z.dp, hc.dp, list_shaped (n := 30) (fun y _ => cD_lay y) (fun y hy => Nat.le_trans (cD_depth y) (z.sm y hy)) (by omega), cD_shaped (by omega), ?_, ?_, ?_, ?_⟩
        · rw [List.getElem?_map, hjc]; rfl
        · rw [cD_eqv]; simp
        · intro m z' hm hz'
          rw [List.getElem?_map] at hz'
          cases ey : as[m]? with
          | none => rw [ey] at hz'; cases hz'
          | some y =>
            rw [ey] at hz'
            cases hz'
            rw [cD_eqv]
            apply decide_eq_false
            rintro rfl
            have := KM.idx_nodup z.ok.nd ey
            rw [ej] at this
            cases this
            omega
        · refine r_ixT hb (j := j) rfl (bitsV_at hj) ?_
          repeat walk_at "kc"
          rw [b01_one]
          have e : Oc.holds as t c = Oc.bit t j := by rw [KM.holds_atom hat, ej]
          rw [← e]
          exact q _ (Same.refl _)
      cases c with
      | top =>
        obtain ⟨a, rfl, hx⟩ := hc
        repeat walk_at "kc"
        refine r_ixT hx (j := 0) rfl rfl ?_
        repeat walk_at "kc"
        refine if_t rfl ?_
        repeat walk_at "kc"
        exact q _ (Same.refl _)
      | bot =>
        obtain ⟨a, rfl, hx⟩ := hc
        repeat walk_at "kc"
        refine r_ixT hx (j := 0) rfl rfl ?_
        repeat walk_at "kc"
        refine if_f rfl ?_
        repeat walk_at "kc"
        refine if_t rfl ?_
        repeat walk_at "kc"
        exact q _ (Same.refl _)
      | and c1 c2 =>
        obtain ⟨a, x, y, rfl, hx, h1, h2⟩ := hc
        have z1 := KM.size_pos c1
        have z2 := KM.size_pos c2
        simp only [KM.size] at hn h30
        repeat walk_at "kc"
        refine r_ixT hx (j := 0) rfl rfl ?_
        repeat walk_at "kc"
        refine if_f rfl ?_
        repeat walk_at "kc"
        refine if_f rfl ?_
        repeat walk_at "kc"
        refine if_t rfl ?_
        repeat walk_at "kc"
        refine r_ixT hx (j := 1) rfl rfl ?_
        repeat walk_at "kc"
        refine ⟨x, kv, pa, c1, t, as, rfl, h1, hk, ha, z, fun u hu => hsub u (by simp [C.atoms, hu]), by omega, by omega, fun H1 s1 => r_bl ?_⟩
        refine if_by rfl (fun e => ?_) (fun e => ?_)
        · repeat walk_at "kc"
          refine r_ixT (s1 _ _ hx) (j := 2) rfl rfl ?_
          repeat walk_at "kc"
          refine ⟨y, kv, pa, c2, t, as, rfl, h2.mono s1.tups, hk.mono s1.tups, ha.cos s1, z, fun u hu => hsub u (by simp [C.atoms, hu]), by omega, by omega, fun H2 s2 => ?_⟩
          have e2 : Oc.holds as t (.and c1 c2) = Oc.holds as t c2 := by show (Oc.holds as t c1 && _) = _; rw [e]; rfl
          rw [← e2]
          exact q _ (s1.trans s2)
        · have e2 : Oc.holds as t (.and c1 c2) = false := by show (Oc.holds as t c1 && _) = _; rw [e]; rfl
          rw [← e2]
          exact q _ s1
      | or c1 c2 =>
        obtain ⟨a, x, y, rfl, hx, h1, h2⟩ := hc
        have z1 := KM.size_pos c1
        have z2 := KM.size_pos c2
        simp only [KM.size] at hn h30
        repeat walk_at "kc"
        refine r_ixT hx (j := 0) rfl rfl ?_
        repeat walk_at "kc"
        refine if_f rfl ?_
        repeat walk_at "kc"
        refine if_f rfl ?_
        repeat walk_at "kc"
        refine if_f rfl ?_
        repeat walk_at "kc"
        refine if_t rfl ?_
        repeat walk_at "kc"
        refine r_ixT hx (j := 1) rfl rfl ?_
        repeat walk_at "kc"
        refine ⟨x, kv, pa, c1, t, as, rfl, h1, hk, ha, z, fun u hu => hsub u (by simp [C.atoms, hu]), by omega, by omega, fun H1 s1 => r_bl ?_⟩
        refine if_by rfl (fun e => ?_) (fun e => ?_)
        · have e2 : Oc.holds as t (.or c1 c2) = true := by show (Oc.holds as t c1 || _) = _; rw [e]; rfl
          rw [← e2]
          exact q _ s1
        · repeat walk_at "kc"
          refine r_ixT (s1 _ _ hx) (j := 2) rfl rfl ?_
          repeat walk_at "kc"
          refine ⟨y, kv, pa, c2, t, as, rfl, h2.mono s1.tups, hk.mono s1.tups, ha.cos s1, z, fun u hu => hsub u (by simp [C.atoms, hu]), by omega, by omega, fun H2 s2 => ?_⟩
          have e2 : Oc.holds as t (.or c1 c2) = Oc.holds as t c2 := by show (Oc.holds as t c1 || _) = _; rw [e]; rfl
          rw [← e2]
          exact q _ (s1.trans s2)
      | not c1 =>
        obtain ⟨a, x, rfl, hx, h1⟩ := hc
        simp only [KM.size] at hn h30
        repeat walk_at "kc"
        refine r_ixT hx (j := 0) rfl rfl ?_
        repeat walk_at "kc"
        refine if_f rfl ?_
        repeat walk_at "kc"
        refine if_f rfl ?_
        repeat walk_at "kc"
        refine if_f rfl ?_
        repeat walk_at "kc"
        refine if_f rfl ?_
        repeat walk_at "kc"
        refine if_t rfl ?_
        repeat walk_at "kc"
        refine r_ixT hx (j := 1) rfl rfl ?_
        repeat walk_at "kc"
        refine ⟨x, kv, pa, c1, t, as, rfl, h1, hk, ha, z, fun u hu => hsub u (by simp [C.atoms, hu]), by omega, by omega, fun H1 s1 => r_bl ?_⟩
        exact q _ s1
      | name b =>
        obtain ⟨a, rfl, hx⟩ := id hc
        exact atom a _ rfl hx rfl
      | some r c1 =>
        obtain ⟨a, x, rfl, hx, h1⟩ := id hc
        exact atom a _ rfl hx rfl
      | all r c1 =>
        obtain ⟨a, x, rfl, hx, h1⟩ := id hc
        exact atom a _ rfl hx rfl
end
end KC

/-! ## KcKin2 -/
namespace KC
open PySem PySem.Spec PyProof.Rows L2
open Oc (C Axiom)
open Oc11 (House)
local macro_rules | `(tactic| walk_at "kc") => `(tactic| with_reducible (first
  | refine r_seq ?_ | refine r_ifS ?_ | refine r_asg ?_ | refine r_ret ?_ | refine r_drop ?_ | refine r_next ?_
  | refine r_op ?_ | refine r_c ?_ | refine r_cons ?_ | refine r_nil ?_ | refine r_cl ?_ | refine r_cx ?_ | refine r_cb ?_
  | refine r_test ?_ | refine r_B ?_ | refine r_and ?_ | refine r_or ?_ | refine r_not ?_ | refine r_bl ?_
  | refine r_notV ?_ | refine r_andV ?_ | refine r_orV ?_ | refine r_tup ?_ | refine r_lst ?_ | refine r_ifE ?_
  | refine r_for ?_ | refine r_lc ?_ | refine r_yes ?_ | refine r_sFld ?_ | refine r_fld ?_ | refine r_par ?_ | refine r_rng1 ?_ | refine r_enum ?_ | refine r_zip3 ?_ | refine r_raise ?_ | refine r_list ?_ | refine r_bm ?_ | refine r_I0 ?_ | refine r_eqI ?_ | refine r_eqB ?_ | refine r_neI ?_ | refine r_gName ?_ | refine r_gCons ?_ | refine r_gNil ?_
  | (refine r_var (by with_unfolding_all rfl) ?_)))
section
variable {P : Program} {w : World} {K : PySem.W.Frag} {mg : Str → Option Value} {base : Heap} {CR fI Cl aD aS aR : Addr}
/-! ### insides -/
abbrev s_insides : Stmt := topS 25
abbrev N_insides : List Str := ["kind", "atoms", "atom"]
theorem sc_insides : FnScope N_insides ["kind", "atoms"] (defScope s_insides) := ⟨rfl, rfl, rfl, by decide +kernel, rfl, by decide +kernel, by decide +kernel⟩
theorem modal_inner {c : C} (h : modal c = true) : ∃ (r : Nat) (d : C), (c = .some r d ∨ c = .all r d) := by
  cases c <;> simp [modal] at h
  · exact ⟨_, _, .inl rfl⟩
  · exact ⟨_, _, .inr rfl⟩
theorem modal_at {H : Hp} {c : C} {v : V} (hc : ConAt H c v) (h : modal c = true) : ∃ (r : Nat) (d : C) (a : Addr) (x : V), (c = .some r d ∨ c = .all r d) ∧ v = .ref a ∧ H a = some (.tup [.int (word c), .int (r : Nat), x]) ∧ ConAt H d x := by
  cases c <;> simp [modal] at h
  · obtain ⟨a, x, e, hx, h1⟩ := hc
    exact ⟨_, _, a, x, .inl rfl, e, hx, h1⟩
  · obtain ⟨a, x, e, hx, h1⟩ := hc
    exact ⟨_, _, a, x, .inr rfl, e, hx, h1⟩
theorem inn_modal {as : List C} {t r : Nat} {c d : C} (h : c = .some r d ∨ c = .all r d) : inn as t c = Oc.holds as t d := by rcases h with rfl | rfl <;> rfl
theorem inn_else {as : List C} {t : Nat} {c : C} (h : modal c = false) : inn as t c = false := by cases c <;> simp [modal] at h <;> rfl
theorem inner_sub {as : List C} (z : AtS as) {r : Nat} {c d : C} (h : c = .some r d ∨ c = .all r d) (hc : c ∈ as) : KM.Sub d as ∧ KM.size d ≤ 30 := by
  have hz := z.sm c hc
  rcases h with rfl | rfl
  · exact ⟨z.ok.inner (.inl hc), by simp only [KM.size] at hz; omega⟩
  · exact ⟨z.ok.inner (.inr hc), by simp only [KM.size] at hz; omega⟩
def spIns : Sp := fun vs H Q _ => ∃ (kv : V) (pa : Addr) (t : Nat) (as : List C), vs = [kv, .ref pa] ∧ KAt as.length H t kv ∧ LAt ConAt H pa as ∧ AtS as ∧
  ∀ H' p, Same H H' → H p = none → H' p = some (.lst ((ins as t).map V.bl)) → Q (.ref p) H'
theorem d_insides (T : Txt K mg CR fI Cl aD aS aR) (D_is_modal : DefOk P w K mg base CX0 1 "is_modal" spModal) (D_holds : DefOk P w K mg base CX0 31 "holds" (spHolds 30)) (G : Glob K mg "insides" s_insides) : DefOk P w K mg base CX0 32 "insides" spIns := by
  refine mkDef (ps := ["kind", "atoms"]) G (fun _ _ _ _ _ _ us hl => match us, hl with | [_, _], _ => rfl) fun f fd F => F.ok sc_insides (fun vs H Q E h => ?_) fun cdv A outer s H vs Q E hr h => ⟨_, ((pss_one (ps_ret (pe_lc (own := [("atom", 2)]) (g := (gName 2)) (tt := tYes) rfl sc_insides.nd (pi_list (pv 1)) (blkOk_by (own := [("atom", 2)]) (N := N_insides) (sc := defScope s_insides) (by decide +kernel)) (fun _ _ _ _ _ => (pg_name (i := 2) sc_insides.nd rfl (Or.inl rfl))) (fun _ _ _ _ _ => pts_nil) (fun _ _ _ _ _ => (pe_and (pe_cl D_is_modal (hr.mono (by decide)) (by exact (pa_cons (pv 2) pa_nil))) (pe_one (pe_cl D_holds (hr.mono (by decide)) (by exact (pa_cons (pe_ix (ixT_K (K := K) rfl) (pv 2) pe_int (fun _ _ => rfl)) (pa_cons (pv 0) (pa_cons (pv 1) pa_nil)))))))))))), ?_⟩
  · obtain ⟨kv, pa, t, as, rfl, _⟩ := h; rfl
  · obtain ⟨kv, pa, t, as, rfl, hk, ⟨va, hpa, la⟩, z, q⟩ := h
    repeat walk_at "kc"
    refine ⟨pa, rfl, ⟨va, .of hpa⟩, fun D hD => lc_list (xs := va) (fun i H' => Same H H' ∧ H' D = some (.lst (((as.take i).map (inn as t)).map V.bl))) ?_ ?_ ?_ ?_⟩
    · exact ⟨Same.upd hD, upd_same⟩
    · rintro i H' _ ⟨s1, _⟩
      exact .of (s1 _ _ hpa)
    · rintro i x H' hx ⟨s1, e1⟩
      obtain ⟨c, hc, hcx⟩ := la.get hx
      have hm := List.mem_of_getElem? hc
      have hi := (List.getElem?_eq_some_iff.mp hc).1
      have hcx' := hcx.mono s1.tups
      refine r_gName ⟨rfl, ?_⟩
      repeat walk_at "kc"
      refine if_t rfl ?_
      repeat walk_at "kc"
      refine ⟨x, c, rfl, hcx', fun H2 s2 => r_bl ?_⟩
      have done : ∀ H3, Same H' H3 → Same H (L2.upd H3 D (.lst (((as.take i).map (inn as t)).map V.bl ++ [V.bl (inn as t c)]))) ∧ (L2.upd H3 D (.lst (((as.take i).map (inn as t)).map V.bl ++ [V.bl (inn as t c)]))) D = some (.lst (((as.take (i + 1)).map (inn as t)).map V.bl)) := fun H3 s3 =>
        ⟨(s1.trans s3).put hD, by rw [upd_same, take_more hc]; simp⟩
      have small : (((as.take i).map (inn as t)).map V.bl).length < sizeLine := by
        have := z.le
        refine line_lt ?_
        simp only [List.length_map, List.length_take]
        omega
      refine if_by (c' := modal c) rfl (fun e => ?_) (fun e => ?_)
      · obtain ⟨r, d, a, y, hd, rfl, ha, hy⟩ := modal_at (hcx'.mono s2.tups) e
        obtain ⟨g1, g2⟩ := inner_sub z hd hm
        repeat walk_at "kc"
        refine r_ixT ha (j := 2) rfl rfl ?_
        repeat walk_at "kc"
        have s12 := s1.trans s2
        refine ⟨y, kv, pa, d, t, as, rfl, hy, hk.mono s12.tups, LAt.cos s12 ⟨va, hpa, la⟩, z, g1, g2, g2, fun H3 s3 => ?_⟩
        rw [← inn_modal (as := as) (t := t) hd]
        exact ⟨_, (s2.trans s3) _ _ e1, small, done H3 (s2.trans s3)⟩
      · rw [← inn_else (as := as) (t := t) e]
        exact ⟨_, s2 _ _ e1, small, done H2 s2⟩
    · rintro H' ⟨s1, e1⟩
      rw [← la.length, List.take_length] at e1
      exact q H' D s1 hD e1
/-! ### fits -/
abbrev s_fits : Stmt := topS 26
abbrev N_fits : List Str := ["atoms", "kind", "inside", "role", "atom", "bit", "is_in"]
theorem sc_fits : FnScope N_fits ["atoms", "kind", "inside", "role"] (defScope s_fits) := ⟨rfl, rfl, rfl, by decide +kernel, rfl, by decide +kernel, by decide +kernel⟩
def spFits : Sp := fun vs H Q _ => ∃ (pa : Addr) (kv : V) (pi : Addr) (r : Nat) (t u : Nat) (as : List C), vs = [.ref pa, kv, .ref pi, .int (r : Nat)] ∧ LAt ConAt H pa as ∧ KAt as.length H t kv ∧ H pi = some (.lst ((ins as u).map V.bl)) ∧ AtS as ∧
  ∀ H', Same H H' → Q (.bl (Oc.fits as r t u)) H'
/-- what fits asks of one atom -/
def fit1 (as : List C) (r t u : Nat) (x : C) : Bool := match x with
  | .some s c => s != r || (!Oc.holds as u c || Oc.holds as t x)
  | .all s c => s != r || (!Oc.holds as t x || Oc.holds as u c)
  | _ => true
theorem fits_all {as : List C} {r t u : Nat} : Oc.fits as r t u = as.all (fit1 as r t u) := by
  unfold Oc.fits
  congr 1
  funext x
  cases x <;> simp only [fit1]
  rw [Bool.or_comm (Oc.holds as t _)]
theorem all_false {α : Type} {l : List α} {p : α → Bool} {i : Nat} {x : α} (h : l[i]? = some x) (hp : p x = false) : l.all p = false := by
  rw [Bool.eq_false_iff]
  intro q
  rw [List.all_eq_true] at q
  rw [q x (List.mem_of_getElem? h)] at hp
  cases hp
theorem holds_ix {as : List C} (z : AtS as) {t i : Nat} {c : C} (h : as[i]? = some c) : Oc.holds as t c = Oc.bit t i := by
  rw [KM.holds_atom (z.ok.at1 c (List.mem_of_getElem? h)), KM.idx_nodup z.ok.nd h]
theorem b01_zero (b : Bool) : decide (b01 b = 0) = !b := by cases b <;> rfl
theorem d_fits (T : Txt K mg CR fI Cl aD aS aR) (D_is_modal : DefOk P w K mg base CX0 1 "is_modal" spModal) (G : Glob K mg "fits" s_fits) : DefOk P w K mg base CX0 2 "fits" spFits := by
  refine mkDef (ps := ["atoms", "kind", "inside", "role"]) G (fun _ _ _ _ _ _ us hl => match us, hl with | [_, _, _, _], _ => rfl) fun f fd F => F.ok sc_fits (fun vs H Q E h => ?_) fun cdv A outer s H vs Q E hr h => ⟨_, ((pss_cons (ps_for PassesOwn.never rfl (pi_zip3 (by rfl) T.b_zip (pa_cons (pv 0) (pa_cons (pv 1) (pa_cons (pv 2) pa_nil)))) (pg_tup rfl (pgs_cons (pg_name (i := 4) sc_fits.nd rfl (Or.inl rfl)) (pgs_cons (pg_name (i := 5) sc_fits.nd rfl (Or.inl rfl)) (pgs_cons (pg_name (i := 6) sc_fits.nd rfl (Or.inl rfl)) pgs_nil))))
      (pss_one (ps_if (PW.pt (pw_and (pt_val (pe_cl D_is_modal (hr.mono (by decide)) (by exact (pa_cons (pv 4) pa_nil)))) (pw_and1 (pt_cmpR op_eq (pe_ix ix_tup (pv 4) pe_int (fun _ _ => rfl)) (pv 3) (nomark _)))))
        (pss_cons (ps_if (PW.pt (pw_and (pt_cmpR op_eq (pe_ix ix_tup (pv 4) pe_int (fun _ _ => rfl)) (pe_gint (by rfl) T.c_SOME) (nomark _)) (pw_and (pt_cmpR op_eq (pv 5) pe_int (nomark _)) (pw_and1 (pt_val (pv 6))))))
          (pss_one (ps_ret pe_bl))
          pss_nil)
        (pss_one (ps_if (PW.pt (pw_and (pt_cmpR op_eq (pe_ix ix_tup (pv 4) pe_int (fun _ _ => rfl)) (pe_gint (by rfl) T.c_ALL) (nomark _)) (pw_and (pt_cmpR op_eq (pv 5) pe_int (nomark _)) (pw_and1 (pt_not (pt_val (pv 6)))))))
          (pss_one (ps_ret pe_bl))
          pss_nil)))
        pss_nil)))
    (pss_one (ps_ret pe_bl)))), ?_⟩
  · obtain ⟨pa, kv, pi, r, t, u, as, rfl, _⟩ := h; rfl
  · obtain ⟨pa, kv, pi, r, t, u, as, rfl, ⟨va, hpa, la⟩, ⟨pk, rfl, hk⟩, hi, z, q⟩ := h
    rw [fits_all] at q
    repeat walk_at "kc"
    have l1 := la.length
    have l2 : ((ins as u).map V.bl).length = as.length := by simp [ins]
    refine ⟨pa, pk, pi, va, bitsV as.length t, (ins as u).map V.bl, rfl, .of hpa, .of hk, .of hi, for_zip3 (xs := va) (ys := bitsV as.length t) (zs := (ins as u).map V.bl) (by rw [bitsV_len, l1]) (by rw [l2, l1])
      (fun i σ H' => ∃ v4 v5 v6 : Option V, σ = [some (.ref pa), some (.ref pk), some (.ref pi), some (.int (r : Nat)), v4, v5, v6] ∧ Same H H' ∧ (as.take i).all (fit1 as r t u) = true) ?_ ?_ ?_ ?_⟩
    · exact ⟨none, none, none, rfl, Same.refl _, by simp⟩
    · rintro i σ H' _ ⟨v4, v5, v6, rfl, s1, _⟩
      exact ⟨.of (s1 _ _ hpa), .of (s1 _ _ hk), .of (s1 _ _ hi)⟩
    · rintro i x y b T1 σ H' hx hy hb ⟨v4, v5, v6, rfl, s1, e1⟩ hT
      obtain ⟨c, hc, hcx⟩ := la.get hx
      have hm := List.mem_of_getElem? hc
      have hil := (List.getElem?_eq_some_iff.mp hc).1
      rw [bitsV_at hil] at hy
      cases hy
      have hb' : b = V.bl (inn as u c) := by
        unfold ins at hb
        rw [List.map_map, List.getElem?_map, hc] at hb
        exact (Option.some.inj hb).symm
      subst hb'
      have s2 := s1.trans (Same.upd (o := .tup [x, V.int (b01 (Oc.bit t i)), V.bl (inn as u c)]) hT)
      have hcx' := hcx.mono s2.tups
      refine r_gTup upd_same rfl ?_
      repeat walk_at "kc"
      have next : fit1 as r t u c = true → ∀ H3, Same H H3 → ∃ v4' v5' v6' : Option V, ([some (V.ref pa), some (V.ref pk), some (V.ref pi), some (V.int (r : Nat)), some x, some (V.int (b01 (Oc.bit t i))), some (V.bl (inn as u c))] : L2.St) = [some (.ref pa), some (.ref pk), some (.ref pi), some (.int (r : Nat)), v4', v5', v6'] ∧ Same H H3 ∧ (as.take (i + 1)).all (fit1 as r t u) = true := fun hf H3 s3 =>
        ⟨_, _, _, rfl, s3, by rw [take_more hc, List.all_append, e1]; simpa using hf⟩
      have stop : fit1 as r t u c = false → ∀ H3, Same H H3 → Q (V.bl false) H3 := fun hf H3 s3 => by
        rw [all_false hc hf] at q
        exact q _ s3
      have hbit : Oc.holds as t c = Oc.bit t i := holds_ix z hc
      refine ⟨x, c, rfl, hcx', fun H3 s3 => r_bl ?_⟩
      have s4 := s2.trans s3
      refine if_by (c' := modal c) rfl (fun e => ?_) (fun e => ?_)
      · obtain ⟨r', d, a, y, hd, rfl, ha, hy⟩ := modal_at (hcx.mono s4.tups) e
        have hin := inn_modal (as := as) (t := u) hd
        repeat walk_at "kc"
        refine r_ixT ha (j := 1) rfl rfl ?_
        repeat walk_at "kc"
        refine if_by (c' := decide (r' = r)) (by simp; omega) (fun e2 => ?_) (fun e2 => ?_)
        · have e2 : r' = r := of_decide_eq_true e2
          subst e2
          repeat walk_at "kc"
          refine r_ixT ha (j := 0) rfl rfl ?_
          repeat walk_at "kc"
          rcases hd with rfl | rfl
          · -- some
            refine if_t rfl ?_
            repeat walk_at "kc"
            rw [b01_zero]
            refine if_by rfl (fun e3 => ?_) (fun e3 => ?_)
            · repeat walk_at "kc"
              refine if_by rfl (fun e4 => ?_) (fun e4 => ?_)
              · repeat walk_at "kc"
                refine stop ?_ _ s4
                simp only [fit1]
                rw [hbit, ← hin, e4]
                simp at e3
                rw [e3]
                simp
              · repeat walk_at "kc"
                refine r_ixT ha (j := 0) rfl rfl ?_
                repeat walk_at "kc"
                refine if_f rfl ?_
                refine if_f rfl ?_
                repeat walk_at "kc"
                refine next ?_ _ s4
                simp only [fit1]
                rw [← hin, e4]
                simp
            · repeat walk_at "kc"
              refine if_f rfl ?_
              repeat walk_at "kc"
              refine r_ixT ha (j := 0) rfl rfl ?_
              repeat walk_at "kc"
              refine if_f rfl ?_
              refine if_f rfl ?_
              repeat walk_at "kc"
              refine next ?_ _ s4
              simp only [fit1]
              rw [hbit]
              simp at e3
              rw [e3]
              simp
          · -- all
            refine if_f rfl ?_
            refine if_f rfl ?_
            repeat walk_at "kc"
            refine r_ixT ha (j := 0) rfl rfl ?_
            repeat walk_at "kc"
            refine if_t rfl ?_
            repeat walk_at "kc"
            rw [b01_one]
            refine if_by rfl (fun e3 => ?_) (fun e3 => ?_)
            · repeat walk_at "kc"
              refine if_by rfl (fun e4 => ?_) (fun e4 => ?_)
              · repeat walk_at "kc"
                refine stop ?_ _ s4
                simp only [fit1]
                simp at e4
                rw [hbit, ← hin, e4, e3]
                simp
              · repeat walk_at "kc"
                refine next ?_ _ s4
                simp only [fit1]
                simp at e4
                rw [← hin, e4]
                simp
            · refine if_f rfl ?_
              repeat walk_at "kc"
              refine next ?_ _ s4
              simp only [fit1]
              rw [hbit, e3]
              simp
        · have e2 : ¬ r' = r := of_decide_eq_false e2
          repeat walk_at "kc"
          refine next ?_ _ s4
          rcases hd with rfl | rfl
          · simp [fit1, e2]
          · simp [fit1, e2]
      · refine if_f rfl ?_
        repeat walk_at "kc"
        refine next ?_ _ s4
        cases c <;> simp [modal] at e <;> rfl
    · rintro σ H' ⟨v4, v5, v6, rfl, s1, e1⟩
      repeat walk_at "kc"
      rw [← l1, List.take_length] at e1
      rw [e1] at q
      exact q _ s1
end
end KC

/-! ## KcKin3 -/
namespace KC
open PySem PySem.Spec PyProof.Rows L2
open Oc (C Axiom)
open Oc11 (House)
local macro_rules | `(tactic| walk_at "kc") => `(tactic| with_reducible (first
  | refine r_seq ?_ | refine r_ifS ?_ | refine r_asg ?_ | refine r_ret ?_ | refine r_drop ?_ | refine r_next ?_
  | refine r_op ?_ | refine r_c ?_ | refine r_cons ?_ | refine r_nil ?_ | refine r_cl ?_ | refine r_cx ?_ | refine r_cb ?_
  | refine r_test ?_ | refine r_B ?_ | refine r_and ?_ | refine r_or ?_ | refine r_not ?_ | refine r_bl ?_
  | refine r_notV ?_ | refine r_andV ?_ | refine r_orV ?_ | refine r_tup ?_ | refine r_lst ?_ | refine r_ifE ?_
  | refine r_for ?_ | refine r_lc ?_ | refine r_yes ?_ | refine r_sFld ?_ | refine r_fld ?_ | refine r_par ?_ | refine r_rng1 ?_ | refine r_enum ?_ | refine r_zip3 ?_ | refine r_raise ?_ | refine r_list ?_ | refine r_bm ?_ | refine r_I0 ?_ | refine r_eqI ?_ | refine r_eqB ?_ | refine r_neI ?_ | refine r_gName ?_ | refine r_gCons ?_ | refine r_gNil ?_
  | (refine r_var (by with_unfolding_all rfl) ?_)))
section
variable {P : Program} {w : World} {K : PySem.W.Frag} {mg : Str → Option Value} {base : Heap} {CR fI Cl aD aS aR : Addr}
/-! ### is_met -/
abbrev s_is_met : Stmt := topS 27
abbrev N_is_met : List Str := ["atoms", "kind", "place", "wanted", "all_insides", "role", "inside"]
theorem sc_is_met : FnScope N_is_met ["atoms", "kind", "place", "wanted", "all_insides"] (defScope s_is_met) := ⟨rfl, rfl, rfl, by decide +kernel, rfl, by decide +kernel, by decide +kernel⟩
def met (as : List C) (r t : Nat) (d : C) (wanted : Bool) (u : Nat) : Bool := (Oc.holds as u d == wanted) && Oc.fits as r t u
def spMet : Sp := fun vs H Q _ => ∃ (pa : Addr) (kv : V) (k : Nat) (wanted : Bool) (pins : Addr) (t : Nat) (as : List C) (l : List Nat) (x : C) (r : Nat) (d : C), vs = [.ref pa, kv, .int (k : Nat), .bl wanted, .ref pins] ∧ LAt ConAt H pa as ∧ KAt as.length H t kv ∧ LAt (InAt as) H pins l ∧ AtS as ∧
  as[k]? = some x ∧ (x = .some r d ∨ x = .all r d) ∧ ∀ H', Same H H' → Q (.bl (l.any (met as r t d wanted))) H'
theorem any_true {α : Type} {l : List α} {p : α → Bool} {i : Nat} {x : α} (h : l[i]? = some x) (hp : p x = true) : l.any p = true := List.any_eq_true.mpr ⟨x, List.mem_of_getElem? h, hp⟩
theorem ins_at {as : List C} {u k : Nat} {x : C} (h : as[k]? = some x) : ((ins as u).map V.bl)[k]? = some (V.bl (inn as u x)) := by
  unfold ins; rw [List.map_map, List.getElem?_map, h]; rfl
theorem con_modal {H : Hp} {x : C} {v : V} {r : Nat} {d : C} (hc : ConAt H x v) (h : x = .some r d ∨ x = .all r d) : ∃ (a : Addr) (y : V), v = .ref a ∧ H a = some (.tup [.int (word x), .int (r : Nat), y]) := by
  rcases h with rfl | rfl
  · obtain ⟨a, y, e, hx, _⟩ := hc
    exact ⟨a, y, e, hx⟩
  · obtain ⟨a, y, e, hx, _⟩ := hc
    exact ⟨a, y, e, hx⟩
theorem d_is_met (D_fits : DefOk P w K mg base CX0 2 "fits" spFits) (G : Glob K mg "is_met" s_is_met) : DefOk P w K mg base CX0 3 "is_met" spMet := by
  refine mkDef (ps := ["atoms", "kind", "place", "wanted", "all_insides"]) G (fun _ _ _ _ _ _ us hl => match us, hl with | [_, _, _, _, _], _ => rfl) fun f fd F => F.ok sc_is_met (fun vs H Q E h => ?_) fun cdv A outer s H vs Q E hr h => ⟨_, ((pss_cons (ps_set (i := 5) sc_is_met.nd rfl (Or.inl rfl) (pe_ix ix_tup (pe_ix ix_list (pv 0) (pv 2) (fun _ _ => rfl)) pe_int (fun _ _ => rfl)))
    (pss_cons (ps_for PassesOwn.never rfl (pi_list (pv 4)) (pg_name (i := 6) sc_is_met.nd rfl (Or.inl rfl))
      (pss_one (ps_if (PW.pt (pw_and (pt_cmpR op_eq (pe_ix ix_list (pv 6) (pv 2) (fun _ _ => rfl)) (pv 3) (nomark _)) (pw_and1 (pt_val (pe_cl D_fits (hr.mono (by decide)) (by exact (pa_cons (pv 0) (pa_cons (pv 1) (pa_cons (pv 6) (pa_cons (pv 5) pa_nil))))))))))
        (pss_one (ps_ret pe_bl))
        pss_nil)))
    (pss_one (ps_ret pe_bl))))), ?_⟩
  · obtain ⟨pa, kv, k, wanted, pins, t, as, l, x, r, d, rfl, _⟩ := h; rfl
  · obtain ⟨pa, kv, k, wanted, pins, t, as, l, x, r, d, rfl, ⟨va, hpa, la⟩, hk, ⟨vi, hpi, li⟩, z, hx, hd, q⟩ := h
    obtain ⟨xv, hxv, hxc⟩ := la.at hx
    obtain ⟨xa, y, rfl, hxa⟩ := con_modal hxc hd
    repeat walk_at "kc"
    refine r_ixL hpa (j := k) rfl hxv ?_
    repeat walk_at "kc"
    refine r_ixT hxa (j := 1) rfl rfl ?_
    repeat walk_at "kc"
    refine ⟨pins, rfl, ⟨vi, .of hpi⟩, for_list (xs := vi) (fun i σ H' => ∃ v6 : Option V, σ = [some (.ref pa), some kv, some (.int (k : Nat)), some (.bl wanted), some (.ref pins), some (.int (r : Nat)), v6] ∧ Same H H' ∧ (l.take i).any (met as r t d wanted) = false) ?_ ?_ ?_ ?_⟩
    · exact ⟨none, rfl, Same.refl _, by simp⟩
    · rintro i σ H' _ ⟨v6, rfl, s1, _⟩
      exact .of (s1 _ _ hpi)
    · rintro i v σ H' hv ⟨v6, rfl, s1, e1⟩
      obtain ⟨u, hu, a, rfl, ha⟩ := li.get hv
      have ha' := s1 _ _ ha
      have hin := inn_modal (as := as) (t := u) hd
      have next : met as r t d wanted u = false → ∀ H3, Same H H3 → ∃ v6' : Option V, ([some (.ref pa), some kv, some (.int (k : Nat)), some (.bl wanted), some (.ref pins), some (.int (r : Nat)), some (.ref a)] : L2.St) = [some (.ref pa), some kv, some (.int (k : Nat)), some (.bl wanted), some (.ref pins), some (.int (r : Nat)), v6'] ∧ Same H H3 ∧ (l.take (i + 1)).any (met as r t d wanted) = false := fun hf H3 s3 =>
        ⟨_, rfl, s3, by rw [take_more hu, List.any_append, e1]; simpa using hf⟩
      repeat walk_at "kc"
      refine r_ixL ha' (j := k) rfl (ins_at hx) ?_
      repeat walk_at "kc"
      refine if_by rfl (fun e => ?_) (fun e => ?_)
      · repeat walk_at "kc"
        refine ⟨pa, kv, a, r, t, u, as, rfl, LAt.cos s1 ⟨va, hpa, la⟩, hk.mono s1.tups, ha', z, fun H3 s3 => r_bl ?_⟩
        refine if_by rfl (fun e2 => ?_) (fun e2 => ?_)
        · repeat walk_at "kc"
          have hm : met as r t d wanted u = true := by unfold met; rw [← hin, e, e2]; rfl
          rw [any_true hu hm] at q
          exact q _ (s1.trans s3)
        · repeat walk_at "kc"
          exact next (by unfold met; rw [e2]; simp) _ (s1.trans s3)
      · refine if_f rfl ?_
        repeat walk_at "kc"
        exact next (by unfold met; rw [← hin, e]; rfl) _ s1
    · rintro σ H' ⟨v6, rfl, s1, e1⟩
      repeat walk_at "kc"
      rw [← li.length, List.take_length] at e1
      rw [e1] at q
      exact q _ s1
/-! ### is_borne -/
abbrev s_is_borne : Stmt := topS 28
abbrev N_is_borne : List Str := ["atoms", "kind", "all_insides", "place", "atom"]
theorem sc_is_borne : FnScope N_is_borne ["atoms", "kind", "all_insides"] (defScope s_is_borne) := ⟨rfl, rfl, rfl, by decide +kernel, rfl, by decide +kernel, by decide +kernel⟩
def born1 (as : List C) (l : List Nat) (t : Nat) (x : C) : Bool := match x with
  | .some r d => !Oc.holds as t x || l.any (met as r t d true)
  | .all r d => Oc.holds as t x || l.any (met as r t d false)
  | _ => true
theorem borne_all {as : List C} {l : List Nat} {t : Nat} : Oc.borne as l t = as.all (born1 as l t) := by
  unfold Oc.borne
  congr 1
  funext x
  cases x <;> simp only [born1]
  · congr 2
    funext u
    unfold met
    rw [Bool.and_comm]
    congr 1
    cases Oc.holds as u _ <;> rfl
  · congr 2
    funext u
    unfold met
    rw [Bool.and_comm]
    congr 1
    cases Oc.holds as u _ <;> rfl
def spBorne : Sp := fun vs H Q _ => ∃ (pa : Addr) (kv : V) (pins : Addr) (t : Nat) (as : List C) (l : List Nat), vs = [.ref pa, kv, .ref pins] ∧ LAt ConAt H pa as ∧ KAt as.length H t kv ∧ LAt (InAt as) H pins l ∧ AtS as ∧
  ∀ H', Same H H' → Q (.bl (Oc.borne as l t)) H'
theorem d_is_borne (T : Txt K mg CR fI Cl aD aS aR) (D_is_met : DefOk P w K mg base CX0 3 "is_met" spMet) (G : Glob K mg "is_borne" s_is_borne) : DefOk P w K mg base CX0 4 "is_borne" spBorne := by
  refine mkDef (ps := ["atoms", "kind", "all_insides"]) G (fun _ _ _ _ _ _ us hl => match us, hl with | [_, _, _], _ => rfl) fun f fd F => F.ok sc_is_borne (fun vs H Q E h => ?_) fun cdv A outer s H vs Q E hr h => ⟨_, ((pss_cons (ps_for PassesOwn.never rfl (pi_enum (by rfl) T.b_enumerate (pa_cons (pv 0) pa_nil)) (pg_tup rfl (pgs_cons (pg_name (i := 3) sc_is_borne.nd rfl (Or.inl rfl)) (pgs_cons (pg_name (i := 4) sc_is_borne.nd rfl (Or.inl rfl)) pgs_nil)))
      (pss_cons (ps_if (PW.pt (pw_and (pt_cmpR op_eq (pe_ix ix_tup (pv 4) pe_int (fun _ _ => rfl)) (pe_gint (by rfl) T.c_SOME) (nomark _)) (pw_and (pt_cmpR op_eq (pe_ix ix_tup (pv 1) (pv 3) (fun _ _ => rfl)) pe_int (nomark _)) (pw_and1 (pt_not (pt_val (pe_cl D_is_met (hr.mono (by decide)) (by exact (pa_cons (pv 0) (pa_cons (pv 1) (pa_cons (pv 3) (pa_cons pe_bl (pa_cons (pv 2) pa_nil)))))))))))))
        (pss_one (ps_ret pe_bl))
        pss_nil)
      (pss_one (ps_if (PW.pt (pw_and (pt_cmpR op_eq (pe_ix ix_tup (pv 4) pe_int (fun _ _ => rfl)) (pe_gint (by rfl) T.c_ALL) (nomark _)) (pw_and (pt_cmpR op_eq (pe_ix ix_tup (pv 1) (pv 3) (fun _ _ => rfl)) pe_int (nomark _)) (pw_and1 (pt_not (pt_val (pe_cl D_is_met (hr.mono (by decide)) (by exact (pa_cons (pv 0) (pa_cons (pv 1) (pa_cons (pv 3) (pa_cons pe_bl (pa_cons (pv 2) pa_nil)))))))))))))
        (pss_one (ps_ret pe_bl))
        pss_nil))))
    (pss_one (ps_ret pe_bl)))), ?_⟩
  · obtain ⟨pa, kv, pins, t, as, l, rfl, _⟩ := h; rfl
  · obtain ⟨pa, kv, pins, t, as, l, rfl, ⟨va, hpa, la⟩, ⟨pk, rfl, hk⟩, hins, z, q⟩ := h
    rw [borne_all] at q
    repeat walk_at "kc"
    refine ⟨pa, va, rfl, .of hpa, for_enum (xs := va) (fun i σ H' => ∃ v3 v4 : Option V, σ = [some (.ref pa), some (.ref pk), some (.ref pins), v3, v4] ∧ Same H H' ∧ (as.take i).all (born1 as l t) = true) ?_ ?_ ?_ ?_⟩
    · exact ⟨none, none, rfl, Same.refl _, by simp⟩
    · rintro i σ H' _ ⟨v3, v4, rfl, s1, _⟩
      exact .of (s1 _ _ hpa)
    · rintro i x T1 σ H' hx ⟨v3, v4, rfl, s1, e1⟩ hT
      obtain ⟨c, hc, hcx⟩ := la.get hx
      have hm := List.mem_of_getElem? hc
      have hil := (List.getElem?_eq_some_iff.mp hc).1
      have s2 := s1.trans (Same.upd (o := .tup [V.int (i : Nat), x]) hT)
      have hcx' := hcx.mono s2.tups
      obtain ⟨xa, xs, rfl, hxa⟩ := hcx'.head
      have hbit : Oc.holds as t c = Oc.bit t i := holds_ix z hc
      have next : born1 as l t c = true → ∀ H3, Same H H3 → ∃ v3' v4' : Option V, ([some (.ref pa), some (.ref pk), some (.ref pins), some (.int (i : Nat)), some (.ref xa)] : L2.St) = [some (.ref pa), some (.ref pk), some (.ref pins), v3', v4'] ∧ Same H H3 ∧ (as.take (i + 1)).all (born1 as l t) = true := fun hf H3 s3 =>
        ⟨_, _, rfl, s3, by rw [take_more hc, List.all_append, e1]; simpa using hf⟩
      have stop : born1 as l t c = false → ∀ H3, Same H H3 → Q (V.bl false) H3 := fun hf H3 s3 => by
        rw [all_false hc hf] at q
        exact q _ s3
      refine r_gTup upd_same rfl ?_
      repeat walk_at "kc"
      refine r_ixT hxa (j := 0) rfl rfl ?_
      repeat walk_at "kc"
      have other : word c ≠ 6 → word c ≠ 7 → born1 as l t c = true := fun h6 h7 => by cases c <;> simp [word] at h6 h7 <;> rfl
      refine if_by (c' := decide (word c = 6)) (by simp; omega) (fun e => ?_) (fun e => ?_)
      · -- some
        have e := of_decide_eq_true e
        obtain ⟨r, d, rfl⟩ : ∃ r d, c = .some r d := by cases c <;> simp [word] at e; exact ⟨_, _, rfl⟩
        repeat walk_at "kc"
        refine r_ixT (s2 _ _ hk) (j := i) rfl (bitsV_at hil) ?_
        repeat walk_at "kc"
        rw [b01_one]
        refine if_by rfl (fun e3 => ?_) (fun e3 => ?_)
        · repeat walk_at "kc"
          refine ⟨pa, .ref pk, i, true, pins, t, as, l, .some r d, r, d, rfl, LAt.cos s2 ⟨va, hpa, la⟩, ⟨pk, rfl, s2 _ _ hk⟩, hins.inss s2, z, hc, .inl rfl, fun H3 s3 => r_bl ?_⟩
          refine if_by rfl (fun e4 => ?_) (fun e4 => ?_)
          · repeat walk_at "kc"
            refine stop ?_ _ (s2.trans s3)
            simp only [born1]
            simp at e4
            rw [hbit, e3]
            simpa using e4
          · repeat walk_at "kc"
            refine r_ixT (s3 _ _ hxa) (j := 0) rfl rfl ?_
            repeat walk_at "kc"
            refine if_f rfl ?_
            refine if_f rfl ?_
            repeat walk_at "kc"
            refine next ?_ _ (s2.trans s3)
            simp only [born1]
            simp at e4
            rw [Bool.or_eq_true]
            exact .inr (by simpa using e4)
        · refine if_f rfl ?_
          repeat walk_at "kc"
          refine r_ixT hxa (j := 0) rfl rfl ?_
          repeat walk_at "kc"
          refine if_f rfl ?_
          refine if_f rfl ?_
          repeat walk_at "kc"
          refine next ?_ _ s2
          simp only [born1]
          rw [hbit, e3]
          rfl
      · have e := of_decide_eq_false e
        refine if_f rfl ?_
        repeat walk_at "kc"
        refine r_ixT hxa (j := 0) rfl rfl ?_
        repeat walk_at "kc"
        refine if_by (c' := decide (word c = 7)) (by simp; omega) (fun e2 => ?_) (fun e2 => ?_)
        · -- all
          have e2 := of_decide_eq_true e2
          obtain ⟨r, d, rfl⟩ : ∃ r d, c = .all r d := by cases c <;> simp [word] at e2; exact ⟨_, _, rfl⟩
          repeat walk_at "kc"
          refine r_ixT (s2 _ _ hk) (j := i) rfl (bitsV_at hil) ?_
          repeat walk_at "kc"
          rw [b01_zero]
          refine if_by rfl (fun e3 => ?_) (fun e3 => ?_)
          · repeat walk_at "kc"
            refine ⟨pa, .ref pk, i, false, pins, t, as, l, .all r d, r, d, rfl, LAt.cos s2 ⟨va, hpa, la⟩, ⟨pk, rfl, s2 _ _ hk⟩, hins.inss s2, z, hc, .inr rfl, fun H3 s3 => r_bl ?_⟩
            refine if_by rfl (fun e4 => ?_) (fun e4 => ?_)
            · repeat walk_at "kc"
              refine stop ?_ _ (s2.trans s3)
              simp only [born1]
              simp at e4 e3
              rw [hbit, e3]
              simpa using e4
            · repeat walk_at "kc"
              refine next ?_ _ (s2.trans s3)
              simp only [born1]
              simp at e4
              rw [Bool.or_eq_true]
              exact .inr (by simpa using e4)
          · refine if_f rfl ?_
            repeat walk_at "kc"
            refine next ?_ _ s2
            simp only [born1]
            simp at e3
            rw [hbit, e3]
            rfl
        · have e2 := of_decide_eq_false e2
          refine if_f rfl ?_
          repeat walk_at "kc"
          exact next (other e e2) _ s2
    · rintro σ H' ⟨v3, v4, rfl, s1, e1⟩
      repeat walk_at "kc"
      rw [← la.length, List.take_length] at e1
      rw [e1] at q
      exact q _ s1
end
end KC

/-! ## KcKin4 -/
namespace KC
open PySem PySem.Spec PyProof.Rows L2
open Oc (C Axiom)
open Oc11 (House)
local macro_rules | `(tactic| walk_at "kc") => `(tactic| with_reducible (first
  | refine r_seq ?_ | refine r_ifS ?_ | refine r_asg ?_ | refine r_ret ?_ | refine r_drop ?_ | refine r_next ?_
  | refine r_op ?_ | refine r_c ?_ | refine r_cons ?_ | refine r_nil ?_ | refine r_cl ?_ | refine r_cx ?_ | refine r_cb ?_
  | refine r_test ?_ | refine r_B ?_ | refine r_and ?_ | refine r_or ?_ | refine r_not ?_ | refine r_bl ?_
  | refine r_notV ?_ | refine r_andV ?_ | refine r_orV ?_ | refine r_tup ?_ | refine r_lst ?_ | refine r_ifE ?_
  | refine r_for ?_ | refine r_lc ?_ | refine r_yes ?_ | refine r_sFld ?_ | refine r_fld ?_ | refine r_par ?_ | refine r_rng1 ?_ | refine r_enum ?_ | refine r_zip3 ?_ | refine r_raise ?_ | refine r_list ?_ | refine r_bm ?_ | refine r_I0 ?_ | refine r_eqI ?_ | refine r_eqB ?_ | refine r_neI ?_ | refine r_gName ?_ | refine r_gCons ?_ | refine r_gNil ?_
  | (refine r_var (by with_unfolding_all rfl) ?_)))
section
variable {P : Program} {w : World} {K : PySem.W.Frag} {mg : Str → Option Value} {base : Heap} {CR fI Cl aD aS aR : Addr}
/-! ### all_kinds -/
abbrev s_all_kinds : Stmt := topS 29
abbrev N_all_kinds : List Str := ["atoms", "found", "atom", "kind"]
theorem sc_all_kinds : FnScope N_all_kinds ["atoms"] (defScope s_all_kinds) := ⟨rfl, rfl, rfl, by decide +kernel, rfl, by decide +kernel, by decide +kernel⟩
def ext (i : Nat) (b : Bool) (t : Nat) : Nat := if b = true then 2 ^ i + t else t
theorem bits_ext {i t : Nat} (h : t < 2 ^ i) (b : Bool) : bitsV i t ++ [V.int (b01 b)] = bitsV (i + 1) (ext i b t) := by
  unfold bitsV ext
  rw [List.range_succ, List.map_append]
  congr 1
  · apply List.map_congr_left
    intro k hk
    have hk := List.mem_range.mp hk
    congr 2
    split
    · rw [KM.bit_tb, KM.bit_tb, Nat.testBit_two_pow_add_gt hk]
    · rfl
  · simp only [List.map_cons, List.map_nil]
    congr 3
    split
    · rename_i hb
      subst hb
      rw [KM.bit_tb, Nat.testBit_two_pow_add_eq, Nat.testBit_lt_two_pow h]; rfl
    · rename_i hb
      rw [KM.bit_tb, Nat.testBit_lt_two_pow h]
      simpa using hb
theorem range_two (i : Nat) : List.range (2 ^ (i + 1)) = (List.range (2 ^ i)).map (ext i false) ++ (List.range (2 ^ i)).map (ext i true) := by
  rw [Nat.pow_succ, Nat.mul_two, List.range_add]
  congr 1
  · rw [show ext i false = id from funext fun t => by simp [ext]]; simp
theorem pow_le {i : Nat} (h : i ≤ 6) : 2 ^ i ≤ 64 := Nat.pow_le_pow_right (by omega) h
def spAllK : Sp := fun vs H Q _ => ∃ (pa : Addr) (va : List V), vs = [.ref pa] ∧ H pa = some (.lst va) ∧ va.length ≤ 6 ∧
  ∀ H' p, Same H H' → H p = none → LAt (KAt va.length) H' p (List.range (2 ^ va.length)) → Q (.ref p) H'
theorem kinds_comp {pa l : Addr} {v2 v3 : Option V} {i : Nat} {vs : List V} (hi : i ≤ 6) (b : Bool) {H : Hp} {Q : VK} (hl : H l = some (.lst vs)) (hv : Al (KAt i H) (List.range (2 ^ i)) vs)
    (q : ∀ H' D, Same H H' → H D = none → LAt (KAt (i + 1)) H' D ((List.range (2 ^ i)).map (ext i b)) → Q (.ref D) H') :
    tLc (iList K (tVar 1)) (gName 3) tYes (tOp (rCatA K) (tVar 3) (tTup (tCons (tC (V.int (b01 b))) tNil))) [3] [some (.ref pa), some (.ref l), v2, v3] H Q := by
  have h64 := pow_le hi
  repeat walk_at "kc"
  refine ⟨l, rfl, ⟨vs, .of hl⟩, fun D hD => lc_list (xs := vs) (fun j H' => Same H H' ∧ ∃ ws, H' D = some (.lst ws) ∧ Al (KAt (i + 1) H') (((List.range (2 ^ i)).take j).map (ext i b)) ws) ?_ ?_ ?_ ?_⟩
  · exact ⟨Same.upd hD, [], upd_same, by simp [Al]⟩
  · rintro j H' _ ⟨s1, _⟩
    exact .of (s1 _ _ hl)
  · rintro j x H' hx ⟨s1, ws, hws, aw⟩
    obtain ⟨t, ht, a, rfl, ha⟩ := hv.get hx
    have htl : t < 2 ^ i := List.mem_range.mp (List.mem_of_getElem? ht)
    refine r_gName ⟨rfl, ?_⟩
    repeat walk_at "kc"
    refine if_t rfl ?_
    repeat walk_at "kc"
    refine ⟨sz_ok, fun p hp => ?_⟩
    have k1 := Same.upd (o := .tup [V.int (b01 b)]) hp
    have ha' := (s1.trans k1) _ _ ha
    have hD' := k1 _ _ hws
    have small : ws.length < sizeLine := by
      refine line_lt ?_
      rw [← aw.length, List.length_map, List.length_take, List.length_range]
      omega
    have fin : ∀ (H2 : Hp) (c : Addr), Same H' H2 → H2 c = some (.tup (bitsV (i + 1) (ext i b t))) → ∃ acc, H2 D = some (.lst acc) ∧ acc.length < sizeLine ∧ (Same H (upd H2 D (.lst (acc ++ [V.ref c]))) ∧ ∃ ws', (upd H2 D (.lst (acc ++ [V.ref c]))) D = some (.lst ws') ∧ Al (KAt (i + 1) (upd H2 D (.lst (acc ++ [V.ref c])))) (((List.range (2 ^ i)).take (j + 1)).map (ext i b)) ws') := fun H2 c s2 hc => by
      refine ⟨ws, s2 _ _ hws, small, (s1.trans s2).put hD, _, upd_same, ?_⟩
      have tl : Tups H2 (upd H2 D (.lst (ws ++ [V.ref c]))) := Tups.lst (s2 _ _ hws)
      rw [take_more ht, List.map_append]
      exact (aw.mono fun _ _ z => z.mono (s2.tups.trans tl)).app (.one ⟨c, rfl, tl _ _ hc⟩)
    refine ⟨a, p, _, _, rfl, rfl, .of ha', .of upd_same, line_of (by rw [bitsV_len]; simp; omega), fun he => ?_, fun he hy => (by cases hy), fun he _ c hc => ?_⟩
    · refine fin _ p k1 ?_
      have hi0 : i = 0 := by
        have := congrArg List.length he
        rw [bitsV_len] at this
        simpa using this
      subst hi0
      rw [upd_same, ← bits_ext htl b, he]
      rfl
    · refine fin _ c (k1.trans (Same.upd hc)) ?_
      rw [upd_same, bits_ext htl b]
  · rintro H' ⟨s1, ws, hws, aw⟩
    refine q H' D s1 hD ⟨ws, hws, ?_⟩
    rw [← hv.length, List.take_length] at aw
    exact aw
theorem d_all_kinds (G : Glob K mg "all_kinds" s_all_kinds) : DefOk P w K mg base CX0 1 "all_kinds" spAllK := by
  refine mkDef (ps := ["atoms"]) G (fun _ _ _ _ _ _ us hl => match us, hl with | [_], _ => rfl) fun f fd F => F.ok sc_all_kinds (fun vs H Q E h => ?_) fun cdv A outer s H vs Q E hr h => ⟨_, ((pss_cons (ps_set (i := 1) sc_all_kinds.nd rfl (Or.inl rfl) (pe_lst (pa_cons (pe_tup pa_nil) pa_nil)))
    (pss_cons (ps_for PassesOwn.never rfl (pi_list (pv 0)) (pg_name (i := 2) sc_all_kinds.nd rfl (Or.inl rfl))
      (pss_one (ps_set (i := 1) sc_all_kinds.nd rfl (Or.inl rfl) (pe_op op_cat (pe_lc (own := [("kind", 3)]) (g := (gName 3)) (tt := tYes) rfl sc_all_kinds.nd (pi_list (pv 1)) (blkOk_by (own := [("kind", 3)]) (N := N_all_kinds) (sc := defScope s_all_kinds) (by decide +kernel)) (fun _ _ _ _ _ => (pg_name (i := 3) sc_all_kinds.nd rfl (Or.inl rfl))) (fun _ _ _ _ _ => pts_nil) (fun _ _ _ _ _ => (pe_op (catA_K (K := K) rfl) (pv 3) (pe_tup (pa_cons pe_int pa_nil))))) (pe_lc (own := [("kind", 3)]) (g := (gName 3)) (tt := tYes) rfl sc_all_kinds.nd (pi_list (pv 1)) (blkOk_by (own := [("kind", 3)]) (N := N_all_kinds) (sc := defScope s_all_kinds) (by decide +kernel)) (fun _ _ _ _ _ => (pg_name (i := 3) sc_all_kinds.nd rfl (Or.inl rfl))) (fun _ _ _ _ _ => pts_nil) (fun _ _ _ _ _ => (pe_op (catA_K (K := K) rfl) (pv 3) (pe_tup (pa_cons pe_int pa_nil)))))))))
    (pss_one (ps_ret (pv 1)))))), ?_⟩
  · obtain ⟨pa, va, rfl, _⟩ := h; rfl
  · obtain ⟨pa, va, rfl, hpa, hn, q⟩ := h
    repeat walk_at "kc"
    refine ⟨sz_ok, fun e0 he0 => ?_⟩
    repeat walk_at "kc"
    refine ⟨sz_ok, fun l0 hl0 => ?_⟩
    repeat walk_at "kc"
    have k1 := Same.upd (o := .tup []) he0
    have k2 := Same.upd (o := .lst [V.ref e0]) hl0
    refine ⟨pa, rfl, ⟨va, .of ((k1.trans k2) _ _ hpa)⟩, for_list (xs := va) (fun i σ H' => ∃ (l : Addr) (v2 : Option V), σ = [some (.ref pa), some (.ref l), v2, none] ∧ Same H H' ∧ H l = none ∧ LAt (KAt i) H' l (List.range (2 ^ i))) ?_ ?_ ?_ ?_⟩
    · exact ⟨l0, none, rfl, k1.trans k2, k1.free hl0, [V.ref e0], upd_same, ⟨e0, rfl, k2 _ _ upd_same⟩, trivial⟩
    · rintro i σ H' _ ⟨l, v2, rfl, s1, _⟩
      exact .of (s1 _ _ hpa)
    · rintro i x σ H' hx ⟨l, v2, rfl, s1, nl, vs, hl, hv⟩
      have hi : i < va.length := (List.getElem?_eq_some_iff.mp hx).1
      have h64 := pow_le (i := i) (by omega)
      refine r_gName ?_
      refine r_asg (r_op ?_)
      refine kinds_comp (i := i) (by omega) false hl hv fun H2 D1 s2 n1 h1 => ?_
      refine kinds_comp (i := i) (by omega) true (s2 _ _ hl) (hv.mono fun _ _ z => z.mono s2.tups) fun H3 D2 s3 n2 h2 => ?_
      obtain ⟨ws1, hw1, a1⟩ := h1
      obtain ⟨ws2, hw2, a2⟩ := h2
      refine r_cat (s3 _ _ hw1) hw2 (line_of ?_) fun p hp => ?_
      · rw [← a1.length, ← a2.length]
        simp only [List.length_map, List.length_range]
        omega
      have k4 := Same.upd (o := .lst (ws1 ++ ws2)) hp
      have s4 := ((s1.trans s2).trans s3).trans k4
      refine r_gName ⟨p, some x, rfl, s4, ((s1.trans s2).trans s3).free hp, ws1 ++ ws2, upd_same, ?_⟩
      rw [range_two]
      exact (a1.mono fun _ _ z => z.mono (s3.trans k4).tups).app (a2.mono fun _ _ z => z.mono k4.tups)
    · rintro σ H' ⟨l, v2, rfl, s1, nl, h1⟩
      repeat walk_at "kc"
      exact q H' l s1 nl h1
/-! ### keeps -/
abbrev s_keeps : Stmt := topS 30
abbrev N_keeps : List Str := ["axioms", "kind", "atoms", "one", "other"]
theorem sc_keeps : FnScope N_keeps ["axioms", "kind", "atoms"] (defScope s_keeps) := ⟨rfl, rfl, rfl, by decide +kernel, rfl, by decide +kernel, by decide +kernel⟩
def AxS (as : List C) (ax : List Axiom) : Prop := (∀ a ∈ ax, KM.Sub a.1 as ∧ KM.Sub a.2 as ∧ KM.size a.1 ≤ 30 ∧ KM.size a.2 ≤ 30) ∧ ax.length ≤ 10
def spKeeps : Sp := fun vs H Q _ => ∃ (px : Addr) (kv : V) (pa : Addr) (t : Nat) (as : List C) (ax : List Axiom), vs = [.ref px, kv, .ref pa] ∧ LAt AxAt H px ax ∧ KAt as.length H t kv ∧ LAt ConAt H pa as ∧ AtS as ∧ AxS as ax ∧
  ∀ H', Same H H' → Q (.bl (Oc.keeps as ax t)) H'
def keep1 (as : List C) (t : Nat) (a : Axiom) : Bool := !Oc.holds as t a.1 || Oc.holds as t a.2
theorem d_keeps (T : Txt K mg CR fI Cl aD aS aR) (D_holds : DefOk P w K mg base CX0 31 "holds" (spHolds 30)) (G : Glob K mg "keeps" s_keeps) : DefOk P w K mg base CX0 32 "keeps" spKeeps := by
  refine mkDef (ps := ["axioms", "kind", "atoms"]) G (fun _ _ _ _ _ _ us hl => match us, hl with | [_, _, _], _ => rfl) fun f fd F => F.ok sc_keeps (fun vs H Q E h => ?_) fun cdv A outer s H vs Q E hr h => ⟨_, ((pss_one (ps_ret (pe_callB (cr_all rfl) (by rfl) T.b_all boot_all_ (pa_cons (pe_lc (own := [("one", 3), ("other", 4)]) (g := (gTup K 2 (gCons (gName 3) (gCons (gName 4) gNil)))) (tt := tYes) rfl sc_keeps.nd (pi_list (pv 0)) (blkOk_by (own := [("one", 3), ("other", 4)]) (N := N_keeps) (sc := defScope s_keeps) (by decide +kernel)) (fun _ _ _ _ _ => (pg_tup rfl (pgs_cons (pg_name (i := 3) sc_keeps.nd rfl (Or.inl rfl)) (pgs_cons (pg_name (i := 4) sc_keeps.nd rfl (Or.inl rfl)) pgs_nil)))) (fun _ _ _ _ _ => pts_nil) (fun _ _ _ _ _ => (pe_or (pe_not (pe_cl D_holds (hr.mono (by decide)) (by exact (pa_cons (pv 3) (pa_cons (pv 1) (pa_cons (pv 2) pa_nil)))))) (pe_one (pe_cl D_holds (hr.mono (by decide)) (by exact (pa_cons (pv 4) (pa_cons (pv 1) (pa_cons (pv 2) pa_nil))))))))) pa_nil))))), ?_⟩
  · obtain ⟨px, kv, pa, t, as, ax, rfl, _⟩ := h; rfl
  · obtain ⟨px, kv, pa, t, as, ax, rfl, ⟨vx, hpx, lx⟩, hk, ha, z, zx, q⟩ := h
    repeat walk_at "kc"
    refine ⟨px, rfl, ⟨vx, .of hpx⟩, fun D hD => lc_list (xs := vx) (fun i H' => Same H H' ∧ H' D = some (.lst (((ax.take i).map (keep1 as t)).map V.bl))) ?_ ?_ ?_ ?_⟩
    · exact ⟨Same.upd hD, upd_same⟩
    · rintro i H' _ ⟨s1, _⟩
      exact .of (s1 _ _ hpx)
    · rintro i x H' hx ⟨s1, e1⟩
      obtain ⟨a, hax, p, y1, y2, rfl, hp, h1, h2⟩ := lx.get hx
      obtain ⟨g1, g2, g3, g4⟩ := zx.1 a (List.mem_of_getElem? hax)
      refine r_gTup (s1 _ _ hp) rfl ?_
      repeat walk_at "kc"
      refine ⟨rfl, ?_⟩
      repeat walk_at "kc"
      refine if_t rfl ?_
      repeat walk_at "kc"
      have fin : ∀ H3 (b : Bool), Same H' H3 → b = keep1 as t a → ∃ acc, H3 D = some (.lst acc) ∧ acc.length < sizeLine ∧ Same H (upd H3 D (.lst (acc ++ [V.bl b]))) ∧ (upd H3 D (.lst (acc ++ [V.bl b]))) D = some (.lst (((ax.take (i + 1)).map (keep1 as t)).map V.bl)) := fun H3 b s3 eb => by
        refine ⟨_, s3 _ _ e1, line_lt ?_, (s1.trans s3).put hD, ?_⟩
        · have := zx.2
          simp only [List.length_map, List.length_take]; omega
        · rw [upd_same, take_more hax, eb]; simp
      refine ⟨y1, kv, pa, a.1, t, as, rfl, h1.mono s1.tups, hk.mono s1.tups, ha.cos s1, z, g1, g3, g3, fun H3 s3 => r_bl (r_bl ?_)⟩
      refine if_by rfl (fun e => ?_) (fun e => ?_)
      · exact fin _ _ s3 (by unfold keep1; rw [e]; rfl)
      · repeat walk_at "kc"
        have s13 := s1.trans s3
        refine ⟨y2, kv, pa, a.2, t, as, rfl, h2.mono s13.tups, hk.mono s13.tups, ha.cos s13, z, g2, g4, g4, fun H4 s4 => ?_⟩
        exact fin _ _ (s3.trans s4) (by unfold keep1; rw [e]; rfl)
    · rintro H' ⟨s1, e1⟩
      rw [← lx.length, List.take_length] at e1
      repeat walk_at "kc"
      refine ⟨D, _, rfl, .of e1, ?_⟩
      have e : ((ax.map (keep1 as t)).all id) = Oc.keeps as ax t := by
        rw [List.all_map]; rfl
      rw [e]
      exact q _ s1
end
end KC

/-! ## KcKin5 -/
namespace KC
open PySem PySem.Spec PyProof.Rows L2
open Oc (C Axiom)
open Oc11 (House)
local macro_rules | `(tactic| walk_at "kc") => `(tactic| with_reducible (first
  | refine r_seq ?_ | refine r_ifS ?_ | refine r_asg ?_ | refine r_ret ?_ | refine r_drop ?_ | refine r_next ?_
  | refine r_op ?_ | refine r_c ?_ | refine r_cons ?_ | refine r_nil ?_ | refine r_cl ?_ | refine r_cx ?_ | refine r_cb ?_
  | refine r_test ?_ | refine r_B ?_ | refine r_and ?_ | refine r_or ?_ | refine r_not ?_ | refine r_bl ?_
  | refine r_notV ?_ | refine r_andV ?_ | refine r_orV ?_ | refine r_tup ?_ | refine r_lst ?_ | refine r_ifE ?_
  | refine r_for ?_ | refine r_lc ?_ | refine r_yes ?_ | refine r_sFld ?_ | refine r_fld ?_ | refine r_par ?_ | refine r_rng1 ?_ | refine r_enum ?_ | refine r_zip3 ?_ | refine r_raise ?_ | refine r_list ?_ | refine r_bm ?_ | refine r_I0 ?_ | refine r_eqI ?_ | refine r_eqB ?_ | refine r_neI ?_ | refine r_gName ?_ | refine r_gCons ?_ | refine r_gNil ?_
  | (refine r_var (by with_unfolding_all rfl) ?_)))
section
variable {P : Program} {w : World} {K : PySem.W.Frag} {mg : Str → Option Value} {base : Heap} {CR fI Cl aD aS aR : Addr}
/-! ### borne_ones -/
abbrev s_borne_ones : Stmt := topS 31
abbrev N_borne_ones : List Str := ["atoms", "kinds", "all_insides", "kind"]
theorem sc_borne_ones : FnScope N_borne_ones ["atoms", "kinds"] (defScope s_borne_ones) := ⟨rfl, rfl, rfl, by decide +kernel, rfl, by decide +kernel, by decide +kernel⟩
def spBO : Sp := fun vs H Q _ => ∃ (pa pk : Addr) (as : List C) (l : List Nat), vs = [.ref pa, .ref pk] ∧ LAt ConAt H pa as ∧ LAt (KAt as.length) H pk l ∧ AtS as ∧ l.length ≤ 64 ∧
  ∀ H' p, Same H H' → H p = none → LAt (KAt as.length) H' p (l.filter (Oc.borne as l)) → Q (.ref p) H'
/-- insides that do not lie at D -/
def InN (as : List C) (D : Addr) (H : Hp) (t : Nat) (v : V) : Prop := InAt as H t v ∧ v ≠ .ref D
theorem filter_more {α : Type} {l : List α} {i : Nat} {x : α} {p : α → Bool} (h : l[i]? = some x) : (l.take (i + 1)).filter p = (l.take i).filter p ++ (if p x = true then [x] else []) := by
  rw [take_more h, List.filter_append]
  congr 1
  by_cases e : p x = true
  · simp [e]
  · simp [e]
theorem d_borne_ones (D_insides : DefOk P w K mg base CX0 32 "insides" spIns) (D_is_borne : DefOk P w K mg base CX0 4 "is_borne" spBorne) (G : Glob K mg "borne_ones" s_borne_ones) : DefOk P w K mg base CX0 33 "borne_ones" spBO := by
  refine mkDef (ps := ["atoms", "kinds"]) G (fun _ _ _ _ _ _ us hl => match us, hl with | [_, _], _ => rfl) fun f fd F => F.ok sc_borne_ones (fun vs H Q E h => ?_) fun cdv A outer s H vs Q E hr h => ⟨_, ((pss_cons (ps_set (i := 2) sc_borne_ones.nd rfl (Or.inr rfl) (pe_lc (own := [("kind", 3)]) (g := (gName 3)) (tt := tYes) rfl sc_borne_ones.nd (pi_list (pv 1)) (blkOk_by (own := [("kind", 3)]) (N := N_borne_ones) (sc := defScope s_borne_ones) (by decide +kernel)) (fun _ _ _ _ _ => (pg_name (i := 3) sc_borne_ones.nd rfl (Or.inl rfl))) (fun _ _ _ _ _ => pts_nil) (fun _ _ _ _ _ => (pe_cl D_insides (hr.mono (by decide)) (by exact (pa_cons (pv 3) (pa_cons (pv 0) pa_nil)))))))
    (pss_one (ps_ret (pe_lc (own := [("kind", 3)]) (g := (gName 3)) rfl sc_borne_ones.nd (pi_list (pv 1)) (blkOk_by (own := [("kind", 3)]) (N := N_borne_ones) (sc := defScope s_borne_ones) (by decide +kernel)) (fun _ _ _ _ _ => (pg_name (i := 3) sc_borne_ones.nd rfl (Or.inl rfl))) (fun _ _ _ _ _ => (pts_one (pt_val (pe_cl D_is_borne (hr.mono (by decide)) (by exact (pa_cons (pv 0) (pa_cons (pv 3) (pa_cons (pv 2) pa_nil)))))))) (fun _ _ _ _ _ => (pv 3))))))), ?_⟩
  · obtain ⟨pa, pk, as, l, rfl, _⟩ := h; rfl
  · obtain ⟨pa, pk, as, l, rfl, ha, ⟨vk, hpk, lk⟩, z, h64, q⟩ := h
    repeat walk_at "kc"
    refine ⟨pk, rfl, ⟨vk, .of hpk⟩, fun D hD => lc_list (xs := vk) (fun i H' => Same H H' ∧ LAt (InN as D) H' D (l.take i)) ?_ ?_ ?_ ?_⟩
    · exact ⟨Same.upd hD, [], upd_same, by simp [Al]⟩
    · rintro i H' _ ⟨s1, _⟩
      exact .of (s1 _ _ hpk)
    · rintro i x H' hx ⟨s1, ws, hws, aw⟩
      obtain ⟨t, ht, htx⟩ := lk.get hx
      refine r_gName ⟨rfl, ?_⟩
      repeat walk_at "kc"
      refine if_t rfl ?_
      repeat walk_at "kc"
      refine ⟨x, pa, t, as, rfl, htx.mono s1.tups, ha.cos s1, z, fun H3 p s3 np hp => ?_⟩
      have hpD : p ≠ D := fun e => by rw [e, hws] at np; cases np
      refine ⟨ws, s3 _ _ hws, line_lt (by rw [← aw.length, List.length_take]; omega), (s1.trans s3).put hD, _, upd_same, ?_⟩
      rw [take_more ht]
      have one : InN as D (upd H3 D (.lst (ws ++ [V.ref p]))) t (V.ref p) := ⟨⟨p, rfl, by rw [upd_ne hpD]; exact hp⟩, fun e => hpD (V.ref.inj e)⟩
      refine Al.app (aw.mono fun u v ⟨⟨a, e, h⟩, ne⟩ => ⟨⟨a, e, ?_⟩, ne⟩) (.one one)
      rw [upd_ne (fun ea => ne (by rw [e, ea]))]
      exact s3 _ _ h
    · rintro H' ⟨s1, ws, hws, aw⟩
      rw [← lk.length, List.take_length] at aw
      have hins : LAt (InAt as) H' D l := ⟨ws, hws, aw.mono fun _ _ h => h.1⟩
      repeat walk_at "kc"
      refine ⟨pk, rfl, ⟨vk, .of (s1 _ _ hpk)⟩, fun D2 hD2 => lc_list (xs := vk) (fun i H2 => Same H' H2 ∧ LAt (KAt as.length) H2 D2 ((l.take i).filter (Oc.borne as l))) ?_ ?_ ?_ ?_⟩
      · exact ⟨Same.upd hD2, [], upd_same, by simp [Al]⟩
      · rintro i H2 _ ⟨s2, _⟩
        exact .of (s2 _ _ (s1 _ _ hpk))
      · rintro i x H2 hx ⟨s2, us, hus, au⟩
        obtain ⟨t, ht, htx⟩ := lk.get hx
        have s12 := s1.trans s2
        refine r_gName ⟨rfl, ?_⟩
        repeat walk_at "kc"
        refine ⟨pa, x, D, t, as, l, rfl, ha.cos s12, htx.mono s12.tups, hins.inss s2, z, fun H3 s3 => r_bl ?_⟩
        have hus3 := s3 _ _ hus
        refine if_by rfl (fun e => ?_) (fun e => ?_)
        · repeat walk_at "kc"
          refine ⟨us, hus3, line_lt ?_, (s2.trans s3).put hD2, _, upd_same, ?_⟩
          · rw [← au.length]
            have h1 := List.length_filter_le (Oc.borne as l) (l.take i)
            rw [List.length_take] at h1
            omega
          · rw [filter_more ht, if_pos e]
            have tl : Tups H3 (upd H3 D2 (.lst (us ++ [x]))) := Tups.lst hus3
            exact (au.mono fun _ _ z => z.mono (s3.tups.trans tl)).app (.one (htx.mono ((s12.trans s3).tups.trans tl)))
        · refine ⟨s2.trans s3, us, hus3, ?_⟩
          rw [filter_more ht, if_neg (by rw [e]; simp), List.append_nil]
          exact au.mono fun _ _ z => z.mono s3.tups
      · rintro H2 ⟨s2, us, hus, au⟩
        rw [← lk.length, List.take_length] at au
        exact q H2 D2 (s1.trans s2) (s1.free hD2) ⟨us, hus, au⟩
/-! ### kinds_there -/
abbrev s_kinds_there : Stmt := topS 32
abbrev N_kinds_there : List Str := ["atoms", "axioms", "kinds", "left", "kind"]
theorem sc_kinds_there : FnScope N_kinds_there ["atoms", "axioms"] (defScope s_kinds_there) := ⟨rfl, rfl, rfl, by decide +kernel, rfl, by decide +kernel, by decide +kernel⟩
def spKT : Sp := fun vs H Q _ => ∃ (pa px : Addr) (as : List C) (ax : List Axiom), vs = [.ref pa, .ref px] ∧ LAt ConAt H pa as ∧ LAt AxAt H px ax ∧ AtS as ∧ AxS as ax ∧
  ∀ H' p, Same H H' → H p = none → LAt (KAt as.length) H' p (Oc.types as ax) → Q (.ref p) H'
theorem d_kinds_there (T : Txt K mg CR fI Cl aD aS aR) (D_all_kinds : DefOk P w K mg base CX0 1 "all_kinds" spAllK) (D_keeps : DefOk P w K mg base CX0 32 "keeps" spKeeps) (D_borne_ones : DefOk P w K mg base CX0 33 "borne_ones" spBO) (G : Glob K mg "kinds_there" s_kinds_there) : DefOk P w K mg base CX0 34 "kinds_there" spKT := by
  refine mkDef (ps := ["atoms", "axioms"]) G (fun _ _ _ _ _ _ us hl => match us, hl with | [_, _], _ => rfl) fun f fd F => F.ok sc_kinds_there (fun vs H Q E h => ?_) fun cdv A outer s H vs Q E hr h => ⟨_, ((pss_cons (ps_setLc (i := 2) (own := [("kind", 4)]) (g := (gName 4)) rfl sc_kinds_there.nd rfl rfl (sw_true rfl rfl rfl (by decide +kernel)) (pi_list (pe_cl D_all_kinds (hr.mono (by decide)) (by exact (pa_cons (pv 0) pa_nil)))) (blkOk_by (own := [("kind", 4)]) (N := N_kinds_there) (sc := defScope s_kinds_there) (by decide +kernel)) (fun _ _ _ _ _ => (pg_name (i := 4) sc_kinds_there.nd rfl (Or.inl rfl))) (fun _ _ _ _ _ => (pts_one (pt_val (pe_cl D_keeps (hr.mono (by decide)) (by exact (pa_cons (pv 1) (pa_cons (pv 4) (pa_cons (pv 0) pa_nil)))))))) (fun _ _ _ _ _ => (pv 4)))
    (pss_cons (ps_set (i := 3) sc_kinds_there.nd rfl (Or.inl rfl) (pe_cl D_borne_ones (hr.mono (by decide)) (by exact (pa_cons (pv 0) (pa_cons (pv 2) pa_nil)))))
    (pss_cons (ps_while PassesOwn.never (pt_cmpR op_lt (pe_callB call_len_seq (by rfl) T.b_len boot_len_ (pa_cons (pv 3) pa_nil)) (pe_callB call_len_seq (by rfl) T.b_len boot_len_ (pa_cons (pv 2) pa_nil)) (nomark _))
      (pss_cons (ps_set (i := 2) sc_kinds_there.nd rfl (Or.inl rfl) (pv 3))
      (pss_one (ps_set (i := 3) sc_kinds_there.nd rfl (Or.inl rfl) (pe_cl D_borne_ones (hr.mono (by decide)) (by exact (pa_cons (pv 0) (pa_cons (pv 2) pa_nil))))))))
    (pss_one (ps_ret (pv 2))))))), ?_⟩
  · obtain ⟨pa, px, as, ax, rfl, _⟩ := h; rfl
  · obtain ⟨pa, px, as, ax, rfl, ha, hx, z, zx, q⟩ := h
    obtain ⟨va, hpa, la⟩ := id ha
    have h64 := pow_le z.le
    repeat walk_at "kc"
    refine ⟨pa, va, rfl, hpa, by rw [← la.length]; exact z.le, fun H1 p1 s1 n1 h1 => ?_⟩
    rw [← la.length] at h1
    obtain ⟨v1, hp1, l1⟩ := h1
    refine ⟨p1, rfl, ⟨v1, .of hp1⟩, fun D hD => lc_list (xs := v1) (fun i H2 => Same H1 H2 ∧ LAt (KAt as.length) H2 D (((List.range (2 ^ as.length)).take i).filter (Oc.keeps as ax))) ?_ ?_ ?_ ?_⟩
    · exact ⟨Same.upd hD, [], upd_same, by simp [Al]⟩
    · rintro i H2 _ ⟨s2, _⟩
      exact .of (s2 _ _ hp1)
    · rintro i x H2 hxi ⟨s2, us, hus, au⟩
      obtain ⟨t, ht, htx⟩ := l1.get hxi
      have s12 := s1.trans s2
      refine r_gName ⟨rfl, ?_⟩
      repeat walk_at "kc"
      refine ⟨px, x, pa, t, as, ax, rfl, hx.axs s12, htx.mono s2.tups, ha.cos s12, z, zx, fun H3 s3 => r_bl ?_⟩
      have hus3 := s3 _ _ hus
      refine if_by rfl (fun e => ?_) (fun e => ?_)
      · repeat walk_at "kc"
        refine ⟨us, hus3, line_lt ?_, (s2.trans s3).put hD, _, upd_same, ?_⟩
        · rw [← au.length]
          have h1 := List.length_filter_le (Oc.keeps as ax) ((List.range (2 ^ as.length)).take i)
          rw [List.length_take, List.length_range] at h1
          omega
        · rw [filter_more ht, if_pos e]
          have tl : Tups H3 (upd H3 D (.lst (us ++ [x]))) := Tups.lst hus3
          exact (au.mono fun _ _ z => z.mono (s3.tups.trans tl)).app (.one (htx.mono ((s2.trans s3).tups.trans tl)))
      · refine ⟨s2.trans s3, us, hus3, ?_⟩
        rw [filter_more ht, if_neg (by rw [e]; simp), List.append_nil]
        exact au.mono fun _ _ z => z.mono s3.tups
    · rintro H2 ⟨s2, us, hus, au⟩
      rw [← l1.length, List.take_length] at au
      have s12 := s1.trans s2
      have nD : H D = none := s1.free hD
      have hlen : ((List.range (2 ^ as.length)).filter (Oc.keeps as ax)).length ≤ 64 := by
        have h1 := List.length_filter_le (Oc.keeps as ax) (List.range (2 ^ as.length))
        rw [List.length_range] at h1
        omega
      repeat walk_at "kc"
      refine ⟨pa, D, as, _, rfl, ha.cos s12, ⟨us, hus, au⟩, z, hlen, fun H3 p3 s3 n3 h3 => ?_⟩
      repeat walk_at "kc"
      refine ⟨fun m σ H' => ∃ (l : List Nat) (pk pl : Addr) (v4 : Option V) (M : Nat), m = l.length ∧ σ = [some (.ref pa), some (.ref px), some (.ref pk), some (.ref pl), v4] ∧ Same H H' ∧ H pk = none ∧ H pl = none ∧ LAt (KAt as.length) H' pk l ∧ LAt (KAt as.length) H' pl (l.filter (Oc.borne as l)) ∧ l.length ≤ 64 ∧ l.length < M ∧ Oc.settle as M l = Oc.types as ax, ⟨_, _, D, p3, none, 2 ^ as.length + 1, rfl, rfl, s12.trans s3, nD, s12.free n3, LAt.kis s3 ⟨us, hus, au⟩, h3, hlen, ?_, rfl⟩, ?_⟩
      · have h1 := List.length_filter_le (Oc.keeps as ax) (List.range (2 ^ as.length))
        rw [List.length_range] at h1
        omega
      · rintro m σ H' ⟨l, pk, pl, v4, M, rfl, rfl, s4, npk, npl, ⟨vk, hk, lk⟩, ⟨vl, hl, ll⟩, l64, lM, eq⟩
        repeat walk_at "kc"
        refine ⟨pl, vl, rfl, .inl (.of hl), ?_⟩
        repeat walk_at "kc"
        refine ⟨pk, vk, rfl, .inl (.of hk), ?_⟩
        repeat walk_at "kc"
        rw [← lk.length, ← ll.length]
        refine if_by (c' := decide ((l.filter (Oc.borne as l)).length < l.length)) (by simp) (fun e => ?_) (fun e => ?_)
        · have e := of_decide_eq_true e
          obtain ⟨M', hM', eq'⟩ := KM.settle_step lM e
          rw [eq'] at eq
          refine ⟨fun σ' H'' => ∃ (pk pl : Addr) (v4 : Option V), σ' = [some (.ref pa), some (.ref px), some (.ref pk), some (.ref pl), v4] ∧ Same H H'' ∧ H pk = none ∧ H pl = none ∧ LAt (KAt as.length) H'' pk (l.filter (Oc.borne as l)) ∧ LAt (KAt as.length) H'' pl ((l.filter (Oc.borne as l)).filter (Oc.borne as (l.filter (Oc.borne as l)))), ?_, ?_⟩
          · rintro σ' H'' ⟨pk', pl', v4', rfl, s5, a1, a2, a3, a4⟩
            exact ⟨_, e, _, pk', pl', v4', M', rfl, rfl, s5, a1, a2, a3, a4, by omega, hM', eq⟩
          · repeat walk_at "kc"
            refine ⟨pa, pl, as, _, rfl, ha.cos s4, ⟨vl, hl, ll⟩, z, by omega, fun H5 p5 s5 n5 h5 => ?_⟩
            exact ⟨pl, p5, v4, rfl, s4.trans s5, npl, s4.free n5, LAt.kis s5 ⟨vl, hl, ll⟩, h5⟩
        · have e := of_decide_eq_false e
          rw [KM.settle_end lM e] at eq
          repeat walk_at "kc"
          refine q H' pk s4 npk ⟨vk, hk, ?_⟩
          rw [← eq]
          exact lk
end
end KC

/-! ## KcBook -/
namespace KC
open PySem PySem.Spec PyProof.Rows L2
open Oc (C Axiom)
open Oc11 (House)
local macro_rules | `(tactic| walk_at "kc") => `(tactic| with_reducible (first
  | refine r_seq ?_ | refine r_ifS ?_ | refine r_asg ?_ | refine r_ret ?_ | refine r_drop ?_ | refine r_next ?_
  | refine r_op ?_ | refine r_c ?_ | refine r_cons ?_ | refine r_nil ?_ | refine r_cl ?_ | refine r_cx ?_ | refine r_cb ?_
  | refine r_test ?_ | refine r_B ?_ | refine r_and ?_ | refine r_or ?_ | refine r_not ?_ | refine r_bl ?_
  | refine r_notV ?_ | refine r_andV ?_ | refine r_orV ?_ | refine r_tup ?_ | refine r_lst ?_ | refine r_ifE ?_
  | refine r_for ?_ | refine r_lc ?_ | refine r_yes ?_ | refine r_sFld ?_ | refine r_fld ?_ | refine r_par ?_ | refine r_rng1 ?_ | refine r_enum ?_ | refine r_zip3 ?_ | refine r_raise ?_ | refine r_list ?_ | refine r_bm ?_ | refine r_I0 ?_ | refine r_eqI ?_ | refine r_eqB ?_ | refine r_neI ?_ | refine r_gName ?_ | refine r_gCons ?_ | refine r_gNil ?_
  | (refine r_var (by with_unfolding_all rfl) ?_)))
theorem LAt.but {α : Type} {R : Hp → α → V → Prop} {H H' : Hp} {a p C dx : Addr} {fs : List (Str × V)} {xs : List α} (b : But a H H') (ha : H a = some (.ins C dx fs)) (f : ∀ x v, R H x v → R H' x v) (h : LAt R H p xs) : LAt R H' p xs :=
  h.mono (fun vs e => b.at ha e (by intro z; cases z)) f
/-- a new thing at l, then the object at p is written -/
theorem put_new {H : Hp} {p l C dx : Addr} {fs : List (Str × V)} {o u : HO} (hp : H p = some (.ins C dx fs)) (hl : H l = none) : But p H (upd (upd H l o) p u) ∧ upd (upd H l o) p u l = some o ∧ upd (upd H l o) p u p = some u := by
  have hlp : l ≠ p := fun e => by rw [e, hp] at hl; cases hl
  refine ⟨fun b x n h => ?_, ?_, upd_same⟩
  · rw [upd_ne n, upd_ne (ne_of_none h hl)]; exact h
  · rw [upd_ne hlp]; exact upd_same
section
variable {P : Program} {w : World} {K : PySem.W.Frag} {mg : Str → Option Value} {base : Heap} {CR fI Cl aD aS aR : Addr}
/-! ### House.__init__ -/
abbrev s_init : Stmt := inClass (topS 34) 0
theorem sc_init : FnScope ["self"] ["self"] (defScope s_init) := ⟨rfl, rfl, rfl, by decide +kernel, rfl, by decide +kernel, by decide +kernel⟩
def spInit (Cl : Addr) : Sp := fun vs H Q _ => ∃ (p dx : Addr), vs = [.ref p] ∧ H p = some (.ins Cl dx []) ∧ ∀ H', But p H H' → HouseAt Cl H' p Oc11.init → Q .non H'
theorem fn_init (T : Txt K mg CR fI Cl aD aS aR) {f : Addr} {fd : FuncData} (F : Fun K "__init__" "House.__init__" s_init f fd) : FnOk P w K mg base CX0 1 f fd ["self"] (spInit Cl) := by
  refine F.ok sc_init (fun vs H Q E h => ?_) fun cdv A outer s H vs Q E hr h => ⟨_, (pss_cons (ps_fld (pv 0) (pe_lst pa_nil) rfl) (pss_cons (ps_fld (pv 0) pe_int rfl) (pss_cons (ps_fld (pv 0) (pe_lst pa_nil) rfl) (pss_cons (ps_fld (pv 0) (pe_lst pa_nil) rfl) (pss_cons (ps_fld (pv 0) (pe_lst pa_nil) rfl) (pss_one (ps_fld (pv 0) (pe_lst (pa_cons (pe_tup pa_nil) pa_nil)) rfl))))))), ?_⟩
  · obtain ⟨p, dx, rfl, _⟩ := h; rfl
  · obtain ⟨p, dx, rfl, hp, q⟩ := h
    repeat walk_at "kc"
    refine ⟨sz_ok, fun l1 n1 => ?_⟩
    obtain ⟨b1, e1, hp1⟩ := put_new (o := .lst []) (u := .ins Cl dx (putF "axioms" (.ref l1) [])) hp n1
    have hp1' : upd H l1 (.lst []) p = some (.ins Cl dx []) := Same.upd n1 _ _ hp
    repeat walk_at "kc"
    refine ⟨p, Cl, dx, _, rfl, hp1', T.cl, T.nA, (by show 0 < 1000; decide), ?_⟩
    generalize upd (upd H l1 (.lst [])) p (.ins Cl dx (putF "axioms" (.ref l1) [])) = H1 at b1 e1 hp1
    repeat walk_at "kc"
    refine ⟨p, Cl, dx, _, rfl, hp1, T.cl, T.nN, (by show 1 < 1000; decide), ?_⟩
    have b2 : But p H1 (upd H1 p (.ins Cl dx (putF "things" (.int 0) (putF "axioms" (.ref l1) [])))) := But.upd
    have e2 := b2.at hp1 e1 (by intro z; cases z)
    have hp2 : (upd H1 p (.ins Cl dx (putF "things" (.int 0) (putF "axioms" (.ref l1) [])))) p = some (.ins Cl dx (putF "things" (.int 0) (putF "axioms" (.ref l1) []))) := upd_same
    generalize (upd H1 p (.ins Cl dx (putF "things" (.int 0) (putF "axioms" (.ref l1) [])))) = H2 at b2 e2 hp2
    repeat walk_at "kc"
    refine ⟨sz_ok, fun l3 n3 => ?_⟩
    obtain ⟨b3, e33, hp3⟩ := put_new (o := .lst []) (u := .ins Cl dx (putF "said" (.ref l3) (putF "things" (.int 0) (putF "axioms" (.ref l1) [])))) hp2 n3
    have hp3' := Same.upd (o := .lst []) n3 _ _ hp2
    have e31 := b3.at hp2 e2 (by intro z; cases z)
    repeat walk_at "kc"
    refine ⟨p, Cl, dx, _, rfl, hp3', T.cl, T.nS, (by show 2 < 1000; decide), ?_⟩
    generalize upd (upd H2 l3 (.lst [])) p (.ins Cl dx (putF "said" (.ref l3) (putF "things" (.int 0) (putF "axioms" (.ref l1) [])))) = H3 at b3 e33 hp3 e31
    repeat walk_at "kc"
    refine ⟨sz_ok, fun l4 n4 => ?_⟩
    obtain ⟨b4, e44, hp4⟩ := put_new (o := .lst []) (u := .ins Cl dx (putF "ties" (.ref l4) (putF "said" (.ref l3) (putF "things" (.int 0) (putF "axioms" (.ref l1) []))))) hp3 n4
    have hp4' := Same.upd (o := .lst []) n4 _ _ hp3
    have e41 := b4.at hp3 e31 (by intro z; cases z)
    have e43 := b4.at hp3 e33 (by intro z; cases z)
    repeat walk_at "kc"
    refine ⟨p, Cl, dx, _, rfl, hp4', T.cl, T.nT, (by show 3 < 1000; decide), ?_⟩
    generalize upd (upd H3 l4 (.lst [])) p (.ins Cl dx (putF "ties" (.ref l4) (putF "said" (.ref l3) (putF "things" (.int 0) (putF "axioms" (.ref l1) []))))) = H4 at b4 e44 hp4 e41 e43
    repeat walk_at "kc"
    refine ⟨sz_ok, fun l5 n5 => ?_⟩
    obtain ⟨b5, e55, hp5⟩ := put_new (o := .lst []) (u := .ins Cl dx (putF "atoms" (.ref l5) (putF "ties" (.ref l4) (putF "said" (.ref l3) (putF "things" (.int 0) (putF "axioms" (.ref l1) [])))))) hp4 n5
    have hp5' := Same.upd (o := .lst []) n5 _ _ hp4
    have e51 := b5.at hp4 e41 (by intro z; cases z)
    have e53 := b5.at hp4 e43 (by intro z; cases z)
    have e54 := b5.at hp4 e44 (by intro z; cases z)
    repeat walk_at "kc"
    refine ⟨p, Cl, dx, _, rfl, hp5', T.cl, T.nAt, (by show 4 < 1000; decide), ?_⟩
    generalize upd (upd H4 l5 (.lst [])) p (.ins Cl dx (putF "atoms" (.ref l5) (putF "ties" (.ref l4) (putF "said" (.ref l3) (putF "things" (.int 0) (putF "axioms" (.ref l1) [])))))) = H5 at b5 e55 hp5 e51 e53 e54
    repeat walk_at "kc"
    refine ⟨sz_ok, fun e0 n0 => ?_⟩
    have s0 := Same.upd (o := .tup []) n0
    have z0 : upd H5 e0 (.tup []) e0 = some (.tup []) := upd_same
    have hp50 := s0 _ _ hp5
    generalize upd H5 e0 (.tup []) = H50 at s0 z0 hp50
    repeat walk_at "kc"
    refine ⟨sz_ok, fun l6 n6 => ?_⟩
    obtain ⟨b6, e66, hp6⟩ := put_new (o := .lst [.ref e0]) (u := .ins Cl dx (putF "kinds" (.ref l6) (putF "atoms" (.ref l5) (putF "ties" (.ref l4) (putF "said" (.ref l3) (putF "things" (.int 0) (putF "axioms" (.ref l1) []))))))) hp50 n6
    have hp6' := Same.upd (o := .lst [.ref e0]) n6 _ _ hp50
    repeat walk_at "kc"
    refine ⟨p, Cl, dx, _, rfl, hp6', T.cl, T.nK, (by show 5 < 1000; decide), ?_⟩
    have e61 := b6.at hp50 (s0 _ _ e51) (by intro z; cases z)
    have e63 := b6.at hp50 (s0 _ _ e53) (by intro z; cases z)
    have e64 := b6.at hp50 (s0 _ _ e54) (by intro z; cases z)
    have e65 := b6.at hp50 (s0 _ _ e55) (by intro z; cases z)
    have e60 := b6.at hp50 z0 (by intro z; cases z)
    refine q _ (((((b1.trans b2).trans b3).trans b4).trans b5).trans ((But.of s0).trans b6)) ⟨dx, l1, l3, l4, l5, l6, ?_, ⟨[], e61, trivial⟩, ⟨[], e63, trivial⟩, ⟨[], e64, trivial⟩, ⟨[], e65, trivial⟩, ⟨[.ref e0], e66, ⟨e0, rfl, e60⟩, trivial⟩⟩
    rw [hp6]
    rfl
structure InitOk (P : Program) (w : World) (K : PySem.W.Frag) (mg : Str → Option Value) (base : Heap) (Cl : Addr) : Prop where
  ex : ∃ (f : Addr) (fd : FuncData), mg "House" = some (.ref Cl) ∧ Mk K Cl f ∧ Binds K fd ["self"] [] ∧ FnOk P w K mg base CX0 1 f fd ["self"] (spInit Cl)
/-- House() -/
def tHouse (Cl : Addr) : TE := fun _ H Q => ∀ x H', Same H H' → H x = none → HouseAt Cl H' x Oc11.init → Q (.ref x) H'
theorem pe_House {X : Cx} {p pos : Pos} (D : InitOk X.prog X.w X.K X.mg X.base Cl) (hr : Room 2 X.A) (hg : Gl X "House") : PE X (.Call (.Name "House" p) [] [] pos) (tHouse Cl) := by
  obtain ⟨f, fd, hm, M, hb, F⟩ := D.ex
  have h := pe_make0 (p := p) (pos := pos) M F hr hg hm hb .nil (pass0 (X := X))
  refine ⟨fun pins s σ H Q I q => h.run pins s σ H Q I ?_⟩
  intro x dx nx nd ne
  refine ⟨x, dx, rfl, upd_same, fun H' b hh => ⟨rfl, q x H' (fun c o e => b c o (ne_of_none e nx) ?_) nx hh⟩⟩
  rw [upd_ne (ne_of_none e nx), upd_ne (ne_of_none e nd)]
  exact e
end
end KC

/-! ## KcBook2 -/
namespace KC
open PySem PySem.Spec PyProof.Rows L2
open Oc (C Axiom)
open Oc11 (House)
local macro_rules | `(tactic| walk_at "kc") => `(tactic| with_reducible (first
  | refine r_seq ?_ | refine r_ifS ?_ | refine r_asg ?_ | refine r_ret ?_ | refine r_drop ?_ | refine r_next ?_
  | refine r_op ?_ | refine r_c ?_ | refine r_cons ?_ | refine r_nil ?_ | refine r_cl ?_ | refine r_cx ?_ | refine r_cb ?_
  | refine r_test ?_ | refine r_B ?_ | refine r_and ?_ | refine r_or ?_ | refine r_not ?_ | refine r_bl ?_
  | refine r_notV ?_ | refine r_andV ?_ | refine r_orV ?_ | refine r_tup ?_ | refine r_lst ?_ | refine r_ifE ?_
  | refine r_for ?_ | refine r_lc ?_ | refine r_yes ?_ | refine r_sFld ?_ | refine r_fld ?_ | refine r_par ?_ | refine r_rng1 ?_ | refine r_enum ?_ | refine r_zip3 ?_ | refine r_raise ?_ | refine r_list ?_ | refine r_bm ?_ | refine r_I0 ?_ | refine r_eqI ?_ | refine r_eqB ?_ | refine r_neI ?_ | refine r_gName ?_ | refine r_gCons ?_ | refine r_gNil ?_
  | (refine r_var (by with_unfolding_all rfl) ?_)))
section
variable {P : Program} {w : World} {K : PySem.W.Frag} {mg : Str → Option Value} {base : Heap} {CR fI Cl aD aS aR : Addr}
/-- a field of the house, stored -/
theorem r_sf {H : Hp} {a dx pA pS pT pAt pK : Addr} {n : Nat} {σ : L2.St} {D : Ends} {f : Str} {v : V} (T : Txt K mg CR fI Cl aD aS aR) (h : H a = some (.ins Cl dx (hF pA n pS pT pAt pK))) (hn : NoAttr K Cl f) (q : D.nx σ (upd H a (.ins Cl dx (putF f v (hF pA n pS pT pAt pK))))) :
    ∃ a' C dx' fs, V.ref a = .ref a' ∧ H a' = some (.ins C dx' fs) ∧ Cls K C ∧ NoAttr K C f ∧ fs.length < 1000 ∧ D.nx σ (upd H a' (.ins C dx' (putF f v fs))) := ⟨a, Cl, dx, _, rfl, h, T.cl, hn, (by show 6 < 1000; decide), q⟩
theorem LAt.axb {H H' : Hp} {a p Ci dx : Addr} {fs : List (Str × V)} {xs : List Axiom} (b : But a H H') (ha : H a = some (.ins Ci dx fs)) (h : LAt AxAt H p xs) : LAt AxAt H' p xs := h.but b ha fun _ _ q => q.mono (b.tups ha)
theorem LAt.sab {H H' : Hp} {a p Ci dx : Addr} {fs : List (Str × V)} {xs : List (Nat × C)} (b : But a H H') (ha : H a = some (.ins Ci dx fs)) (h : LAt SaAt H p xs) : LAt SaAt H' p xs := h.but b ha fun _ _ q => q.mono (b.tups ha)
theorem LAt.tib {H H' : Hp} {a p Ci dx : Addr} {fs : List (Str × V)} {xs : List (Nat × Nat × Nat)} (b : But a H H') (ha : H a = some (.ins Ci dx fs)) (h : LAt TiAt H p xs) : LAt TiAt H' p xs := h.but b ha fun _ _ q => q.mono (b.tups ha)
theorem LAt.cob {H H' : Hp} {a p Ci dx : Addr} {fs : List (Str × V)} {xs : List Oc.C} (b : But a H H') (ha : H a = some (.ins Ci dx fs)) (h : LAt ConAt H p xs) : LAt ConAt H' p xs := h.but b ha fun _ _ q => q.mono (b.tups ha)
theorem LAt.kib {n : Nat} {H H' : Hp} {a p Ci dx : Addr} {fs : List (Str × V)} {xs : List Nat} (b : But a H H') (ha : H a = some (.ins Ci dx fs)) (h : LAt (KAt n) H p xs) : LAt (KAt n) H' p xs := h.but b ha fun _ _ q => q.mono (b.tups ha)
/-! ### begin_anew -/
abbrev s_begin_anew : Stmt := topS 35
abbrev N_begin_anew : List Str := ["house", "fresh"]
theorem sc_begin_anew : FnScope N_begin_anew ["house"] (defScope s_begin_anew) := ⟨rfl, rfl, rfl, by decide +kernel, rfl, by decide +kernel, by decide +kernel⟩
def spBegin (Cl : Addr) : Sp := fun vs H Q _ => ∃ (a : Addr) (h : House), vs = [.ref a] ∧ HouseAt Cl H a h ∧ ∀ H', But a H H' → HouseAt Cl H' a Oc11.init → Q .non H'
theorem d_begin_anew (T : Txt K mg CR fI Cl aD aS aR) (DI : InitOk P w K mg base Cl) (G : Glob K mg "begin_anew" s_begin_anew) : DefOk P w K mg base CX0 3 "begin_anew" (spBegin Cl) := by
  refine mkDef (ps := ["house"]) G (fun _ _ _ _ _ _ us hl => match us, hl with | [_], _ => rfl) fun f fd F => F.ok sc_begin_anew (fun vs H Q E h => ?_) fun cdv A outer s H vs Q E hr h => ⟨_, ((pss_cons (ps_set (i := 1) sc_begin_anew.nd rfl (Or.inl rfl) (pe_House DI (hr.mono (by decide)) (by rfl)))
    (pss_cons (ps_fld (pv 0) (pe_fld (pv 1) rfl) rfl)
    (pss_cons (ps_fld (pv 0) (pe_fld (pv 1) rfl) rfl)
    (pss_cons (ps_fld (pv 0) (pe_fld (pv 1) rfl) rfl)
    (pss_cons (ps_fld (pv 0) (pe_fld (pv 1) rfl) rfl)
    (pss_cons (ps_fld (pv 0) (pe_fld (pv 1) rfl) rfl)
    (pss_one (ps_fld (pv 0) (pe_fld (pv 1) rfl) rfl))))))))), ?_⟩
  · obtain ⟨a, h, rfl, _⟩ := h; rfl
  · obtain ⟨a, h, rfl, ⟨dx, pA, pS, pT, pAt, pK, X⟩, q⟩ := h
    repeat walk_at "kc"
    intro x H1 s1 nx hx
    obtain ⟨ex, xA, xS, xT, xAt, xK, Y⟩ := hx
    have hax : x ≠ a := fun e => by rw [e, X.obj] at nx; cases nx
    have h0 := s1 _ _ X.obj
    have o0 := Y.obj
    have ho : ∀ u, upd H1 a u x = some (.ins Cl ex (hF xA Oc11.init.book.things xS xT xAt xK)) := fun u => by rw [upd_ne hax]; exact o0
    repeat walk_at "kc"
    refine ⟨_, _, _, _, _, rfl, o0, T.cl, T.nA, lkA, ?_⟩
    repeat walk_at "kc"
    refine r_sf T h0 T.nA ?_
    rw [ptA]
    repeat walk_at "kc"
    refine ⟨_, _, _, _, _, rfl, (ho _), T.cl, T.nN, lkN, ?_⟩
    repeat walk_at "kc"
    refine r_sf T upd_same T.nN ?_
    rw [ptN, upd_upd]
    repeat walk_at "kc"
    refine ⟨_, _, _, _, _, rfl, (ho _), T.cl, T.nS, lkS, ?_⟩
    repeat walk_at "kc"
    refine r_sf T upd_same T.nS ?_
    rw [ptS, upd_upd]
    repeat walk_at "kc"
    refine ⟨_, _, _, _, _, rfl, (ho _), T.cl, T.nT, lkT, ?_⟩
    repeat walk_at "kc"
    refine r_sf T upd_same T.nT ?_
    rw [ptT, upd_upd]
    repeat walk_at "kc"
    refine ⟨_, _, _, _, _, rfl, (ho _), T.cl, T.nAt, lkAt, ?_⟩
    repeat walk_at "kc"
    refine r_sf T upd_same T.nAt ?_
    rw [ptAt, upd_upd]
    repeat walk_at "kc"
    refine ⟨_, _, _, _, _, rfl, (ho _), T.cl, T.nK, lkK, ?_⟩
    repeat walk_at "kc"
    refine r_sf T upd_same T.nK ?_
    rw [ptK, upd_upd]
    have b : But a H1 (upd H1 a (.ins Cl dx (hF xA Oc11.init.book.things xS xT xAt xK))) := But.upd
    exact q _ ((But.of s1).trans b) ⟨dx, xA, xS, xT, xAt, xK, upd_same, Y.ax.axb b h0, Y.sa.sab b h0, Y.ti.tib b h0, Y.at1.cob b h0, Y.ki.kib b h0⟩
/-! ### reckon -/
abbrev s_reckon : Stmt := topS 36
abbrev N_reckon : List Str := ["house", "atoms"]
theorem sc_reckon : FnScope N_reckon ["house", "atoms"] (defScope s_reckon) := ⟨rfl, rfl, rfl, by decide +kernel, rfl, by decide +kernel, by decide +kernel⟩
def spReckon (Cl : Addr) : Sp := fun vs H Q _ => ∃ (a pa : Addr) (h : House) (as : List C), vs = [.ref a, .ref pa] ∧ HouseAt Cl H a h ∧ LAt ConAt H pa as ∧ AtS as ∧ AxS as h.book.axioms ∧
  ∀ H', But a H H' → HouseAt Cl H' a { h with atoms := as, types := Oc.types as h.book.axioms } → Q .non H'
theorem d_reckon (T : Txt K mg CR fI Cl aD aS aR) (D_kinds_there : DefOk P w K mg base CX0 34 "kinds_there" spKT) (G : Glob K mg "reckon" s_reckon) : DefOk P w K mg base CX0 35 "reckon" (spReckon Cl) := by
  refine mkDef (ps := ["house", "atoms"]) G (fun _ _ _ _ _ _ us hl => match us, hl with | [_, _], _ => rfl) fun f fd F => F.ok sc_reckon (fun vs H Q E h => ?_) fun cdv A outer s H vs Q E hr h => ⟨_, ((pss_cons (ps_fld (pv 0) (pv 1) rfl)
    (pss_one (ps_fld (pv 0) (pe_cl D_kinds_there (hr.mono (by decide)) (by exact (pa_cons (pv 1) (pa_cons (pe_fld (pv 0) rfl) pa_nil)))) rfl)))), ?_⟩
  · obtain ⟨a, pa, h, as, rfl, _⟩ := h; rfl
  · obtain ⟨a, pa, h, as, rfl, ⟨dx, pA, pS, pT, pAt, pK, X⟩, ha, z, zx, q⟩ := h
    repeat walk_at "kc"
    refine r_sf T X.obj T.nAt ?_
    rw [ptAt]
    have b1 : But a H (upd H a (.ins Cl dx (hF pA h.book.things pS pT pa pK))) := But.upd
    have o1 : upd H a (.ins Cl dx (hF pA h.book.things pS pT pa pK)) a = some (.ins Cl dx (hF pA h.book.things pS pT pa pK)) := upd_same
    generalize upd H a (.ins Cl dx (hF pA h.book.things pS pT pa pK)) = H1 at b1 o1
    repeat walk_at "kc"
    refine ⟨_, _, _, _, _, rfl, o1, T.cl, T.nA, lkA, ?_⟩
    repeat walk_at "kc"
    refine ⟨pa, pA, as, h.book.axioms, rfl, ha.cob b1 X.obj, X.ax.axb b1 X.obj, z, zx, fun H2 p s2 np hp => ?_⟩
    repeat walk_at "kc"
    refine r_sf T (s2 _ _ o1) T.nK ?_
    rw [ptK]
    have b2 : But a H2 (upd H2 a (.ins Cl dx (hF pA h.book.things pS pT pa p))) := But.upd
    have b := (b1.trans (But.of s2)).trans b2
    exact q _ b ⟨dx, pA, pS, pT, pa, p, upd_same, X.ax.axb b X.obj, X.sa.sab b X.obj, X.ti.tib b X.obj, ha.cob b X.obj, hp.kib b2 (s2 _ _ o1)⟩
/-! ### bring -/
abbrev s_bring : Stmt := topS 37
abbrev N_bring : List Str := ["house", "concepts", "atoms"]
theorem sc_bring : FnScope N_bring ["house", "concepts"] (defScope s_bring) := ⟨rfl, rfl, rfl, by decide +kernel, rfl, by decide +kernel, by decide +kernel⟩
theorem HInvAt {h : House} (I : KM.HInv h) : AtS h.atoms := ⟨I.ok, I.zat, I.nat⟩
theorem HInvAx {h : House} (I : KM.HInv h) {as : List C} (hs : ∀ c ∈ h.atoms, c ∈ as) : AxS as h.book.axioms :=
  ⟨fun a ha => ⟨fun y hy => hs y ((I.ax a ha).1 y hy), fun y hy => hs y ((I.ax a ha).2 y hy), (I.zax a ha).1, (I.zax a ha).2⟩, by have := I.nax; omega⟩
theorem with_same {as cs : List C} (h : (KM.withAtoms as cs).length ≤ as.length) : KM.withAtoms as cs = as := by
  obtain ⟨r, e, _⟩ := KM.with_prefix as cs
  rw [e] at h ⊢
  have : r = [] := by
    cases r with
    | nil => rfl
    | cons x r => simp at h; omega
  rw [this, List.append_nil]
def spBring (Cl : Addr) : Sp := fun vs H Q _ => ∃ (a pc : Addr) (h : House) (cs : List C), vs = [.ref a, .ref pc] ∧ HouseAt Cl H a h ∧ LAt ConAt H pc cs ∧ KM.HInv h ∧ Small cs ∧ cs.length ≤ 2 ∧ (KM.withAtoms h.atoms cs).length ≤ 6 ∧
  ∀ H', But a H H' → HouseAt Cl H' a (h.with_ cs) → Q .non H'
theorem d_bring (T : Txt K mg CR fI Cl aD aS aR) (D_with_atoms : DefOk P w K mg base CX0 34 "with_atoms" spWith) (D_reckon : DefOk P w K mg base CX0 35 "reckon" (spReckon Cl)) (G : Glob K mg "bring" s_bring) : DefOk P w K mg base CX0 36 "bring" (spBring Cl) := by
  refine mkDef (ps := ["house", "concepts"]) G (fun _ _ _ _ _ _ us hl => match us, hl with | [_, _], _ => rfl) fun f fd F => F.ok sc_bring (fun vs H Q E h => ?_) fun cdv A outer s H vs Q E hr h => ⟨_, ((pss_cons (ps_set (i := 2) sc_bring.nd rfl (Or.inl rfl) (pe_cl D_with_atoms (hr.mono (by decide)) (by exact (pa_cons (pe_fld (pv 0) rfl) (pa_cons (pv 1) pa_nil)))))
    (pss_one (ps_if (pt_cmpR op_gt (pe_callB call_len_seq (by rfl) T.b_len boot_len_ (pa_cons (pv 2) pa_nil)) (pe_callB call_len_seq (by rfl) T.b_len boot_len_ (pa_cons (pe_fld (pv 0) rfl) pa_nil)) (nomark _))
      (pss_one (ps_expr (pe_cl D_reckon (hr.mono (by decide)) (by exact (pa_cons (pv 0) (pa_cons (pv 2) pa_nil))))))
      pss_nil)))), ?_⟩
  · obtain ⟨a, pc, h, cs, rfl, _⟩ := h; rfl
  · obtain ⟨a, pc, h, cs, rfl, hh, hc, I, zc, nc, n6, q⟩ := h
    obtain ⟨dx, pA, pS, pT, pAt, pK, X⟩ := id hh
    rw [KM.with_house I] at q
    repeat walk_at "kc"
    refine ⟨_, _, _, _, _, rfl, X.obj, T.cl, T.nAt, lkAt, ?_⟩
    repeat walk_at "kc"
    refine ⟨pAt, pc, h.atoms, cs, rfl, X.at1, hc, I.zat, zc, I.nat, by omega, fun H1 p s1 np hp => ?_⟩
    obtain ⟨vp, hvp, ap⟩ := id hp
    have X1 := X.same s1
    obtain ⟨va, hva, aa⟩ := X1.at1
    repeat walk_at "kc"
    refine ⟨p, vp, rfl, .inl (.of hvp), ?_⟩
    repeat walk_at "kc"
    refine ⟨_, _, _, _, _, rfl, X1.obj, T.cl, T.nAt, lkAt, ?_⟩
    repeat walk_at "kc"
    refine ⟨pAt, va, rfl, .inl (.of hva), ?_⟩
    repeat walk_at "kc"
    rw [← ap.length, ← aa.length]
    refine if_by (c' := decide (h.atoms.length < (KM.withAtoms h.atoms cs).length)) (by simp) (fun e => ?_) (fun e => ?_)
    · repeat walk_at "kc"
      refine ⟨a, p, h, _, rfl, hh.same s1, hp, ⟨KM.with_ok I.ok, KM.with_small I.zat zc, n6⟩, HInvAx I fun c hm => KM.with_mem.mpr (.inl hm), fun H2 b2 h2 => ?_⟩
      exact q H2 ((But.of s1).trans b2) h2
    · have e := of_decide_eq_false e
      have e2 := with_same (as := h.atoms) (cs := cs) (by omega)
      rw [e2, ← I.ty] at q
      repeat walk_at "kc"
      exact q H1 (But.of s1) (hh.same s1)
/-! ### falls_under -/
abbrev s_falls_under : Stmt := topS 39
abbrev N_falls_under : List Str := ["house", "one", "other", "kind"]
theorem sc_falls_under : FnScope N_falls_under ["house", "one", "other"] (defScope s_falls_under) := ⟨rfl, rfl, rfl, by decide +kernel, rfl, by decide +kernel, by decide +kernel⟩
def spUnd (Cl : Addr) : Sp := fun vs H Q _ => ∃ (a : Addr) (x y : V) (h : House) (c d : C), vs = [.ref a, x, y] ∧ HouseAt Cl H a h ∧ KM.HInv h ∧ ConAt H c x ∧ ConAt H d y ∧ KM.Sub c h.atoms ∧ KM.Sub d h.atoms ∧ KM.size c ≤ 30 ∧ KM.size d ≤ 30 ∧
  ∀ H', Same H H' → Q (.bl (h.under c d)) H'
theorem d_falls_under (T : Txt K mg CR fI Cl aD aS aR) (D_holds : DefOk P w K mg base CX0 31 "holds" (spHolds 30)) (G : Glob K mg "falls_under" s_falls_under) : DefOk P w K mg base CX0 32 "falls_under" (spUnd Cl) := by
  refine mkDef (ps := ["house", "one", "other"]) G (fun _ _ _ _ _ _ us hl => match us, hl with | [_, _, _], _ => rfl) fun f fd F => F.ok sc_falls_under (fun vs H Q E h => ?_) fun cdv A outer s H vs Q E hr h => ⟨_, ((pss_cons (ps_for PassesOwn.never rfl (pi_list (pe_fld (pv 0) rfl)) (pg_name (i := 3) sc_falls_under.nd rfl (Or.inl rfl))
      (pss_one (ps_if (PW.pt (pw_and (pt_val (pe_cl D_holds (hr.mono (by decide)) (by exact (pa_cons (pv 1) (pa_cons (pv 3) (pa_cons (pe_fld (pv 0) rfl) pa_nil)))))) (pw_and1 (pt_not (pt_val (pe_cl D_holds (hr.mono (by decide)) (by exact (pa_cons (pv 2) (pa_cons (pv 3) (pa_cons (pe_fld (pv 0) rfl) pa_nil))))))))))
        (pss_one (ps_ret pe_bl))
        pss_nil)))
    (pss_one (ps_ret pe_bl)))), ?_⟩
  · obtain ⟨a, x, y, h, c, d, rfl, _⟩ := h; rfl
  · obtain ⟨a, x, y, h, c, d, rfl, ⟨dx, pA, pS, pT, pAt, pK, X⟩, I, hc, hd, sc, sd, zc, zd, q⟩ := h
    obtain ⟨vk, hk, lk⟩ := X.ki
    have z := HInvAt I
    unfold House.under at q
    repeat walk_at "kc"
    refine ⟨_, _, _, _, _, rfl, X.obj, T.cl, T.nK, lkK, ?_⟩
    refine ⟨pK, rfl, ⟨vk, .of hk⟩, for_list (xs := vk) (fun i σ H' => ∃ v3 : Option V, σ = [some (.ref a), some x, some y, v3] ∧ Same H H' ∧ (h.types.take i).any (fun t => Oc.holds h.atoms t c && !Oc.holds h.atoms t d) = false) ?_ ?_ ?_ ?_⟩
    · exact ⟨none, rfl, Same.refl _, by simp⟩
    · rintro i σ H' _ ⟨v3, rfl, s1, _⟩
      exact .of (s1 _ _ hk)
    · rintro i v σ H' hv ⟨v3, rfl, s1, e1⟩
      obtain ⟨t, ht, htv⟩ := lk.get hv
      have X1 := X.same s1
      have next : (Oc.holds h.atoms t c && !Oc.holds h.atoms t d) = false → ∀ H3, Same H H3 → ∃ v3' : Option V, ([some (.ref a), some x, some y, some v] : L2.St) = [some (.ref a), some x, some y, v3'] ∧ Same H H3 ∧ (h.types.take (i + 1)).any (fun t => Oc.holds h.atoms t c && !Oc.holds h.atoms t d) = false := fun hf H3 s3 =>
        ⟨_, rfl, s3, by rw [take_more ht, List.any_append, e1]; simpa using hf⟩
      repeat walk_at "kc"
      refine ⟨_, _, _, _, _, rfl, X1.obj, T.cl, T.nAt, lkAt, ?_⟩
      repeat walk_at "kc"
      refine ⟨x, v, pAt, c, t, h.atoms, rfl, hc.mono s1.tups, htv.mono s1.tups, X1.at1, z, sc, zc, zc, fun H2 s2 => r_bl ?_⟩
      have s12 := s1.trans s2
      refine if_by rfl (fun e => ?_) (fun e => ?_)
      · repeat walk_at "kc"
        have X2 := X.same s12
        refine ⟨_, _, _, _, _, rfl, X2.obj, T.cl, T.nAt, lkAt, ?_⟩
        repeat walk_at "kc"
        refine ⟨y, v, pAt, d, t, h.atoms, rfl, hd.mono s12.tups, htv.mono s12.tups, X2.at1, z, sd, zd, zd, fun H3 s3 => r_bl ?_⟩
        refine if_by rfl (fun e2 => ?_) (fun e2 => ?_)
        · repeat walk_at "kc"
          have hx : (h.types.any fun t => Oc.holds h.atoms t c && !Oc.holds h.atoms t d) = true := any_true ht (by rw [e, e2]; rfl)
          rw [hx] at q
          exact q _ (s12.trans s3)
        · repeat walk_at "kc"
          exact next (by rw [e2]; simp) _ (s12.trans s3)
      · refine if_f rfl ?_
        repeat walk_at "kc"
        exact next (by rw [e]; rfl) _ s12
    · rintro σ H' ⟨v3, rfl, s1, e1⟩
      repeat walk_at "kc"
      rw [← lk.length, List.take_length] at e1
      rw [e1] at q
      exact q _ s1
end
end KC

/-! ## KcBook3 -/
namespace KC
open PySem PySem.Spec PyProof.Rows L2
open Oc (C Axiom)
open Oc11 (House)
local macro_rules | `(tactic| walk_at "kc") => `(tactic| with_reducible (first
  | refine r_seq ?_ | refine r_ifS ?_ | refine r_asg ?_ | refine r_ret ?_ | refine r_drop ?_ | refine r_next ?_
  | refine r_op ?_ | refine r_c ?_ | refine r_cons ?_ | refine r_nil ?_ | refine r_cl ?_ | refine r_cx ?_ | refine r_cb ?_
  | refine r_test ?_ | refine r_B ?_ | refine r_and ?_ | refine r_or ?_ | refine r_not ?_ | refine r_bl ?_
  | refine r_notV ?_ | refine r_andV ?_ | refine r_orV ?_ | refine r_tup ?_ | refine r_lst ?_ | refine r_ifE ?_
  | refine r_for ?_ | refine r_lc ?_ | refine r_yes ?_ | refine r_sFld ?_ | refine r_fld ?_ | refine r_par ?_ | refine r_rng1 ?_ | refine r_enum ?_ | refine r_zip3 ?_ | refine r_raise ?_ | refine r_list ?_ | refine r_bm ?_ | refine r_I0 ?_ | refine r_eqI ?_ | refine r_eqB ?_ | refine r_neI ?_ | refine r_gName ?_ | refine r_gCons ?_ | refine r_gNil ?_
  | (refine r_var (by with_unfolding_all rfl) ?_)))
section
variable {P : Program} {w : World} {K : PySem.W.Frag} {mg : Str → Option Value} {base : Heap} {CR fI Cl aD aS aR : Addr}
/-! ### needed_atoms -/
abbrev s_needed_atoms : Stmt := topS 38
abbrev N_needed_atoms : List Str := ["house", "concepts", "one", "other", "thing", "concept"]
theorem sc_needed_atoms : FnScope N_needed_atoms ["house"] (defScope s_needed_atoms) := ⟨rfl, rfl, rfl, by decide +kernel, rfl, by decide +kernel, by decide +kernel⟩
def axC (ax : List Axiom) : List C := ax.flatMap fun a => [a.1, a.2]
theorem axC_len (ax : List Axiom) : (axC ax).length = 2 * ax.length := by
  induction ax with
  | nil => rfl
  | cons a r ih => simp only [axC, List.flatMap_cons, List.length_append, List.length_cons, List.length_nil] at ih ⊢; omega
theorem axC_more {ax : List Axiom} {i : Nat} {a : Axiom} (h : ax[i]? = some a) : axC (ax.take (i + 1)) = axC (ax.take i) ++ [a.1, a.2] := by
  unfold axC
  rw [take_more h, List.flatMap_append]; simp
def spNeed (Cl : Addr) : Sp := fun vs H Q _ => ∃ (a : Addr) (h : House), vs = [.ref a] ∧ HouseAt Cl H a h ∧ KM.HInv h ∧ ∀ H' p, Same H H' → H p = none → LAt ConAt H' p (h.book.atoms []) → Q (.ref p) H'
theorem d_needed_atoms (T : Txt K mg CR fI Cl aD aS aR) (D_with_atoms : DefOk P w K mg base CX0 34 "with_atoms" spWith) (G : Glob K mg "needed_atoms" s_needed_atoms) : DefOk P w K mg base CX0 35 "needed_atoms" (spNeed Cl) := by
  refine mkDef (ps := ["house"]) G (fun _ _ _ _ _ _ us hl => match us, hl with | [_], _ => rfl) fun f fd F => F.ok sc_needed_atoms (fun vs H Q E h => ?_) fun cdv A outer s H vs Q E hr h => ⟨_, ((pss_cons (ps_set (i := 1) sc_needed_atoms.nd rfl (Or.inl rfl) (pe_lst pa_nil))
    (pss_cons (ps_for PassesOwn.never rfl (pi_list (pe_fld (pv 0) rfl)) (pg_tup rfl (pgs_cons (pg_name (i := 2) sc_needed_atoms.nd rfl (Or.inl rfl)) (pgs_cons (pg_name (i := 3) sc_needed_atoms.nd rfl (Or.inl rfl)) pgs_nil)))
      (pss_one (ps_expr (pe_bm PySem.F.plainAttrs_list PySem.F.slot_list_extend PySem.F.type_list_extend mt_extend (pv 1) (pa_cons (pe_lst (pa_cons (pv 2) (pa_cons (pv 3) pa_nil))) pa_nil)))))
    (pss_cons (ps_expr (pe_bm PySem.F.plainAttrs_list PySem.F.slot_list_extend PySem.F.type_list_extend mt_extend (pv 1) (pa_cons (pe_lc (own := [("thing", 4), ("concept", 5)]) (g := (gTup K 2 (gCons (gName 4) (gCons (gName 5) gNil)))) (tt := tYes) rfl sc_needed_atoms.nd (pi_list (pe_fld (pv 0) rfl)) (blkOk_by (own := [("thing", 4), ("concept", 5)]) (N := N_needed_atoms) (sc := defScope s_needed_atoms) (by decide +kernel)) (fun _ _ _ _ _ => (pg_tup rfl (pgs_cons (pg_name (i := 4) sc_needed_atoms.nd rfl (Or.inl rfl)) (pgs_cons (pg_name (i := 5) sc_needed_atoms.nd rfl (Or.inl rfl)) pgs_nil)))) (fun _ _ _ _ _ => pts_nil) (fun _ _ _ _ _ => (pv 5))) pa_nil)))
    (pss_one (ps_ret (pe_cl D_with_atoms (hr.mono (by decide)) (by exact (pa_cons (pe_lst pa_nil) (pa_cons (pv 1) pa_nil)))))))))), ?_⟩
  · obtain ⟨a, h, rfl, _⟩ := h; rfl
  · obtain ⟨a, h, rfl, ⟨dx, pA, pS, pT, pAt, pK, X⟩, I, q⟩ := h
    have hna := I.nax
    have hns := I.nsa
    obtain ⟨vx, hx, lx⟩ := X.ax
    obtain ⟨vs, hs, ls⟩ := X.sa
    repeat walk_at "kc"
    refine ⟨sz_ok, fun l nl => ?_⟩
    have s0 := Same.upd (o := .lst []) nl
    have e0 : upd H l (.lst []) l = some (.lst []) := upd_same
    generalize upd H l (.lst []) = H0 at s0 e0
    repeat walk_at "kc"
    refine ⟨_, _, _, _, _, rfl, s0 _ _ X.obj, T.cl, T.nA, lkA, ?_⟩
    refine ⟨pA, rfl, ⟨vx, .of (s0 _ _ hx)⟩, for_list (xs := vx) (fun i σ H' => ∃ v2 v3 : Option V, σ = [some (.ref a), some (.ref l), v2, v3, none, none] ∧ Same H H' ∧ LAt ConAt H' l (axC (h.book.axioms.take i))) ?_ ?_ ?_ ?_⟩
    · exact ⟨none, none, rfl, s0, [], e0, by simp [axC, Al]⟩
    · rintro i σ H' _ ⟨v2, v3, rfl, s1, _⟩
      exact .of (s1 _ _ hx)
    · rintro i x σ H' hxi ⟨v2, v3, rfl, s1, us, hus, au⟩
      obtain ⟨ax, hax, p, y1, y2, rfl, hp, h1, h2⟩ := lx.get hxi
      refine r_gTup (s1 _ _ hp) rfl ?_
      repeat walk_at "kc"
      refine ⟨tyL hus, ?_⟩
      repeat walk_at "kc"
      refine ⟨sz_ok, fun m nm => ?_⟩
      have s2 := Same.upd (o := .lst [y1, y2]) nm
      have em : upd H' m (.lst [y1, y2]) m = some (.lst [y1, y2]) := upd_same
      generalize upd H' m (.lst [y1, y2]) = H2 at s2 em
      repeat walk_at "kc"
      refine r_extend (s2 _ _ hus) em (line_of ?_) ?_
      · rw [← au.length, axC_len, List.length_take]
        show _ + 2 ≤ _
        omega
      have tl : Tups H2 (upd H2 l (.lst (us ++ [y1, y2]))) := Tups.lst (s2 _ _ hus)
      refine ⟨some y1, some y2, rfl, (s1.trans s2).put nl, us ++ [y1, y2], upd_same, ?_⟩
      rw [axC_more hax]
      have t1 := s1.tups.trans (s2.tups.trans tl)
      exact (au.mono fun _ _ z => z.mono (s2.tups.trans tl)).app ⟨h1.mono t1, h2.mono t1, trivial⟩
    · rintro σ H1 ⟨v2, v3, rfl, s1, us, hus, au⟩
      rw [← lx.length, List.take_length] at au
      repeat walk_at "kc"
      refine ⟨tyL hus, ?_⟩
      repeat walk_at "kc"
      refine ⟨_, _, _, _, _, rfl, s1 _ _ X.obj, T.cl, T.nS, lkS, ?_⟩
      refine ⟨pS, rfl, ⟨vs, .of (s1 _ _ hs)⟩, fun D nD => lc_list (xs := vs) (fun i H' => Same H1 H' ∧ LAt ConAt H' D ((h.book.says.take i).map (·.2))) ?_ ?_ ?_ ?_⟩
      · exact ⟨Same.upd nD, [], upd_same, by simp [Al]⟩
      · rintro i H' _ ⟨s2, _⟩
        exact .of (s2 _ _ (s1 _ _ hs))
      · rintro i x H' hxi ⟨s2, ws, hws, aw⟩
        obtain ⟨sa, hsa, p, y, rfl, hp, hy⟩ := ls.get hxi
        refine r_gTup ((s1.trans s2) _ _ hp) rfl ?_
        repeat walk_at "kc"
        refine ⟨rfl, ?_⟩
        repeat walk_at "kc"
        refine if_t rfl ?_
        repeat walk_at "kc"
        refine ⟨ws, hws, line_lt ?_, s2.put nD, _, upd_same, ?_⟩
        · rw [← aw.length, List.length_map, List.length_take]; omega
        · have tl : Tups H' (upd H' D (.lst (ws ++ [y]))) := Tups.lst hws
          rw [take_more hsa, List.map_append]
          exact (aw.mono fun _ _ z => z.mono tl).app (.one (hy.mono ((s1.trans s2).tups.trans tl)))
      · rintro H2 ⟨s2, ws, hws, aw⟩
        rw [← ls.length, List.take_length] at aw
        repeat walk_at "kc"
        refine r_extend (s2 _ _ hus) hws (line_of ?_) ?_
        · rw [← au.length, axC_len, ← aw.length, List.length_map]; omega
        have tl : Tups H2 (upd H2 l (.lst (us ++ ws))) := Tups.lst (s2 _ _ hus)
        have s3 := (s1.trans s2).put (o := .lst (us ++ ws)) nl
        have e3 : upd H2 l (.lst (us ++ ws)) l = some (.lst (us ++ ws)) := upd_same
        have a3 : Al (ConAt (upd H2 l (.lst (us ++ ws)))) (axC h.book.axioms ++ h.book.says.map (·.2)) (us ++ ws) := (au.mono fun _ _ z => z.mono (s2.tups.trans tl)).app (aw.mono fun _ _ z => z.mono tl)
        generalize upd H2 l (.lst (us ++ ws)) = H3 at s3 e3 a3
        repeat walk_at "kc"
        refine ⟨sz_ok, fun m nm => ?_⟩
        have s4 := Same.upd (o := .lst []) nm
        have em : upd H3 m (.lst []) m = some (.lst []) := upd_same
        generalize upd H3 m (.lst []) = H4 at s4 em
        repeat walk_at "kc"
        refine ⟨m, l, [], _, rfl, ⟨[], em, trivial⟩, ⟨_, s4 _ _ e3, a3.mono fun _ _ z => z.mono s4.tups⟩, (by intro c hc; cases hc), (fun c hc => ?_), (by simp), ?_, fun H5 p s5 np hp => ?_⟩
        · rcases List.mem_append.mp hc with hc | hc
          · obtain ⟨ax, hax, hc⟩ := List.mem_flatMap.mp hc
            rcases List.mem_cons.mp hc with rfl | hc
            · exact (I.zax ax hax).1
            · rcases List.mem_cons.mp hc with rfl | hc
              · exact (I.zax ax hax).2
              · cases hc
          · obtain ⟨sa, hsa, rfl⟩ := List.mem_map.mp hc
            exact I.zsa sa hsa
        · rw [List.length_append, axC_len, List.length_map]; omega
        · have e : h.book.atoms [] = KM.withAtoms [] (axC h.book.axioms ++ h.book.says.map (·.2)) := by
            unfold Oc03.Book.atoms
            rw [KM.atomsFor_is, List.append_nil]; rfl
          refine q H5 p ((s3.trans s4).trans s5) ((s3.trans s4).free np) ?_
          rw [e]
          exact hp
/-! ### is_pair -/
abbrev s_is_pair : Stmt := topS 40
abbrev N_is_pair : List Str := ["house", "one", "other", "first", "second"]
theorem sc_is_pair : FnScope N_is_pair ["house", "one", "other"] (defScope s_is_pair) := ⟨rfl, rfl, rfl, by decide +kernel, rfl, by decide +kernel, by decide +kernel⟩
def pairB (h : House) (i j : Nat) : Bool := i != j && (h.atoms.contains (.name i) && (h.atoms.contains (.name j) && h.under (.name i) (.name j)))
theorem pairs_is (h : House) : h.pairs = (List.range 4).flatMap fun i => ((List.range 4).filter (pairB h i)).map fun j => (i, j) := rfl
def spPair (Cl : Addr) : Sp := fun vs H Q _ => ∃ (a : Addr) (h : House) (i j : Nat), vs = [.ref a, .int (i : Nat), .int (j : Nat)] ∧ HouseAt Cl H a h ∧ KM.HInv h ∧ ∀ H', Same H H' → Q (.bl (pairB h i j)) H'
theorem d_is_pair (T : Txt K mg CR fI Cl aD aS aR) (D_falls_under : DefOk P w K mg base CX0 32 "falls_under" (spUnd Cl)) (G : Glob K mg "is_pair" s_is_pair) : DefOk P w K mg base CX0 33 "is_pair" (spPair Cl) := by
  refine mkDef (ps := ["house", "one", "other"]) G (fun _ _ _ _ _ _ us hl => match us, hl with | [_, _, _], _ => rfl) fun f fd F => F.ok sc_is_pair (fun vs H Q E h => ?_) fun cdv A outer s H vs Q E hr h => ⟨_, ((pss_cons (ps_par (i := 3) (j := 4) rfl sc_is_pair.nd rfl rfl (by decide) rfl rfl (pa_cons (pe_tup (pa_cons (pe_gint (by rfl) T.c_NAMED) (pa_cons (pv 1) pa_nil))) (pa_cons (pe_tup (pa_cons (pe_gint (by rfl) T.c_NAMED) (pa_cons (pv 2) pa_nil))) pa_nil)) (by rfl))
    (pss_cons (ps_if (PW.pt (pw_or (pt_cmpR op_eq (pv 1) (pv 2) (nomark _)) (pw_or (pt_cmpR (op_notInD (hu65 hr)) (pv 3) (pe_fld (pv 0) rfl) (by with_unfolding_all rfl)) (pw_or1 (pt_cmpR (op_notInD (hu65 hr)) (pv 4) (pe_fld (pv 0) rfl) (by with_unfolding_all rfl))))))
      (pss_one (ps_ret pe_bl))
      pss_nil)
    (pss_one (ps_ret (pe_cl D_falls_under (hr.mono (by decide)) (by exact (pa_cons (pv 0) (pa_cons (pv 3) (pa_cons (pv 4) pa_nil)))))))))), ?_⟩
  · obtain ⟨a, h, i, j, rfl, _⟩ := h; rfl
  · obtain ⟨a, h, i, j, rfl, hh, I, q⟩ := h
    have z := HInvAt I
    have small : ∀ n, KM.size (.name n) = 2 := fun n => rfl
    repeat walk_at "kc"
    refine ⟨sz_ok, fun p1 n1 => ?_⟩
    have s1 := Same.upd (o := .tup [.int 2, .int (i : Nat)]) n1
    have e1 : upd H p1 (.tup [.int 2, .int (i : Nat)]) p1 = some (.tup [.int 2, .int (i : Nat)]) := upd_same
    generalize upd H p1 (.tup [.int 2, .int (i : Nat)]) = H1 at s1 e1
    repeat walk_at "kc"
    refine ⟨sz_ok, fun p2 n2 => ?_⟩
    have s2 := Same.upd (o := .tup [.int 2, .int (j : Nat)]) n2
    have e2 : upd H1 p2 (.tup [.int 2, .int (j : Nat)]) p2 = some (.tup [.int 2, .int (j : Nat)]) := upd_same
    generalize upd H1 p2 (.tup [.int 2, .int (j : Nat)]) = H2 at s2 e2
    repeat walk_at "kc"
    have s12 := s1.trans s2
    have c1 : ConAt H2 (.name i) (.ref p1) := ⟨p1, rfl, s2 _ _ e1⟩
    have c2 : ConAt H2 (.name j) (.ref p2) := ⟨p2, rfl, e2⟩
    have hh2 := hh.same s12
    obtain ⟨dx, pA, pS, pT, pAt, pK, X⟩ := id hh2
    refine ⟨_, _, rfl, ?_⟩
    repeat walk_at "kc"
    have notin : ∀ (n : Nat) (p : V) (Q' : VK), ConAt H2 (.name n) p → Q' (.bl (!h.atoms.contains (.name n))) H2 → rNotInD K p (.ref pAt) H2 Q' := fun n p Q' hc hq =>
      ⟨cD (.name n), h.atoms.map cD, hc.dp, X.at1.dp fun _ _ z => z.dp, cD_shaped (by rw [small]; omega), list_shaped (n := 30) (fun y _ => cD_lay y) (fun y hy => Nat.le_trans (cD_depth y) (z.sm y hy)) (by omega), by rw [any_cD]; exact hq⟩
    refine if_by (c' := decide (i = j)) (by simp; omega) (fun e => ?_) (fun e => ?_)
    · refine if_t rfl ?_
      repeat walk_at "kc"
      have hb : pairB h i j = false := by
        have e := of_decide_eq_true e
        unfold pairB; subst e; simp
      rw [hb] at q
      exact q _ s12
    · have e := of_decide_eq_false e
      repeat walk_at "kc"
      refine ⟨_, _, _, _, _, rfl, X.obj, T.cl, T.nAt, lkAt, ?_⟩
      refine notin i _ _ c1 (r_bl ?_)
      refine if_by rfl (fun e3 => ?_) (fun e3 => ?_)
      · refine if_t rfl ?_
        repeat walk_at "kc"
        have hb : pairB h i j = false := by
          simp at e3
          unfold pairB; simp [e3]
        rw [hb] at q
        exact q _ s12
      · repeat walk_at "kc"
        refine ⟨_, _, _, _, _, rfl, X.obj, T.cl, T.nAt, lkAt, ?_⟩
        refine notin j _ _ c2 (r_bl ?_)
        refine if_by rfl (fun e4 => ?_) (fun e4 => ?_)
        · repeat walk_at "kc"
          have hb : pairB h i j = false := by
            simp at e4
            unfold pairB; simp [e4]
          rw [hb] at q
          exact q _ s12
        · repeat walk_at "kc"
          have m1 : C.name i ∈ h.atoms := by simpa using e3
          have m2 : C.name j ∈ h.atoms := by simpa using e4
          have hb : pairB h i j = h.under (.name i) (.name j) := by
            have : (i != j) = true := by simpa using e
            unfold pairB
            rw [this]
            simp [m1, m2]
          refine ⟨a, _, _, h, .name i, .name j, rfl, hh2, I, c1, c2, fun y hy => ?_, fun y hy => ?_, by rw [small]; omega, by rw [small]; omega, fun H3 s3 => ?_⟩
          · simp [C.atoms] at hy; subst hy; exact m1
          · simp [C.atoms] at hy; subst hy; exact m2
          · rw [← hb]
            exact q _ (s12.trans s3)
/-! ### pairs_of -/
abbrev s_pairs_of : Stmt := topS 41
abbrev N_pairs_of : List Str := ["house", "found", "one", "other"]
theorem sc_pairs_of : FnScope N_pairs_of ["house"] (defScope s_pairs_of) := ⟨rfl, rfl, rfl, by decide +kernel, rfl, by decide +kernel, by decide +kernel⟩
def prs (h : House) (n : Nat) : List (Nat × Nat) := (List.range n).flatMap fun i => ((List.range 4).filter (pairB h i)).map fun j => (i, j)
theorem prs_succ (h : House) (n : Nat) : prs h (n + 1) = prs h n ++ ((List.range 4).filter (pairB h n)).map fun j => (n, j) := by
  unfold prs; rw [List.range_succ (n := n), List.flatMap_append]; simp
theorem row_len (h : House) (n m : Nat) : (((List.range m).filter (pairB h n)).map fun j => (n, j)).length ≤ m := by
  rw [List.length_map]
  have := List.length_filter_le (pairB h n) (List.range m)
  rw [List.length_range] at this
  exact this
theorem prs_len (h : House) (n : Nat) : (prs h n).length ≤ 4 * n := by
  induction n with
  | zero => simp [prs]
  | succ n ih =>
    rw [prs_succ, List.length_append]
    have := row_len h n 4
    omega
def spPairs (Cl : Addr) : Sp := fun vs H Q _ => ∃ (a : Addr) (h : House), vs = [.ref a] ∧ HouseAt Cl H a h ∧ KM.HInv h ∧ ∀ H' p, Same H H' → H p = none → LAt PrAt H' p h.pairs → Q (.ref p) H'
theorem d_pairs_of (T : Txt K mg CR fI Cl aD aS aR) (D_is_pair : DefOk P w K mg base CX0 33 "is_pair" (spPair Cl)) (G : Glob K mg "pairs_of" s_pairs_of) : DefOk P w K mg base CX0 34 "pairs_of" (spPairs Cl) := by
  refine mkDef (ps := ["house"]) G (fun _ _ _ _ _ _ us hl => match us, hl with | [_], _ => rfl) fun f fd F => F.ok sc_pairs_of (fun vs H Q E h => ?_) fun cdv A outer s H vs Q E hr h => ⟨_, ((pss_cons (ps_set (i := 1) sc_pairs_of.nd rfl (Or.inl rfl) (pe_lst pa_nil))
    (pss_cons (ps_for PassesOwn.never rfl (pi_range1 (by rfl) T.b_range (pa_cons (pe_gint (by rfl) T.c_NAMES) pa_nil)) (pg_name (i := 2) sc_pairs_of.nd rfl (Or.inr rfl))
      (pss_one (ps_expr (pe_bm PySem.F.plainAttrs_list PySem.F.slot_list_extend PySem.F.type_list_extend mt_extend (pv 1) (pa_cons (pe_lc (own := [("other", 3)]) (g := (gName 3)) rfl sc_pairs_of.nd (pi_range1 (by rfl) T.b_range (pa_cons (pe_gint (by rfl) T.c_NAMES) pa_nil)) (blkOk_by (own := [("other", 3)]) (N := N_pairs_of) (sc := defScope s_pairs_of) (by decide +kernel)) (fun _ _ _ _ _ => (pg_name (i := 3) sc_pairs_of.nd rfl (Or.inl rfl))) (fun _ _ _ _ _ => (pts_one (pt_val (pe_cl D_is_pair (hr.mono (by decide)) (by exact (pa_cons (pv 0) (pa_cons (pv 2) (pa_cons (pv 3) pa_nil)))))))) (fun _ _ _ _ _ => (pe_tup (pa_cons (pv 2) (pa_cons (pv 3) pa_nil))))) pa_nil)))))
    (pss_one (ps_ret (pv 1)))))), ?_⟩
  · obtain ⟨a, h, rfl, _⟩ := h; rfl
  · obtain ⟨a, h, rfl, hh, I, q⟩ := h
    repeat walk_at "kc"
    refine ⟨sz_ok, fun l nl => ?_⟩
    have s0 := Same.upd (o := .lst []) nl
    have e0 : upd H l (.lst []) l = some (.lst []) := upd_same
    generalize upd H l (.lst []) = H0 at s0 e0
    repeat walk_at "kc"
    refine ⟨4, rfl, by omega, by omega, for_range (lo := 0) (n := 4) (fun i σ H' => ∃ v2 : Option V, σ = [some (.ref a), some (.ref l), v2, none] ∧ Same H H' ∧ LAt PrAt H' l (prs h i)) ?_ ?_ ?_⟩
    · exact ⟨none, rfl, s0, [], e0, by simp [prs, Al]⟩
    · rintro i σ H' hi ⟨v2, rfl, s1, us, hus, au⟩
      rw [Int.zero_add]
      repeat walk_at "kc"
      refine ⟨tyL hus, ?_⟩
      repeat walk_at "kc"
      refine ⟨4, rfl, by omega, by omega, fun D nD => lc_range (lo := 0) (n := 4) (fun j H2 => Same H' H2 ∧ LAt PrAt H2 D (((List.range j).filter (pairB h i)).map fun j => (i, j))) ?_ ?_ ?_⟩
      · exact ⟨Same.upd nD, [], upd_same, by simp [Al]⟩
      · rintro j H2 hj ⟨s2, ws, hws, aw⟩
        rw [Int.zero_add]
        refine r_gName ⟨rfl, ?_⟩
        repeat walk_at "kc"
        refine ⟨a, h, i, j, rfl, hh.same (s1.trans s2), I, fun H3 s3 => r_bl ?_⟩
        have hws3 := s3 _ _ hws
        refine if_by rfl (fun e => ?_) (fun e => ?_)
        · repeat walk_at "kc"
          refine ⟨sz_ok, fun p np => ?_⟩
          have s4 := Same.upd (o := .tup [.int (i : Nat), .int (j : Nat)]) np
          have ep : upd H3 p (.tup [.int (i : Nat), .int (j : Nat)]) p = some (.tup [.int (i : Nat), .int (j : Nat)]) := upd_same
          generalize upd H3 p (.tup [.int (i : Nat), .int (j : Nat)]) = H4 at s4 ep
          have hws4 := s4 _ _ hws3
          have tl : Tups H4 (upd H4 D (.lst (ws ++ [.ref p]))) := Tups.lst hws4
          refine ⟨ws, hws4, line_lt ?_, ((s2.trans s3).trans s4).put nD, _, upd_same, ?_⟩
          · rw [← aw.length]
            have := row_len h i j
            omega
          · rw [List.range_succ, List.filter_append, List.map_append]
            simp only [List.filter_cons, e, if_true, List.filter_nil, List.map_cons, List.map_nil]
            exact (aw.mono fun _ _ z => z.mono ((s3.trans s4).tups.trans tl)).app (.one ⟨p, rfl, tl _ _ ep⟩)
        · refine ⟨s2.trans s3, ws, hws3, ?_⟩
          rw [List.range_succ, List.filter_append, List.map_append]
          simp only [List.filter_cons, e, Bool.false_eq_true, if_false, List.filter_nil, List.map_nil, List.append_nil]
          exact aw.mono fun _ _ z => z.mono s3.tups
      · rintro H2 ⟨s2, ws, hws, aw⟩
        repeat walk_at "kc"
        have hus2 := s2 _ _ hus
        have tl : Tups H2 (upd H2 l (.lst (us ++ ws))) := Tups.lst hus2
        refine r_extend hus2 hws (line_of ?_) ?_
        · rw [← au.length, ← aw.length]
          have h1 := prs_len h i
          have h2 := row_len h i 4
          omega
        refine ⟨_, rfl, (s1.trans s2).put nl, us ++ ws, upd_same, ?_⟩
        rw [prs_succ]
        exact (au.mono fun _ _ z => z.mono (s2.tups.trans tl)).app (aw.mono fun _ _ z => z.mono tl)
    · rintro σ H' ⟨v2, rfl, s1, h1⟩
      repeat walk_at "kc"
      exact q H' l s1 nl h1
end
end KC

/-! ## KcMod -/
namespace KC
open PySem PySem.Spec PyProof.Rows L2
open Oc (C Axiom)
open Oc11 (House)
local macro_rules | `(tactic| walk_at "kc") => `(tactic| with_reducible (first
  | refine r_seq ?_ | refine r_ifS ?_ | refine r_asg ?_ | refine r_ret ?_ | refine r_drop ?_ | refine r_next ?_
  | refine r_op ?_ | refine r_c ?_ | refine r_cons ?_ | refine r_nil ?_ | refine r_cl ?_ | refine r_cx ?_ | refine r_cb ?_
  | refine r_test ?_ | refine r_B ?_ | refine r_and ?_ | refine r_or ?_ | refine r_not ?_ | refine r_bl ?_
  | refine r_notV ?_ | refine r_andV ?_ | refine r_orV ?_ | refine r_tup ?_ | refine r_lst ?_ | refine r_ifE ?_
  | refine r_for ?_ | refine r_lc ?_ | refine r_yes ?_ | refine r_sFld ?_ | refine r_fld ?_ | refine r_par ?_ | refine r_rng1 ?_ | refine r_enum ?_ | refine r_zip3 ?_ | refine r_raise ?_ | refine r_list ?_ | refine r_bm ?_ | refine r_I0 ?_ | refine r_eqI ?_ | refine r_eqB ?_ | refine r_neI ?_ | refine r_gName ?_ | refine r_gCons ?_ | refine r_gNil ?_
  | (refine r_var (by with_unfolding_all rfl) ?_)))
section
variable {P : Program} {w : World} {K : PySem.W.Frag} {mg : Str → Option Value} {base : Heap} {CR fI Cl aD aS aR : Addr}
/-! ### is_so -/
abbrev s_is_so : Stmt := topS 43
abbrev N_is_so : List Str := ["house", "thing", "kind", "one", "concept"]
theorem sc_is_so : FnScope N_is_so ["house", "thing", "kind"] (defScope s_is_so) := ⟨rfl, rfl, rfl, by decide +kernel, rfl, by decide +kernel, by decide +kernel⟩
def soL (as : List C) (t i : Nat) (l : List (Nat × C)) : List Bool := (l.filter fun x => x.1 == i).map fun x => Oc.holds as t x.2
theorem so_all (as : List C) (t i : Nat) (l : List (Nat × C)) : (soL as t i l).all id = l.all fun x => x.1 != i || Oc.holds as t x.2 := by
  induction l with
  | nil => rfl
  | cons x r ih =>
    rw [List.all_cons, ← ih]
    unfold soL
    by_cases e : x.1 = i
    · simp [e]
    · simp [e]
theorem so_more (as : List C) (t i : Nat) {l : List (Nat × C)} {j : Nat} {x : Nat × C} (h : l[j]? = some x) : soL as t i (l.take (j + 1)) = soL as t i (l.take j) ++ if x.1 = i then [Oc.holds as t x.2] else [] := by
  unfold soL
  rw [filter_more h, List.map_append]
  congr 1
  by_cases e : x.1 = i
  · simp [e]
  · simp [e]
theorem soL_len (as : List C) (t i : Nat) (l : List (Nat × C)) : (soL as t i l).length ≤ l.length := by
  unfold soL; rw [List.length_map]; exact List.length_filter_le _ _
def spIsSo (Cl : Addr) : Sp := fun vs H Q _ => ∃ (a : Addr) (kv : V) (h : House) (i t : Nat), vs = [.ref a, .int (i : Nat), kv] ∧ HouseAt Cl H a h ∧ KM.HInv h ∧ KAt h.atoms.length H t kv ∧ ∀ H', Same H H' → Q (.bl (KM.saysOk h.atoms h.book i t)) H'
theorem d_is_so (T : Txt K mg CR fI Cl aD aS aR) (D_holds : DefOk P w K mg base CX0 31 "holds" (spHolds 30)) (G : Glob K mg "is_so" s_is_so) : DefOk P w K mg base CX0 32 "is_so" (spIsSo Cl) := by
  refine mkDef (ps := ["house", "thing", "kind"]) G (fun _ _ _ _ _ _ us hl => match us, hl with | [_, _, _], _ => rfl) fun f fd F => F.ok sc_is_so (fun vs H Q E h => ?_) fun cdv A outer s H vs Q E hr h => ⟨_, ((pss_one (ps_ret (pe_callB (cr_all rfl) (by rfl) T.b_all boot_all_ (pa_cons (pe_lc (own := [("one", 3), ("concept", 4)]) (g := (gTup K 2 (gCons (gName 3) (gCons (gName 4) gNil)))) rfl sc_is_so.nd (pi_list (pe_fld (pv 0) rfl)) (blkOk_by (own := [("one", 3), ("concept", 4)]) (N := N_is_so) (sc := defScope s_is_so) (by decide +kernel)) (fun _ _ _ _ _ => (pg_tup rfl (pgs_cons (pg_name (i := 3) sc_is_so.nd rfl (Or.inl rfl)) (pgs_cons (pg_name (i := 4) sc_is_so.nd rfl (Or.inl rfl)) pgs_nil)))) (fun _ _ _ _ _ => (pts_one (pt_cmpR op_eq (pv 3) (pv 1) (nomark _)))) (fun _ _ _ _ _ => (pe_cl D_holds (hr.mono (by decide)) (by exact (pa_cons (pv 4) (pa_cons (pv 2) (pa_cons (fld_K (K := K) rfl (pv 0) rfl) pa_nil))))))) pa_nil))))), ?_⟩
  · obtain ⟨a, kv, h, i, t, rfl, _⟩ := h; rfl
  · obtain ⟨a, kv, h, i, t, rfl, hh, I, hk, q⟩ := h
    obtain ⟨dx, pA, pS, pT, pAt, pK, X⟩ := id hh
    obtain ⟨vs, hs, ls⟩ := X.sa
    have z := HInvAt I
    have hns := I.nsa
    repeat walk_at "kc"
    refine ⟨_, _, _, _, _, rfl, X.obj, T.cl, T.nS, lkS, ?_⟩
    refine ⟨pS, rfl, ⟨vs, .of hs⟩, fun D nD => lc_list (xs := vs) (fun j H' => Same H H' ∧ H' D = some (.lst ((soL h.atoms t i (h.book.says.take j)).map V.bl))) ?_ ?_ ?_ ?_⟩
    · exact ⟨Same.upd nD, upd_same⟩
    · rintro j H' _ ⟨s1, _⟩
      exact .of (s1 _ _ hs)
    · rintro j x H' hx ⟨s1, e1⟩
      obtain ⟨sa, hsa, p, y, rfl, hp, hy⟩ := ls.get hx
      have hm := List.mem_of_getElem? hsa
      have X1 := X.same s1
      have more := so_more h.atoms t i hsa
      refine r_gTup (s1 _ _ hp) rfl ?_
      repeat walk_at "kc"
      refine ⟨rfl, ?_⟩
      repeat walk_at "kc"
      refine if_by (c' := decide (sa.1 = i)) (by simp; omega) (fun e => ?_) (fun e => ?_)
      · have e := of_decide_eq_true e
        rw [if_pos e] at more
        repeat walk_at "kc"
        refine ⟨_, _, _, _, _, rfl, X1.obj, T.cl, T.nAt, lkAt, ?_⟩
        repeat walk_at "kc"
        refine ⟨y, kv, pAt, sa.2, t, h.atoms, rfl, hy.mono s1.tups, hk.mono s1.tups, X1.at1, z, (I.sa sa hm).1, I.zsa sa hm, I.zsa sa hm, fun H2 s2 => ?_⟩
        refine ⟨_, s2 _ _ e1, line_lt ?_, (s1.trans s2).put nD, ?_⟩
        · rw [List.length_map]
          have h1 := soL_len h.atoms t i (h.book.says.take j)
          have h2 : (h.book.says.take j).length ≤ h.book.says.length := by rw [List.length_take]; omega
          omega
        · rw [upd_same, more]; simp
      · have e := of_decide_eq_false e
        rw [if_neg e, List.append_nil] at more
        exact ⟨s1, by rw [more]; exact e1⟩
    · rintro H' ⟨s1, e1⟩
      rw [← ls.length, List.take_length] at e1
      repeat walk_at "kc"
      refine ⟨D, _, rfl, .of e1, ?_⟩
      rw [so_all]
      exact q _ s1
/-! ### are_tied -/
abbrev s_are_tied : Stmt := topS 44
abbrev N_are_tied : List Str := ["house", "placing", "role", "one", "other"]
theorem sc_are_tied : FnScope N_are_tied ["house", "placing"] (defScope s_are_tied) := ⟨rfl, rfl, rfl, by decide +kernel, rfl, by decide +kernel, by decide +kernel⟩
def spTied (Cl : Addr) : Sp := fun vs H Q _ => ∃ (a : Addr) (pv : V) (h : House) (d : List Nat), vs = [.ref a, pv] ∧ HouseAt Cl H a h ∧ KM.HInv h ∧ PlAt h.atoms.length H d pv ∧ d.length = h.book.things ∧ ∀ H', Same H H' → Q (.bl (KM.tiesOk h.atoms h.book d)) H'
theorem getD_some {d : List Nat} {i : Nat} (h : i < d.length) : d[i]? = some (d.getD i 0) := by
  rw [List.getD_eq_getElem?_getD, List.getElem?_eq_getElem h]; rfl
theorem d_are_tied (T : Txt K mg CR fI Cl aD aS aR) (D_insides : DefOk P w K mg base CX0 32 "insides" spIns) (D_fits : DefOk P w K mg base CX0 2 "fits" spFits) (G : Glob K mg "are_tied" s_are_tied) : DefOk P w K mg base CX0 33 "are_tied" (spTied Cl) := by
  refine mkDef (ps := ["house", "placing"]) G (fun _ _ _ _ _ _ us hl => match us, hl with | [_, _], _ => rfl) fun f fd F => F.ok sc_are_tied (fun vs H Q E h => ?_) fun cdv A outer s H vs Q E hr h => ⟨_, ((pss_cons (ps_for PassesOwn.never rfl (pi_list (pe_fld (pv 0) rfl)) (pg_tup rfl (pgs_cons (pg_name (i := 2) sc_are_tied.nd rfl (Or.inl rfl)) (pgs_cons (pg_name (i := 3) sc_are_tied.nd rfl (Or.inl rfl)) (pgs_cons (pg_name (i := 4) sc_are_tied.nd rfl (Or.inl rfl)) pgs_nil))))
      (pss_one (ps_if (pt_not (pt_val (pe_cl D_fits (hr.mono (by decide)) (by exact (pa_cons (pe_fld (pv 0) rfl) (pa_cons (pe_ix ix_tup (pv 1) (pv 3) (fun _ _ => rfl)) (pa_cons (pe_cl D_insides (hr.mono (by decide)) (by exact (pa_cons (pe_ix ix_tup (pv 1) (pv 4) (fun _ _ => rfl)) (pa_cons (pe_fld (pv 0) rfl) pa_nil)))) (pa_cons (pv 2) pa_nil))))))))
        (pss_one (ps_ret pe_bl))
        pss_nil)))
    (pss_one (ps_ret pe_bl)))), ?_⟩
  · obtain ⟨a, pv, h, d, rfl, _⟩ := h; rfl
  · obtain ⟨a, pv, h, d, rfl, ⟨dx, pA, pS, pT, pAt, pK, X⟩, I, ⟨p, us, rfl, hp, lu⟩, hdl, q⟩ := h
    obtain ⟨vt, ht, lt⟩ := X.ti
    have z := HInvAt I
    unfold KM.tiesOk at q
    repeat walk_at "kc"
    refine ⟨_, _, _, _, _, rfl, X.obj, T.cl, T.nT, lkT, ?_⟩
    refine ⟨pT, rfl, ⟨vt, .of ht⟩, for_list (xs := vt) (fun i σ H' => ∃ v2 v3 v4 : Option V, σ = [some (.ref a), some (.ref p), v2, v3, v4] ∧ Same H H' ∧ (h.book.ties.take i).all (fun x => Oc.fits h.atoms x.1 (d.getD x.2.1 0) (d.getD x.2.2 0)) = true) ?_ ?_ ?_ ?_⟩
    · exact ⟨none, none, none, rfl, Same.refl _, by simp⟩
    · rintro i σ H' _ ⟨v2, v3, v4, rfl, s1, _⟩
      exact .of (s1 _ _ ht)
    · rintro i x σ H' hx ⟨v2, v3, v4, rfl, s1, e1⟩
      obtain ⟨ti, hti, b, rfl, hb⟩ := lt.get hx
      obtain ⟨t0, t1, t2⟩ := I.ti ti (List.mem_of_getElem? hti)
      have X1 := X.same s1
      obtain ⟨u1, hu1, k1⟩ := lu.at (getD_some (d := d) (i := ti.2.1) (by omega))
      obtain ⟨u2, hu2, k2⟩ := lu.at (getD_some (d := d) (i := ti.2.2) (by omega))
      have hp1 := s1 _ _ hp
      refine r_gTup (s1 _ _ hb) rfl ?_
      repeat walk_at "kc"
      refine ⟨_, _, _, _, _, rfl, X1.obj, T.cl, T.nAt, lkAt, ?_⟩
      repeat walk_at "kc"
      refine r_ixT hp1 (j := ti.2.1) rfl hu1 ?_
      repeat walk_at "kc"
      refine r_ixT hp1 (j := ti.2.2) rfl hu2 ?_
      repeat walk_at "kc"
      refine ⟨_, _, _, _, _, rfl, X1.obj, T.cl, T.nAt, lkAt, ?_⟩
      repeat walk_at "kc"
      refine ⟨u2, pAt, _, h.atoms, rfl, k2.mono s1.tups, X1.at1, z, fun H2 pi s2 np hpi => ?_⟩
      have s12 := s1.trans s2
      have X2 := X.same s12
      repeat walk_at "kc"
      refine ⟨pAt, u1, pi, ti.1, _, _, h.atoms, rfl, X2.at1, k1.mono s12.tups, hpi, z, fun H3 s3 => r_bl ?_⟩
      have s13 := s12.trans s3
      refine if_by rfl (fun e => ?_) (fun e => ?_)
      · repeat walk_at "kc"
        rw [all_false hti (by simpa using e)] at q
        exact q _ s13
      · repeat walk_at "kc"
        refine ⟨_, _, _, rfl, s13, ?_⟩
        rw [take_more hti, List.all_append, e1]
        simpa using e
    · rintro σ H' ⟨v2, v3, v4, rfl, s1, e1⟩
      repeat walk_at "kc"
      rw [← lt.length, List.take_length] at e1
      rw [e1] at q
      exact q _ s1
end
end KC

/-! ## KcMod2 -/
namespace KC
open PySem PySem.Spec PyProof.Rows L2
open Oc (C Axiom)
open Oc11 (House)
local macro_rules | `(tactic| walk_at "kc") => `(tactic| with_reducible (first
  | refine r_seq ?_ | refine r_ifS ?_ | refine r_asg ?_ | refine r_ret ?_ | refine r_drop ?_ | refine r_next ?_
  | refine r_op ?_ | refine r_c ?_ | refine r_cons ?_ | refine r_nil ?_ | refine r_cl ?_ | refine r_cx ?_ | refine r_cb ?_
  | refine r_test ?_ | refine r_B ?_ | refine r_and ?_ | refine r_or ?_ | refine r_not ?_ | refine r_bl ?_
  | refine r_notV ?_ | refine r_andV ?_ | refine r_orV ?_ | refine r_tup ?_ | refine r_lst ?_ | refine r_ifE ?_
  | refine r_for ?_ | refine r_lc ?_ | refine r_yes ?_ | refine r_sFld ?_ | refine r_fld ?_ | refine r_par ?_ | refine r_rng1 ?_ | refine r_enum ?_ | refine r_zip3 ?_ | refine r_raise ?_ | refine r_list ?_ | refine r_bm ?_ | refine r_I0 ?_ | refine r_eqI ?_ | refine r_eqB ?_ | refine r_neI ?_ | refine r_gName ?_ | refine r_gCons ?_ | refine r_gNil ?_
  | (refine r_var (by with_unfolding_all rfl) ?_)))
section
variable {P : Program} {w : World} {K : PySem.W.Frag} {mg : Str → Option Value} {base : Heap} {CR fI Cl aD aS aR : Addr}
/-! ### placings -/
abbrev s_placings : Stmt := topS 45
abbrev N_placings : List Str := ["house", "found", "thing", "some", "more", "placing", "kind"]
theorem sc_placings : FnScope N_placings ["house"] (defScope s_placings) := ⟨rfl, rfl, rfl, by decide +kernel, rfl, by decide +kernel, by decide +kernel⟩
theorem types_len {h : House} (I : KM.HInv h) : h.types.length ≤ 64 := by
  rw [I.ty]
  exact Nat.le_trans (KM.types_isF _ _).len (pow_le I.nat)
theorem step_len (as : List C) (b : Oc03.Book) (l : List Nat) (found : List (List Nat)) (i : Nat) : (KM.step1 as b l found i).length ≤ found.length * l.length := by
  unfold KM.step1
  induction found with
  | nil => simp
  | cons d r ih =>
    rw [List.flatMap_cons, List.length_append, List.length_map, List.length_cons, Nat.succ_mul]
    have := List.length_filter_le (KM.saysOk as b i) l
    omega
theorem allP_len {as : List C} {b : Oc03.Book} {l : List Nat} (hl : l.length ≤ 64) : ∀ n, n ≤ 2 → (KM.allP as b l n).length ≤ 64 ^ n
  | 0, _ => by show ([[]] : List (List Nat)).length ≤ _; simp
  | n + 1, h => by
    rw [KM.allP_succ]
    have h1 := step_len as b l (KM.allP as b l n) n
    have h2 := allP_len (as := as) (b := b) hl n (by omega)
    have h3 : (KM.allP as b l n).length * l.length ≤ 64 ^ n * 64 := Nat.mul_le_mul h2 hl
    rw [Nat.pow_succ]
    omega
theorem pow64 {n : Nat} (h : n ≤ 2) : 64 ^ n ≤ 4096 := Nat.pow_le_pow_right (n := 64) (by omega) h
def spPl (Cl : Addr) : Sp := fun vs H Q _ => ∃ (a : Addr) (h : House), vs = [.ref a] ∧ HouseAt Cl H a h ∧ KM.HInv h ∧ ∀ H' p, Same H H' → H p = none → LAt (PlAt h.atoms.length) H' p (KM.plcs h) → Q (.ref p) H'
theorem d_placings (T : Txt K mg CR fI Cl aD aS aR) (D_is_so : DefOk P w K mg base CX0 32 "is_so" (spIsSo Cl)) (D_are_tied : DefOk P w K mg base CX0 33 "are_tied" (spTied Cl)) (G : Glob K mg "placings" s_placings) : DefOk P w K mg base CX0 34 "placings" (spPl Cl) := by
  refine mkDef (ps := ["house"]) G (fun _ _ _ _ _ _ us hl => match us, hl with | [_], _ => rfl) fun f fd F => F.ok sc_placings (fun vs H Q E h => ?_) fun cdv A outer s H vs Q E hr h => ⟨_, ((pss_cons (ps_set (i := 1) sc_placings.nd rfl (Or.inl rfl) (pe_lst (pa_cons (pe_tup pa_nil) pa_nil)))
    (pss_cons (ps_for PassesOwn.never rfl (pi_range1 (by rfl) T.b_range (pa_cons (pe_fld (pv 0) rfl) pa_nil)) (pg_name (i := 2) sc_placings.nd rfl (Or.inr rfl))
      (pss_cons (ps_setLc (i := 3) (own := [("kind", 6)]) (g := (gName 6)) rfl sc_placings.nd rfl rfl (sw_true rfl rfl rfl (by decide +kernel)) (pi_list (pe_fld (pv 0) rfl)) (blkOk_by (own := [("kind", 6)]) (N := N_placings) (sc := defScope s_placings) (by decide +kernel)) (fun _ _ _ _ _ => (pg_name (i := 6) sc_placings.nd rfl (Or.inl rfl))) (fun _ _ _ _ _ => (pts_one (pt_val (pe_cl D_is_so (hr.mono (by decide)) (by exact (pa_cons (pv 0) (pa_cons (pv 2) (pa_cons (pv 6) pa_nil)))))))) (fun _ _ _ _ _ => (pv 6)))
      (pss_cons (ps_set (i := 4) sc_placings.nd rfl (Or.inl rfl) (pe_lst pa_nil))
      (pss_cons (ps_for PassesOwn.never rfl (pi_list (pv 1)) (pg_name (i := 5) sc_placings.nd rfl (Or.inr rfl))
        (pss_one (ps_expr (pe_bm PySem.F.plainAttrs_list PySem.F.slot_list_extend PySem.F.type_list_extend mt_extend (pv 4) (pa_cons (pe_lc (own := [("kind", 6)]) (g := (gName 6)) (tt := tYes) rfl sc_placings.nd (pi_list (pv 3)) (blkOk_by (own := [("kind", 6)]) (N := N_placings) (sc := defScope s_placings) (by decide +kernel)) (fun _ _ _ _ _ => (pg_name (i := 6) sc_placings.nd rfl (Or.inl rfl))) (fun _ _ _ _ _ => pts_nil) (fun _ _ _ _ _ => (pe_op (catA_K (K := K) rfl) (pv 5) (pe_tup (pa_cons (pv 6) pa_nil))))) pa_nil)))))
      (pss_one (ps_set (i := 1) sc_placings.nd rfl (Or.inl rfl) (pv 4)))))))
    (pss_one (ps_ret (pe_lc (own := [("placing", 5)]) (g := (gName 5)) rfl sc_placings.nd (pi_list (pv 1)) (blkOk_by (own := [("placing", 5)]) (N := N_placings) (sc := defScope s_placings) (by decide +kernel)) (fun _ _ _ _ _ => (pg_name (i := 5) sc_placings.nd rfl (Or.inl rfl))) (fun _ _ _ _ _ => (pts_one (pt_val (pe_cl D_are_tied (hr.mono (by decide)) (by exact (pa_cons (pv 0) (pa_cons (pv 5) pa_nil))))))) (fun _ _ _ _ _ => (pv 5)))))))), ?_⟩
  · obtain ⟨a, h, rfl, _⟩ := h; rfl
  · obtain ⟨a, h, rfl, hh, I, q⟩ := h
    obtain ⟨dx, pA, pS, pT, pAt, pK, X⟩ := id hh
    obtain ⟨vk, hk, lk⟩ := X.ki
    have hth := I.nth
    have h64 := types_len I
    repeat walk_at "kc"
    refine ⟨sz_ok, fun e0 n0 => ?_⟩
    have s0 := Same.upd (o := .tup []) n0
    have z0 : upd H e0 (.tup []) e0 = some (.tup []) := upd_same
    generalize upd H e0 (.tup []) = H0 at s0 z0
    repeat walk_at "kc"
    refine ⟨sz_ok, fun l0 m0 => ?_⟩
    have k1 := Same.upd (o := .lst [.ref e0]) m0
    have y0 : upd H0 l0 (.lst [.ref e0]) l0 = some (.lst [.ref e0]) := upd_same
    generalize upd H0 l0 (.lst [.ref e0]) = H1 at k1 y0
    have s1 := s0.trans k1
    repeat walk_at "kc"
    refine ⟨_, _, _, _, _, rfl, s1 _ _ X.obj, T.cl, T.nN, lkN, ?_⟩
    repeat walk_at "kc"
    refine ⟨h.book.things, rfl, by omega, by omega, for_range (lo := 0) (n := h.book.things) (fun i σ H' => ∃ (l : Addr) (v2 v3 v4 v5 : Option V), σ = [some (.ref a), some (.ref l), v2, v3, v4, v5, none] ∧ Same H H' ∧ H l = none ∧ LAt (PlAt h.atoms.length) H' l (KM.allP h.atoms h.book h.types i)) ?_ ?_ ?_⟩
    · exact ⟨l0, none, none, none, none, rfl, s1, s0.free m0, [.ref e0], y0, ⟨e0, [], rfl, k1 _ _ z0, trivial⟩, trivial⟩
    · rintro i σ H' hi ⟨l, v2, v3, v4, v5, rfl, s2, nl, us, hus, au⟩
      have ilen := allP_len (as := h.atoms) (b := h.book) h64 i (by omega)
      have p64 := pow64 (n := i) (by omega)
      have p64' := pow64 (n := i + 1) (by omega)
      have ilen' := allP_len (as := h.atoms) (b := h.book) h64 (i + 1) (by omega)
      rw [Int.zero_add]
      have X2 := X.same s2
      repeat walk_at "kc"
      refine ⟨_, _, _, _, _, rfl, X2.obj, T.cl, T.nK, lkK, ?_⟩
      refine ⟨pK, rfl, ⟨vk, .of (s2 _ _ hk)⟩, fun D nD => lc_list (xs := vk) (fun j H2 => Same H' H2 ∧ LAt (KAt h.atoms.length) H2 D ((h.types.take j).filter (KM.saysOk h.atoms h.book i))) ?_ ?_ ?_ ?_⟩
      · exact ⟨Same.upd nD, [], upd_same, by simp [Al]⟩
      · rintro j H2 _ ⟨s3, _⟩
        exact .of (s3 _ _ (s2 _ _ hk))
      · rintro j x H2 hx ⟨s3, ws, hws, aw⟩
        obtain ⟨t, ht, htx⟩ := lk.get hx
        have s23 := s2.trans s3
        refine r_gName ⟨rfl, ?_⟩
        repeat walk_at "kc"
        refine ⟨a, x, h, i, t, rfl, hh.same s23, I, htx.mono s23.tups, fun H3 s4 => r_bl ?_⟩
        have hws3 := s4 _ _ hws
        refine if_by rfl (fun e => ?_) (fun e => ?_)
        · repeat walk_at "kc"
          refine ⟨ws, hws3, line_lt ?_, (s3.trans s4).put nD, _, upd_same, ?_⟩
          · rw [← aw.length]
            have h1 := List.length_filter_le (KM.saysOk h.atoms h.book i) (h.types.take j)
            rw [List.length_take] at h1
            omega
          · rw [filter_more ht, if_pos e]
            have tl : Tups H3 (upd H3 D (.lst (ws ++ [x]))) := Tups.lst hws3
            exact (aw.mono fun _ _ z => z.mono (s4.tups.trans tl)).app (.one (htx.mono ((s23.trans s4).tups.trans tl)))
        · refine ⟨s3.trans s4, ws, hws3, ?_⟩
          rw [filter_more ht, if_neg (by rw [e]; simp), List.append_nil]
          exact aw.mono fun _ _ z => z.mono s4.tups
      · rintro H2 ⟨s3, ws, hws, aw⟩
        rw [← lk.length, List.take_length] at aw
        have hus2 := s3 _ _ hus
        have au2 := au.mono fun _ _ z => z.mono s3.tups
        have s23 := s2.trans s3
        refine r_gName ?_
        refine r_seq (r_asg (r_lst (r_nil ⟨sz_ok, fun m nm => ?_⟩)))
        have s4 := Same.upd (o := .lst []) nm
        have em : upd H2 m (.lst []) m = some (.lst []) := upd_same
        have nlm : l ≠ m := fun e => by rw [e, nm] at hus2; cases hus2
        have nDm : D ≠ m := fun e => by rw [e, nm] at hws; cases hws
        generalize upd H2 m (.lst []) = H3 at s4 em
        have nmH : H m = none := s23.free nm
        repeat walk_at "kc"
        have slen : (h.types.filter (KM.saysOk h.atoms h.book i)).length ≤ 64 := Nat.le_trans (List.length_filter_le _ _) h64
        refine ⟨l, rfl, ⟨us, .of (s4 _ _ hus2)⟩, for_list (xs := us) (fun j σ H4 => ∃ (v5' : Option V), σ = [some (.ref a), some (.ref l), some (.int (i : Nat)), some (.ref D), some (.ref m), v5', none] ∧ Same H H4 ∧ Tups H3 H4 ∧ H4 l = some (.lst us) ∧ H4 D = some (.lst ws) ∧ LAt (PlAt h.atoms.length) H4 m (KM.step1 h.atoms h.book h.types ((KM.allP h.atoms h.book h.types i).take j) i)) ?_ ?_ ?_ ?_⟩
        · exact ⟨v5, rfl, s23.trans s4, Tups.refl _, s4 _ _ hus2, s4 _ _ hws, [], em, by simp [KM.step1, Al]⟩
        · rintro j σ H4 _ ⟨v5', rfl, _, _, e, _⟩
          exact .of e
        · rintro j x σ H4 hx ⟨v5', rfl, s5, t5, el, eD, xs, hxs, ax⟩
          obtain ⟨d, hd, hdx⟩ := au2.get hx
          have hd4 := hdx.mono (s4.tups.trans t5)
          obtain ⟨pd, dv, rfl, hpd, adv⟩ := hd4
          have more : KM.step1 h.atoms h.book h.types ((KM.allP h.atoms h.book h.types i).take (j + 1)) i = KM.step1 h.atoms h.book h.types ((KM.allP h.atoms h.book h.types i).take j) i ++ (h.types.filter (KM.saysOk h.atoms h.book i)).map fun t => d ++ [t] := by
            unfold KM.step1
            rw [take_more hd, List.flatMap_append]; simp
          have dlen : d.length = i := (KM.mem_allP.mp (List.mem_of_getElem? hd)).1
          repeat walk_at "kc"
          refine ⟨tyL hxs, ?_⟩
          repeat walk_at "kc"
          refine ⟨D, rfl, ⟨ws, .of eD⟩, fun D2 nD2 => lc_list (xs := ws) (fun k H5 => Same H4 H5 ∧ LAt (PlAt h.atoms.length) H5 D2 (((h.types.filter (KM.saysOk h.atoms h.book i)).take k).map fun t => d ++ [t])) ?_ ?_ ?_ ?_⟩
          · exact ⟨Same.upd nD2, [], upd_same, by simp [Al]⟩
          · rintro k H5 _ ⟨s6, _⟩
            exact .of (s6 _ _ eD)
          · rintro k y H5 hy ⟨s6, zs, hzs, az⟩
            have aw4 := aw.mono fun _ _ z => z.mono (s4.tups.trans t5)
            obtain ⟨t, ht, hty⟩ := aw4.get hy
            refine r_gName ⟨rfl, ?_⟩
            repeat walk_at "kc"
            refine if_t rfl ?_
            repeat walk_at "kc"
            refine ⟨sz_ok, fun p np => ?_⟩
            have s7 := Same.upd (o := .tup [y]) np
            have ep : upd H5 p (.tup [y]) p = some (.tup [y]) := upd_same
            generalize upd H5 p (.tup [y]) = H6 at s7 ep
            have hpd6 := (s6.trans s7) _ _ hpd
            have small : zs.length < sizeLine := by
              refine line_lt ?_
              rw [← az.length, List.length_map, List.length_take]
              omega
            have fin : ∀ (H7 : Hp) (c : Addr) (cv : List V), Same H6 H7 → H7 c = some (.tup cv) → Al (KAt h.atoms.length H7) (d ++ [t]) cv → ∃ acc, H7 D2 = some (.lst acc) ∧ acc.length < sizeLine ∧ (Same H4 (upd H7 D2 (.lst (acc ++ [.ref c]))) ∧ LAt (PlAt h.atoms.length) (upd H7 D2 (.lst (acc ++ [.ref c]))) D2 (((h.types.filter (KM.saysOk h.atoms h.book i)).take (k + 1)).map fun t => d ++ [t])) := fun H7 c cv s8 hc ac => by
              have hz7 := s8 _ _ (s7 _ _ hzs)
              have tl : Tups H7 (upd H7 D2 (.lst (zs ++ [.ref c]))) := Tups.lst hz7
              refine ⟨zs, hz7, small, ((s6.trans s7).trans s8).put nD2, _, upd_same, ?_⟩
              rw [take_more ht, List.map_append]
              exact (az.mono fun _ _ z => z.mono ((s7.trans s8).tups.trans tl)).app (.one ⟨c, cv, rfl, tl _ _ hc, ac.mono fun _ _ z => z.mono tl⟩)
            refine ⟨pd, p, dv, [y], rfl, rfl, .of hpd6, .of ep, line_of (by rw [← adv.length]; simp; omega), fun he => ?_, fun _ hy => (by cases hy), fun he _ c hc => ?_⟩
            · have hd0 : d = [] := by
                have := adv.length
                rw [he] at this
                simpa using this
              refine fin _ p [y] (Same.refl _) ep ?_
              rw [hd0]
              exact .one (hty.mono (s6.trans s7).tups)
            · have s8 := Same.upd (o := .tup (dv ++ [y])) hc
              refine fin _ c _ s8 upd_same ?_
              exact (adv.mono fun _ _ z => z.mono ((s6.trans s7).trans s8).tups).app (.one (hty.mono ((s6.trans s7).trans s8).tups))
          · rintro H5 ⟨s6, zs, hzs, az⟩
            rw [← aw.length, List.take_length] at az
            repeat walk_at "kc"
            have hxs5 := s6 _ _ hxs
            have tl : Tups H5 (upd H5 m (.lst (xs ++ zs))) := Tups.lst hxs5
            refine r_extend hxs5 hzs (line_of ?_) ?_
            · rw [← ax.length, ← az.length]
              have h1 := step_len h.atoms h.book h.types ((KM.allP h.atoms h.book h.types i).take j) i
              have h2 : ((KM.allP h.atoms h.book h.types i).take j).length ≤ (KM.allP h.atoms h.book h.types i).length := by rw [List.length_take]; omega
              have h3 : ((KM.allP h.atoms h.book h.types i).take j).length * h.types.length ≤ 4096 * 64 := Nat.mul_le_mul (by omega) h64
              rw [List.length_map]
              omega
            refine ⟨_, rfl, (s5.trans s6).put nmH, (t5.trans s6.tups).trans tl, by rw [upd_ne nlm]; exact s6 _ _ el, by rw [upd_ne nDm]; exact s6 _ _ eD, xs ++ zs, upd_same, ?_⟩
            rw [more]
            exact (ax.mono fun _ _ z => z.mono (s6.tups.trans tl)).app (az.mono fun _ _ z => z.mono tl)
        · rintro σ H4 ⟨v5', rfl, s5, t5, el, eD, xs, hxs, ax⟩
          rw [← au.length, List.take_length] at ax
          repeat walk_at "kc"
          refine ⟨m, _, _, _, _, rfl, s5, nmH, xs, hxs, ?_⟩
          rw [KM.allP_succ]
          exact ax
    · rintro σ H' ⟨l, v2, v3, v4, v5, rfl, s2, nl, us, hus, au⟩
      repeat walk_at "kc"
      have alen := allP_len (as := h.atoms) (b := h.book) h64 h.book.things hth
      have p64 := pow64 hth
      refine ⟨l, rfl, ⟨us, .of hus⟩, fun D nD => lc_list (xs := us) (fun j H2 => Same H' H2 ∧ LAt (PlAt h.atoms.length) H2 D (((KM.allP h.atoms h.book h.types h.book.things).take j).filter (KM.tiesOk h.atoms h.book))) ?_ ?_ ?_ ?_⟩
      · exact ⟨Same.upd nD, [], upd_same, by simp [Al]⟩
      · rintro j H2 _ ⟨s3, _⟩
        exact .of (s3 _ _ hus)
      · rintro j x H2 hx ⟨s3, ws, hws, aw⟩
        obtain ⟨d, hd, hdx⟩ := au.get hx
        have s23 := s2.trans s3
        have dlen := (KM.mem_allP.mp (List.mem_of_getElem? hd)).1
        refine r_gName ⟨rfl, ?_⟩
        repeat walk_at "kc"
        refine ⟨a, x, h, d, rfl, hh.same s23, I, hdx.mono s3.tups, dlen, fun H3 s4 => r_bl ?_⟩
        have hws3 := s4 _ _ hws
        refine if_by rfl (fun e => ?_) (fun e => ?_)
        · repeat walk_at "kc"
          refine ⟨ws, hws3, line_lt ?_, (s3.trans s4).put nD, _, upd_same, ?_⟩
          · rw [← aw.length]
            have h1 := List.length_filter_le (KM.tiesOk h.atoms h.book) ((KM.allP h.atoms h.book h.types h.book.things).take j)
            rw [List.length_take] at h1
            omega
          · rw [filter_more hd, if_pos e]
            have tl : Tups H3 (upd H3 D (.lst (ws ++ [x]))) := Tups.lst hws3
            exact (aw.mono fun _ _ z => z.mono (s4.tups.trans tl)).app (.one (hdx.mono ((s3.trans s4).tups.trans tl)))
        · refine ⟨s3.trans s4, ws, hws3, ?_⟩
          rw [filter_more hd, if_neg (by rw [e]; simp), List.append_nil]
          exact aw.mono fun _ _ z => z.mono s4.tups
      · rintro H2 ⟨s3, ws, hws, aw⟩
        rw [← au.length, List.take_length] at aw
        exact q H2 D (s2.trans s3) (s2.free nD) ⟨ws, hws, aw⟩
end
end KC

/-! ## KcMod3 -/
namespace KC
open PySem PySem.Spec PyProof.Rows L2
open Oc (C Axiom)
open Oc11 (House)
local macro_rules | `(tactic| walk_at "kc") => `(tactic| with_reducible (first
  | refine r_seq ?_ | refine r_ifS ?_ | refine r_asg ?_ | refine r_ret ?_ | refine r_drop ?_ | refine r_next ?_
  | refine r_op ?_ | refine r_c ?_ | refine r_cons ?_ | refine r_nil ?_ | refine r_cl ?_ | refine r_cx ?_ | refine r_cb ?_
  | refine r_test ?_ | refine r_B ?_ | refine r_and ?_ | refine r_or ?_ | refine r_not ?_ | refine r_bl ?_
  | refine r_notV ?_ | refine r_andV ?_ | refine r_orV ?_ | refine r_tup ?_ | refine r_lst ?_ | refine r_ifE ?_
  | refine r_for ?_ | refine r_lc ?_ | refine r_yes ?_ | refine r_sFld ?_ | refine r_fld ?_ | refine r_par ?_ | refine r_rng1 ?_ | refine r_enum ?_ | refine r_zip3 ?_ | refine r_raise ?_ | refine r_list ?_ | refine r_bm ?_ | refine r_I0 ?_ | refine r_eqI ?_ | refine r_eqB ?_ | refine r_neI ?_ | refine r_gName ?_ | refine r_gCons ?_ | refine r_gNil ?_
  | (refine r_var (by with_unfolding_all rfl) ?_)))
section
variable {P : Program} {w : World} {K : PySem.W.Frag} {mg : Str → Option Value} {base : Heap} {CR fI Cl aD aS aR : Addr}
/-! ### is_whole -/
def bitsI (n t : Nat) : List Int := (List.range n).map fun k => b01 (Oc.bit t k)
def kD (n t : Nat) : PyData := .tuple ((bitsI n t).map PyData.int)
def plD (n : Nat) (d : List Nat) : PyData := .tuple (d.map (kD n))
theorem dp_ints {K : PySem.W.Frag} {H : Hp} : ∀ l : List Int, DpAll K H (l.map V.int) (l.map PyData.int)
  | [] => .nil
  | i :: l => .cons (.int i) (dp_ints l)
theorem KAt.dp {K : PySem.W.Frag} {n : Nat} {H : Hp} {t : Nat} {v : V} : KAt n H t v → Dp K H v (kD n t) := fun ⟨a, e, h⟩ => by
  subst e
  have e2 : bitsV n t = (bitsI n t).map V.int := by unfold bitsV bitsI; rw [List.map_map]; rfl
  rw [e2] at h
  exact .tup (.of h) (dp_ints _)
theorem PlAt.dp {K : PySem.W.Frag} {n : Nat} {H : Hp} {d : List Nat} {v : V} : PlAt n H d v → Dp K H v (plD n d) := fun ⟨a, vs, e, h, l⟩ => by
  subst e
  exact .tup (.of h) (l.dps fun _ _ z => z.dp)
theorem kD_lay (n t : Nat) : (kD n t).canLay0 = true := by
  unfold kD
  simp only [PyData.canLay0]
  exact lay_map (f := PyData.int) fun _ _ => by simp [PyData.canLay0]
theorem kD_depth (n t : Nat) : (kD n t).depth ≤ 1 := by
  unfold kD
  have := depth_map (f := PyData.int) (n := 0) (l := bitsI n t) fun _ _ => by simp [PyData.depth]
  simp only [PyData.depth]
  omega
theorem plD_lay (n : Nat) (d : List Nat) : (plD n d).canLay0 = true := by
  unfold plD
  simp only [PyData.canLay0]
  exact lay_map fun t _ => kD_lay n t
theorem plD_depth (n : Nat) (d : List Nat) : (plD n d).depth ≤ 2 := by
  unfold plD
  have := depth_map (f := kD n) (n := 1) (l := d) fun t _ => kD_depth n t
  simp only [PyData.depth]
  omega
theorem eqv_empty {α : Type} (f : α → PyData) (l : List α) : PyData.eqv (.list (l.map f)) (.list []) = l.isEmpty := by
  rw [eqv_list]
  cases l with
  | nil => rw [List.map_nil, eqv_nn]; rfl
  | cons x r => rw [List.map_cons, eqv_cn]; rfl
theorem nil_shaped : SeqAt.shaped (.list []) = true := list_shaped (α := Nat) (f := fun _ => .none) (n := 0) (l := []) (by simp) (by simp) (by omega)
abbrev s_is_whole : Stmt := topS 46
abbrev N_is_whole : List Str := ["house"]
theorem sc_is_whole : FnScope N_is_whole ["house"] (defScope s_is_whole) := ⟨rfl, rfl, rfl, by decide +kernel, rfl, by decide +kernel, by decide +kernel⟩
def spWhole (Cl : Addr) : Sp := fun vs H Q _ => ∃ (a : Addr) (h : House), vs = [.ref a] ∧ HouseAt Cl H a h ∧ KM.HInv h ∧ ∀ H', Same H H' → Q (.bl (h.whole [])) H'
theorem whole_is {h : House} (I : KM.HInv h) : h.whole [] = (!h.types.isEmpty && !(KM.plcs h).isEmpty) := by
  rw [Bool.eq_iff_iff, KM.whole_nil I]
  simp
theorem d_is_whole (T : Txt K mg CR fI Cl aD aS aR) (D_placings : DefOk P w K mg base CX0 34 "placings" (spPl Cl)) (G : Glob K mg "is_whole" s_is_whole) : DefOk P w K mg base CX0 35 "is_whole" (spWhole Cl) := by
  refine mkDef (ps := ["house"]) G (fun _ _ _ _ _ _ us hl => match us, hl with | [_], _ => rfl) fun f fd F => F.ok sc_is_whole (fun vs H Q E h => ?_) fun cdv A outer s H vs Q E hr h => ⟨_, ((pss_one (ps_ret (pe_and (pe_cmpR (op_neD hr.units) (pe_fld (pv 0) rfl) (pe_lst pa_nil) (nomark _)) (pe_one (pe_cmpR (op_neD hr.units) (pe_cl D_placings (hr.mono (by decide)) (by exact (pa_cons (pv 0) pa_nil))) (pe_lst pa_nil) (nomark _))))))), ?_⟩
  · obtain ⟨a, h, rfl, _⟩ := h; rfl
  · obtain ⟨a, h, rfl, hh, I, q⟩ := h
    obtain ⟨dx, pA, pS, pT, pAt, pK, X⟩ := id hh
    rw [whole_is I] at q
    repeat walk_at "kc"
    refine ⟨_, _, _, _, _, rfl, X.obj, T.cl, T.nK, lkK, ?_⟩
    repeat walk_at "kc"
    refine ⟨sz_ok, fun p np => ?_⟩
    have s1 := Same.upd (o := .lst []) np
    have ep : upd H p (.lst []) p = some (.lst []) := upd_same
    generalize upd H p (.lst []) = H1 at s1 ep
    have X1 := X.same s1
    refine ⟨.list (h.types.map (kD h.atoms.length)), .list [], X1.ki.dp fun _ _ z => z.dp, .lst (.of ep) .nil, list_shaped (n := 1) (fun t _ => kD_lay _ t) (fun t _ => kD_depth _ t) (by omega), nil_shaped, r_bl ?_⟩
    rw [eqv_empty]
    refine if_by rfl (fun e => ?_) (fun e => ?_)
    · repeat walk_at "kc"
      refine ⟨a, h, rfl, hh.same s1, I, fun H2 l s2 nl hl => ?_⟩
      repeat walk_at "kc"
      refine ⟨sz_ok, fun p2 np2 => ?_⟩
      have s3 := Same.upd (o := .lst []) np2
      have ep2 : upd H2 p2 (.lst []) p2 = some (.lst []) := upd_same
      generalize upd H2 p2 (.lst []) = H3 at s3 ep2
      refine ⟨.list ((KM.plcs h).map (plD h.atoms.length)), .list [], (LAt.pls s3 hl).dp fun _ _ z => z.dp, .lst (.of ep2) .nil, list_shaped (n := 2) (fun t _ => plD_lay _ t) (fun t _ => plD_depth _ t) (by omega), nil_shaped, ?_⟩
      rw [eqv_empty]
      rw [e, Bool.true_and] at q
      exact q _ ((s1.trans s2).trans s3)
    · rw [e, Bool.false_and] at q
      exact q _ s1
/-! ### surely -/
abbrev s_surely : Stmt := topS 47
abbrev N_surely : List Str := ["house", "thing", "concept", "truths", "placing"]
theorem sc_surely : FnScope N_surely ["house", "thing", "concept"] (defScope s_surely) := ⟨rfl, rfl, rfl, by decide +kernel, rfl, by decide +kernel, by decide +kernel⟩
def spSure (Cl : Addr) : Sp := fun vs H Q _ => ∃ (a : Addr) (i : Nat) (cv : V) (h : House) (c : C), vs = [.ref a, .int (i : Nat), cv] ∧ HouseAt Cl H a h ∧ KM.HInv h ∧ ConAt H c cv ∧ KM.Sub c h.atoms ∧ KM.size c ≤ 30 ∧ i < h.book.things ∧ h.whole [] = true ∧
  ∀ H', Same H H' → Q (.int (h.is i c : Nat)) H'
theorem plcs_len {h : House} (I : KM.HInv h) : (KM.plcs h).length ≤ 4096 := by
  unfold KM.plcs
  have h1 := List.length_filter_le (KM.tiesOk h.atoms h.book) (KM.allP h.atoms h.book h.types h.book.things)
  have h2 := allP_len (as := h.atoms) (b := h.book) (types_len I) h.book.things I.nth
  have h3 := pow64 I.nth
  omega
theorem d_surely (T : Txt K mg CR fI Cl aD aS aR) (D_placings : DefOk P w K mg base CX0 34 "placings" (spPl Cl)) (D_holds : DefOk P w K mg base CX0 31 "holds" (spHolds 30)) (G : Glob K mg "surely" s_surely) : DefOk P w K mg base CX0 35 "surely" (spSure Cl) := by
  refine mkDef (ps := ["house", "thing", "concept"]) G (fun _ _ _ _ _ _ us hl => match us, hl with | [_, _, _], _ => rfl) fun f fd F => F.ok sc_surely (fun vs H Q E h => ?_) fun cdv A outer s H vs Q E hr h => ⟨_, ((pss_cons (ps_setLc (i := 3) (own := [("placing", 4)]) (g := (gName 4)) (tt := tYes) rfl sc_surely.nd rfl rfl (sw_true rfl rfl rfl (by decide +kernel)) (pi_list (pe_cl D_placings (hr.mono (by decide)) (by exact (pa_cons (pv 0) pa_nil)))) (blkOk_by (own := [("placing", 4)]) (N := N_surely) (sc := defScope s_surely) (by decide +kernel)) (fun _ _ _ _ _ => (pg_name (i := 4) sc_surely.nd rfl (Or.inl rfl))) (fun _ _ _ _ _ => pts_nil) (fun _ _ _ _ _ => (pe_cl D_holds (hr.mono (by decide)) (by exact (pa_cons (pv 2) (pa_cons (pe_ix (ixT_K (K := K) rfl) (pv 4) (pv 1) (fun _ _ => rfl)) (pa_cons (fld_K (K := K) rfl (pv 0) rfl) pa_nil)))))))
    (pss_cons (ps_if (pt_val (pe_callB (cr_all rfl) (by rfl) T.b_all boot_all_ (pa_cons (pv 3) pa_nil)))
      (pss_one (ps_ret pe_int))
      pss_nil)
    (pss_one (ps_ret (pe_callTy call_int1 (by rfl) T.b_int boot_int_ (pa_cons (pe_callB (cr_any rfl) (by rfl) T.b_any boot_any_ (pa_cons (pv 3) pa_nil)) pa_nil))))))), ?_⟩
  · obtain ⟨a, i, cv, h, c, rfl, _⟩ := h; rfl
  · obtain ⟨a, i, cv, h, c, rfl, hh, I, hc, sc, zc, hi, hw, q⟩ := h
    obtain ⟨dx, pA, pS, pT, pAt, pK, X⟩ := id hh
    have z := HInvAt I
    have plen := plcs_len I
    rw [KM.is_eq I hi hw] at q
    repeat walk_at "kc"
    refine ⟨a, h, rfl, hh, I, fun H1 l s1 nl hl => ?_⟩
    obtain ⟨us, hus, au⟩ := hl
    refine ⟨l, rfl, ⟨us, .of hus⟩, fun D nD => lc_list (xs := us) (fun j H2 => Same H1 H2 ∧ H2 D = some (.lst ((((KM.plcs h).take j).map fun d => Oc.holds h.atoms (d.getD i 0) c).map V.bl))) ?_ ?_ ?_ ?_⟩
    · exact ⟨Same.upd nD, upd_same⟩
    · rintro j H2 _ ⟨s2, _⟩
      exact .of (s2 _ _ hus)
    · rintro j x H2 hx ⟨s2, e2⟩
      obtain ⟨d, hd, p, dv, rfl, hp, ad⟩ := au.get hx
      have dlen := (KM.mem_plcs.mp (List.mem_of_getElem? hd)).1
      have s12 := s1.trans s2
      have X2 := X.same s12
      obtain ⟨kv, hkv, hk⟩ := ad.at (getD_some (d := d) (i := i) (by omega))
      refine r_gName ⟨rfl, ?_⟩
      repeat walk_at "kc"
      refine if_t rfl ?_
      repeat walk_at "kc"
      refine r_ixT (s2 _ _ hp) (j := i) rfl hkv ?_
      repeat walk_at "kc"
      refine ⟨_, _, _, _, _, rfl, X2.obj, T.cl, T.nAt, lkAt, ?_⟩
      repeat walk_at "kc"
      refine ⟨cv, kv, pAt, c, _, h.atoms, rfl, hc.mono s12.tups, hk.mono s2.tups, X2.at1, z, sc, zc, zc, fun H3 s3 => ?_⟩
      refine ⟨_, s3 _ _ e2, line_lt ?_, (s2.trans s3).put nD, ?_⟩
      · simp only [List.length_map, List.length_take]; omega
      · rw [upd_same, take_more hd]; simp
    · rintro H2 ⟨s2, e2⟩
      rw [← au.length, List.take_length] at e2
      have s12 := s1.trans s2
      repeat walk_at "kc"
      refine ⟨D, _, rfl, .of e2, ?_⟩
      refine r_bl ?_
      refine if_by (c' := (KM.plcs h).all fun d => Oc.holds h.atoms (d.getD i 0) c) (by rw [List.all_map]; rfl) (fun e => ?_) (fun e => ?_)
      · rw [if_pos e] at q
        repeat walk_at "kc"
        exact q _ s12
      · rw [if_neg (by rw [e]; simp)] at q
        repeat walk_at "kc"
        refine ⟨D, _, rfl, .of e2, ?_⟩
        repeat walk_at "kc"
        refine .inr ⟨_, rfl, ?_⟩
        have e3 : (((KM.plcs h).map fun d => Oc.holds h.atoms (d.getD i 0) c).any id) = (KM.plcs h).any fun d => Oc.holds h.atoms (d.getD i 0) c := by rw [List.any_map]; rfl
        rw [e3]
        have e4 : ((if ((KM.plcs h).any fun d => Oc.holds h.atoms (d.getD i 0) c) = true then 1 else 0 : Nat) : Int) = if ((KM.plcs h).any fun d => Oc.holds h.atoms (d.getD i 0) c) = true then 1 else 0 := by split <;> rfl
        rw [e4] at q
        exact q _ s12
end
end KC

/-! ## KcDeed -/
namespace KC
open PySem PySem.Spec PyProof.Rows L2
open Oc (C Axiom)
open Oc11 (House)
local macro_rules | `(tactic| walk_at "kc") => `(tactic| with_reducible (first
  | refine r_seq ?_ | refine r_ifS ?_ | refine r_asg ?_ | refine r_ret ?_ | refine r_drop ?_ | refine r_next ?_
  | refine r_op ?_ | refine r_c ?_ | refine r_cons ?_ | refine r_nil ?_ | refine r_cl ?_ | refine r_cx ?_ | refine r_cb ?_
  | refine r_test ?_ | refine r_B ?_ | refine r_and ?_ | refine r_or ?_ | refine r_not ?_ | refine r_bl ?_
  | refine r_notV ?_ | refine r_andV ?_ | refine r_orV ?_ | refine r_tup ?_ | refine r_lst ?_ | refine r_ifE ?_
  | refine r_for ?_ | refine r_lc ?_ | refine r_yes ?_ | refine r_sFld ?_ | refine r_fld ?_ | refine r_par ?_ | refine r_rng1 ?_ | refine r_enum ?_ | refine r_zip3 ?_ | refine r_raise ?_ | refine r_list ?_ | refine r_bm ?_ | refine r_I0 ?_ | refine r_eqI ?_ | refine r_eqB ?_ | refine r_neI ?_ | refine r_gName ?_ | refine r_gCons ?_ | refine r_gNil ?_
  | (refine r_var (by with_unfolding_all rfl) ?_)))
section
variable {P : Program} {w : World} {K : PySem.W.Frag} {mg : Str → Option Value} {base : Heap} {CR fI Cl aD aS aR : Addr}
/-! ### look_thing -/
abbrev s_look_thing : Stmt := topS 58
abbrev N_look_thing : List Str := ["house", "thing"]
theorem sc_look_thing : FnScope N_look_thing ["house", "thing"] (defScope s_look_thing) := ⟨rfl, rfl, rfl, by decide +kernel, rfl, by decide +kernel, by decide +kernel⟩
def spLT (CR Cl : Addr) : Sp := fun vs H Q E => ∃ (a : Addr) (h : House) (i : Nat), vs = [.ref a, .int (i : Nat)] ∧ HouseAt Cl H a h ∧ (h.book.things ≤ i → RF CR (-2) H E) ∧ (i < h.book.things → ∀ H', Same H H' → Q .non H')
theorem d_look_thing (T : Txt K mg CR fI Cl aD aS aR) (G : Glob K mg "look_thing" s_look_thing) : DefOk P w K mg base (L2.CX P w) 3 "look_thing" (spLT CR Cl) := by
  refine mkDef (ps := ["house", "thing"]) G (fun _ _ _ _ _ _ us hl => match us, hl with | [_, _], _ => rfl) fun f fd F => F.okX sc_look_thing (fun vs H Q E h => ?_) fun cdv A outer s H vs Q E hr h => ⟨_, ((pss_one (ps_if (pt_cmpR op_ge (pv 1) (pe_fld (pv 0) rfl) (nomark _))
      (pss_one (ps_raiseLow rfl T.low hr (takes_of rfl rfl rfl rfl) (by exact (pa_cons (pe_gint (by rfl) T.c_NONE_SUCH) pa_nil))))
      pss_nil))), ?_⟩
  · obtain ⟨a, h, i, rfl, _⟩ := h; rfl
  · obtain ⟨a, h, i, rfl, ⟨dx, pA, pS, pT, pAt, pK, X⟩, q1, q2⟩ := h
    repeat walk_at "kc"
    refine ⟨_, _, _, _, _, rfl, X.obj, T.cl, T.nN, lkN, ?_⟩
    repeat walk_at "kc"
    refine if_by (c' := decide (h.book.things ≤ i)) (by simp) (fun e => ?_) (fun e => ?_)
    · repeat walk_at "kc"
      exact RF.go (q1 (of_decide_eq_true e)) (Same.refl _)
    · repeat walk_at "kc"
      exact q2 (by have := of_decide_eq_false e; omega) _ (Same.refl _)
/-! ### look_room -/
abbrev s_look_room : Stmt := topS 59
abbrev N_look_room : List Str := ["house", "concepts"]
theorem sc_look_room : FnScope N_look_room ["house", "concepts"] (defScope s_look_room) := ⟨rfl, rfl, rfl, by decide +kernel, rfl, by decide +kernel, by decide +kernel⟩
def spLR (CR Cl : Addr) : Sp := fun vs H Q E => ∃ (a pc : Addr) (h : House) (cs : List C), vs = [.ref a, .ref pc] ∧ HouseAt Cl H a h ∧ KM.HInv h ∧ LAt ConAt H pc cs ∧ Small cs ∧ cs.length ≤ 2 ∧
  (6 < (KM.withAtoms h.atoms cs).length → RF CR (-7) H E) ∧ ((KM.withAtoms h.atoms cs).length ≤ 6 → ∀ H', Same H H' → Q .non H')
theorem d_look_room (T : Txt K mg CR fI Cl aD aS aR) (D_with_atoms : DefOk P w K mg base CX0 34 "with_atoms" spWith) (G : Glob K mg "look_room" s_look_room) : DefOk P w K mg base (L2.CX P w) 35 "look_room" (spLR CR Cl) := by
  refine mkDef (ps := ["house", "concepts"]) G (fun _ _ _ _ _ _ us hl => match us, hl with | [_, _], _ => rfl) fun f fd F => F.okX sc_look_room (fun vs H Q E h => ?_) fun cdv A outer s H vs Q E hr h => ⟨_, ((pss_one (ps_if (pt_cmpR op_gt (pe_callB call_len_seq (by rfl) T.b_len boot_len_ (pa_cons (pe_cl D_with_atoms (hr.mono (by decide)) (by exact (pa_cons (pe_fld (pv 0) rfl) (pa_cons (pv 1) pa_nil)))) pa_nil)) (pe_gint (by rfl) T.c_MOST_ATOMS) (nomark _))
      (pss_one (ps_raiseLow rfl T.low hr (takes_of rfl rfl rfl rfl) (by exact (pa_cons (pe_gint (by rfl) T.c_NO_ROOM) pa_nil))))
      pss_nil))), ?_⟩
  · obtain ⟨a, pc, h, cs, rfl, _⟩ := h; rfl
  · obtain ⟨a, pc, h, cs, rfl, ⟨dx, pA, pS, pT, pAt, pK, X⟩, I, hc, zc, nc, q1, q2⟩ := h
    repeat walk_at "kc"
    refine ⟨_, _, _, _, _, rfl, X.obj, T.cl, T.nAt, lkAt, ?_⟩
    repeat walk_at "kc"
    refine ⟨pAt, pc, h.atoms, cs, rfl, X.at1, hc, I.zat, zc, I.nat, by omega, fun H1 p s1 np hp => ?_⟩
    obtain ⟨vp, hvp, ap⟩ := id hp
    repeat walk_at "kc"
    refine ⟨p, vp, rfl, .inl (.of hvp), ?_⟩
    repeat walk_at "kc"
    rw [← ap.length]
    refine if_by (c' := decide (6 < (KM.withAtoms h.atoms cs).length)) (by simp; omega) (fun e => ?_) (fun e => ?_)
    · repeat walk_at "kc"
      exact RF.go (q1 (of_decide_eq_true e)) s1
    · repeat walk_at "kc"
      exact q2 (by have := of_decide_eq_false e; omega) _ s1
/-! ### without -/
abbrev s_without : Stmt := topS 60
abbrev N_without : List Str := ["some", "which"]
theorem sc_without : FnScope N_without ["some", "which"] (defScope s_without) := ⟨rfl, rfl, rfl, by decide +kernel, rfl, by decide +kernel, by decide +kernel⟩
theorem cut_lo {xs : List V} {i : Nat} (h : i ≤ xs.length) : cutV xs none (some (i : Int)) = xs.take i := by
  unfold cutV
  have e1 : HT.sIx xs.length 0 none = 0 := rfl
  have e2 : HT.sIx xs.length xs.length (some (i : Int)) = i := by
    simp only [HT.sIx]
    split <;> omega
  rw [e1, e2, List.drop_zero, Nat.sub_zero]
theorem cut_hi {xs : List V} {i : Nat} (h : i ≤ xs.length) : cutV xs (some (i : Int)) none = xs.drop i := by
  unfold cutV
  have e1 : HT.sIx xs.length xs.length none = xs.length := rfl
  have e2 : HT.sIx xs.length 0 (some (i : Int)) = i := by
    simp only [HT.sIx]
    split <;> omega
  rw [e1, e2, List.take_of_length_le (by rw [List.length_drop]; omega)]
theorem cut_mid {xs : List V} {i j : Nat} (h : i ≤ j) (hj : j ≤ xs.length) : cutV xs (some (i : Int)) (some (j : Int)) = (xs.drop i).take (j - i) := by
  unfold cutV
  have e1 : HT.sIx xs.length xs.length (some (j : Int)) = j := by
    simp only [HT.sIx]
    split <;> omega
  have e2 : HT.sIx xs.length 0 (some (i : Int)) = i := by
    simp only [HT.sIx]
    split <;> omega
  rw [e1, e2]
theorem r_sl {K : PySem.W.Frag} {te : TE} {tl th : TO} {σ : L2.St} {H : Hp} {Q : VK} (q : te σ H fun x H1 => tl σ H1 fun l H2 => th σ H2 fun u H3 => rSlL K x l u H3 Q) : tSl (rSlL K) te tl th σ H Q := q
theorem r_noPart {σ : L2.St} {H : Hp} {Q : Option Int → Hp → Prop} (q : Q none H) : tNoPart σ H Q := q
theorem r_part {te : TE} {σ : L2.St} {H : Hp} {Q : Option Int → Hp → Prop} (q : te σ H fun x H1 => ∃ i, x = .int i ∧ Q (some i) H1) : tPart te σ H Q := q
def spWO (CR : Addr) : Sp := fun vs H Q E => ∃ (p : Addr) (xs : List V) (i : Nat), vs = [.ref p, .int (i : Nat)] ∧ H p = some (.lst xs) ∧ xs.length ≤ 10 ∧ (xs.length ≤ i → RF CR (-2) H E) ∧
  (i < xs.length → ∀ H' q, Same H H' → H q = none → H' q = some (.lst (xs.take i ++ xs.drop (i + 1))) → Q (.ref q) H')
theorem d_without (T : Txt K mg CR fI Cl aD aS aR) (G : Glob K mg "without" s_without) : DefOk P w K mg base (L2.CX P w) 3 "without" (spWO CR) := by
  refine mkDef (ps := ["some", "which"]) G (fun _ _ _ _ _ _ us hl => match us, hl with | [_, _], _ => rfl) fun f fd F => F.okX sc_without (fun vs H Q E h => ?_) fun cdv A outer s H vs Q E hr h => ⟨_, ((pss_cons (ps_if (pt_cmpR op_ge (pv 1) (pe_callB call_len_seq (by rfl) T.b_len boot_len_ (pa_cons (pv 0) pa_nil)) (nomark _))
      (pss_one (ps_raiseLow rfl T.low hr (takes_of rfl rfl rfl rfl) (by exact (pa_cons (pe_gint (by rfl) T.c_NONE_SUCH) pa_nil))))
      pss_nil)
    (pss_one (ps_ret (pe_op op_cat (pe_slice sl_list (pv 0) po_none (po_some (pv 1))) (pe_slice sl_list (pv 0) (po_some (pe_op op_add (pv 1) pe_int)) po_none)))))), ?_⟩
  · obtain ⟨p, xs, i, rfl, _⟩ := h; rfl
  · obtain ⟨p, xs, i, rfl, hp, hl, q1, q2⟩ := h
    repeat walk_at "kc"
    refine ⟨p, xs, rfl, .inl (.of hp), ?_⟩
    repeat walk_at "kc"
    refine if_by (c' := decide (xs.length ≤ i)) (by simp) (fun e => ?_) (fun e => ?_)
    · repeat walk_at "kc"
      exact RF.go (q1 (of_decide_eq_true e)) (Same.refl _)
    · have hi : i < xs.length := by have := of_decide_eq_false e; omega
      repeat walk_at "kc"
      refine r_sl ?_
      repeat walk_at "kc"
      refine r_noPart ?_
      refine r_part ?_
      repeat walk_at "kc"
      refine ⟨_, rfl, p, xs, rfl, .of hp, fun l1 n1 => ?_⟩
      rw [cut_lo (by omega)]
      have s1 := Same.upd (o := .lst (xs.take i)) n1
      have e1 : upd H l1 (.lst (xs.take i)) l1 = some (.lst (xs.take i)) := upd_same
      generalize upd H l1 (.lst (xs.take i)) = H1 at s1 e1
      refine r_sl ?_
      repeat walk_at "kc"
      refine r_part ?_
      repeat walk_at "kc"
      refine ⟨_, rfl, ?_⟩
      refine r_noPart ?_
      refine ⟨p, xs, rfl, .of (s1 _ _ hp), fun l2 n2 => ?_⟩
      have ei : ((i : Int) + 1) = ((i + 1 : Nat) : Int) := by simp
      rw [ei, cut_hi (by omega)]
      have s2 := Same.upd (o := .lst (xs.drop (i + 1))) n2
      have e2 : upd H1 l2 (.lst (xs.drop (i + 1))) l2 = some (.lst (xs.drop (i + 1))) := upd_same
      generalize upd H1 l2 (.lst (xs.drop (i + 1))) = H2 at s2 e2
      refine r_cat (s2 _ _ e1) e2 (line_of (by simp only [List.length_take, List.length_drop]; omega)) fun l3 n3 => ?_
      exact q2 hi _ l3 ((s1.trans s2).trans (Same.upd n3)) ((s1.trans s2).free n3) upd_same
/-! ### changed -/
theorem LAt.prb {H H' : Hp} {a p Ci dx : Addr} {fs : List (Str × V)} {xs : List (Nat × Nat)} (b : But a H H') (ha : H a = some (.ins Ci dx fs)) (h : LAt PrAt H p xs) : LAt PrAt H' p xs := h.but b ha fun _ _ q => q.mono (b.tups ha)
theorem HouseAt.free {Cl a p : Addr} {H H' : Hp} {h h' : House} (x : HouseAt Cl H a h) (b : But a H H') (y : HouseAt Cl H' a h') (n : H' p = none) : H p = none := by
  obtain ⟨dx, pA, pS, pT, pAt, pK, Y⟩ := y
  cases e : H p with
  | none => rfl
  | some o =>
    by_cases z : p = a
    · subst z
      rw [Y.obj] at n
      cases n
    · rw [b p o z e] at n
      cases n
abbrev s_changed : Stmt := topS 61
abbrev N_changed : List Str := ["house", "axioms", "atoms", "ahead", "now", "more", "pair"]
theorem sc_changed : FnScope N_changed ["house", "axioms", "atoms"] (defScope s_changed) := ⟨rfl, rfl, rfl, by decide +kernel, rfl, by decide +kernel, by decide +kernel⟩
theorem any_pD (ps : List (Nat × Nat)) (x : Nat × Nat) : (ps.map pD).any (fun z => PyData.eqv z (pD x)) = ps.contains x := by
  rw [List.any_map, List.contains_eq_any_beq]
  congr 1
  funext y
  show PyData.eqv (pD y) (pD x) = (x == y)
  rw [pD_eqv]
  by_cases h : y = x
  · subst h; simp
  · have h' : ¬ x = y := fun e => h e.symm
    simp [h, h']
theorem pairs_len (h : House) : h.pairs.length ≤ 16 := prs_len h 4
def spChg (Cl : Addr) : Sp := fun vs H Q _ => ∃ (a px pa : Addr) (h : House) (ax : List Axiom) (as : List C), vs = [.ref a, .ref px, .ref pa] ∧ HouseAt Cl H a h ∧ KM.HInv h ∧ LAt AxAt H px ax ∧ LAt ConAt H pa as ∧
  KM.HInv { h with book := { h.book with axioms := ax }, atoms := as, types := Oc.types as ax } ∧
  ∀ H' p, But a H H' → H p = none → HouseAt Cl H' a { h with book := { h.book with axioms := ax }, atoms := as, types := Oc.types as ax } →
    H' p = some (.lst (nV ((Oc.types as ax).length :: Oc11.news h { h with book := { h.book with axioms := ax }, atoms := as, types := Oc.types as ax }))) → Q (.ref p) H'
theorem d_changed (T : Txt K mg CR fI Cl aD aS aR) (D_pairs_of : DefOk P w K mg base CX0 34 "pairs_of" (spPairs Cl)) (D_reckon : DefOk P w K mg base CX0 35 "reckon" (spReckon Cl)) (G : Glob K mg "changed" s_changed) : DefOk P w K mg base CX0 36 "changed" (spChg Cl) := by
  refine mkDef (ps := ["house", "axioms", "atoms"]) G (fun _ _ _ _ _ _ us hl => match us, hl with | [_, _, _], _ => rfl) fun f fd F => F.ok sc_changed (fun vs H Q E h => ?_) fun cdv A outer s H vs Q E hr h => ⟨_, ((pss_cons (ps_set (i := 3) sc_changed.nd rfl (Or.inr rfl) (pe_cl D_pairs_of (hr.mono (by decide)) (by exact (pa_cons (pv 0) pa_nil))))
    (pss_cons (ps_fld (pv 0) (pv 1) rfl)
    (pss_cons (ps_expr (pe_cl D_reckon (hr.mono (by decide)) (by exact (pa_cons (pv 0) (pa_cons (pv 2) pa_nil)))))
    (pss_cons (ps_set (i := 4) sc_changed.nd rfl (Or.inr rfl) (pe_cl D_pairs_of (hr.mono (by decide)) (by exact (pa_cons (pv 0) pa_nil))))
    (pss_cons (ps_set (i := 5) sc_changed.nd rfl (Or.inl rfl) (pe_callB call_len_seq (by rfl) T.b_len boot_len_ (pa_cons (pe_lc (own := [("pair", 6)]) (g := (gName 6)) rfl sc_changed.nd (pi_list (pv 4)) (blkOk_by (own := [("pair", 6)]) (N := N_changed) (sc := defScope s_changed) (by decide +kernel)) (fun _ _ _ _ _ => (pg_name (i := 6) sc_changed.nd rfl (Or.inl rfl))) (fun _ _ _ _ _ => (pts_one (pt_cmpR (notInD_K (K := K) rfl (hu65 hr)) (pv 6) (pv 3) (by with_unfolding_all rfl)))) (fun _ _ _ _ _ => (pv 6))) pa_nil)))
    (pss_one (ps_ret (pe_lst (pa_cons (pe_callB call_len_seq (by rfl) T.b_len boot_len_ (pa_cons (pe_fld (pv 0) rfl) pa_nil)) (pa_cons (pv 5) (pa_cons (pe_callB call_len_seq (by rfl) T.b_len boot_len_ (pa_cons (pe_lc (own := [("pair", 6)]) (g := (gName 6)) rfl sc_changed.nd (pi_list (pv 3)) (blkOk_by (own := [("pair", 6)]) (N := N_changed) (sc := defScope s_changed) (by decide +kernel)) (fun _ _ _ _ _ => (pg_name (i := 6) sc_changed.nd rfl (Or.inl rfl))) (fun _ _ _ _ _ => (pts_one (pt_cmpR (notInD_K (K := K) rfl (hu65 hr)) (pv 6) (pv 4) (by with_unfolding_all rfl)))) (fun _ _ _ _ _ => (pv 6))) pa_nil)) pa_nil)))))))))))), ?_⟩
  · obtain ⟨a, px, pa, h, ax, as, rfl, _⟩ := h; rfl
  · obtain ⟨a, px, pa, h, ax, as, rfl, hh, I, hx, ha, I2, q⟩ := h
    have pl1 := pairs_len h
    have pl2 := pairs_len { h with book := { h.book with axioms := ax }, atoms := as, types := Oc.types as ax }
    generalize ek : ({ h with book := { h.book with axioms := ax }, atoms := as, types := Oc.types as ax } : House) = k at I2 q pl2
    have ekt : k.types = Oc.types as ax := by rw [← ek]
    have ekA : AxS as ax := by
      have z := HInvAx I2 (as := as) (by rw [← ek]; exact fun c hc => hc)
      rw [← ek] at z
      exact z
    have ekS : AtS as := by
      have z := HInvAt I2
      rw [← ek] at z
      exact z
    repeat walk_at "kc"
    refine ⟨a, h, rfl, hh, I, fun H1 l1 s1 n1 hl1 => ?_⟩
    obtain ⟨dx, pA, pS, pT, pAt, pK, X⟩ := hh.same s1
    repeat walk_at "kc"
    refine r_sf T X.obj T.nA ?_
    rw [ptA]
    have b1 : But a H1 (upd H1 a (.ins Cl dx (hF px h.book.things pS pT pAt pK))) := But.upd
    have hh2 : HouseAt Cl (upd H1 a (.ins Cl dx (hF px h.book.things pS pT pAt pK))) a { h with book := { h.book with axioms := ax } } :=
      ⟨dx, px, pS, pT, pAt, pK, upd_same, (hx.axs s1).axb b1 X.obj, X.sa.sab b1 X.obj, X.ti.tib b1 X.obj, X.at1.cob b1 X.obj, X.ki.kib b1 X.obj⟩
    have ha2 := (ha.cos s1).cob b1 X.obj
    have hl2 := hl1.prb b1 X.obj
    generalize upd H1 a (.ins Cl dx (hF px h.book.things pS pT pAt pK)) = H2 at b1 hh2 ha2 hl2
    repeat walk_at "kc"
    refine ⟨a, pa, _, as, rfl, hh2, ha2, ekS, ekA, fun H3 b3 hh3 => ?_⟩
    have hk3 : HouseAt Cl H3 a k := ek ▸ hh3
    have hl3 : LAt PrAt H3 l1 h.pairs := by
      obtain ⟨dx2, qA, qS, qT, qAt, qK, X2⟩ := id hh2
      exact hl2.prb b3 X2.obj
    have b03 := ((But.of (a := a) s1).trans b1).trans b3
    repeat walk_at "kc"
    refine ⟨a, k, rfl, hk3, I2, fun H4 l2 s4 n4 hl4 => ?_⟩
    have hl4a := hl3.prs s4
    obtain ⟨us, hus, au⟩ := id hl4
    obtain ⟨ws, hws, aw⟩ := id hl4a
    have hk4 := hk3.same s4
    have b04 := b03.trans (But.of s4)
    repeat walk_at "kc"
    refine ⟨l2, rfl, ⟨us, .of hus⟩, fun D nD => lc_list (xs := us) (fun j H' => Same H4 H' ∧ LAt PrAt H' D ((k.pairs.take j).filter fun x => !h.pairs.contains x)) ?_ ?_ ?_ ?_⟩
    · exact ⟨Same.upd nD, [], upd_same, by simp [Al]⟩
    · rintro j H' _ ⟨s5, _⟩
      exact .of (s5 _ _ hus)
    · rintro j x H' hxj ⟨s5, vs, hvs, av⟩
      obtain ⟨y, hy, hv⟩ := au.get hxj
      have hv5 := hv.mono s5.tups
      refine r_gName ⟨rfl, ?_⟩
      repeat walk_at "kc"
      refine ⟨pD y, h.pairs.map pD, hv5.dp, (hl4a.prs s5).dp fun _ _ z => z.dp, shaped_of (pD_lay _) (Nat.le_trans (pD_depth _) (by omega)), list_shaped (n := 1) (fun t _ => pD_lay t) (fun t _ => pD_depth t) (by omega), r_bl ?_⟩
      rw [any_pD]
      refine if_by rfl (fun e => ?_) (fun e => ?_)
      · repeat walk_at "kc"
        have tl : Tups H' (upd H' D (.lst (vs ++ [x]))) := Tups.lst hvs
        refine ⟨vs, hvs, line_lt ?_, s5.put nD, _, upd_same, ?_⟩
        · rw [← av.length]
          have h1 := List.length_filter_le (fun x => !h.pairs.contains x) (k.pairs.take j)
          rw [List.length_take] at h1
          omega
        · rw [filter_more hy, if_pos e]
          exact (av.mono fun _ _ z => z.mono tl).app (.one (hv5.mono tl))
      · refine ⟨s5, vs, hvs, ?_⟩
        rw [filter_more hy, if_neg (by rw [e]; simp), List.append_nil]
        exact av
    · rintro H5 ⟨s5, vs, hvs, av⟩
      rw [← au.length, List.take_length] at av
      repeat walk_at "kc"
      refine ⟨D, vs, rfl, .inl (.of hvs), ?_⟩
      rw [← av.length]
      have hk5 := hk4.same s5
      have b05 := b04.trans (But.of s5)
      obtain ⟨ex, qA, qS, qT, qAt, qK, Y⟩ := id hk5
      obtain ⟨kk, hkk, ak⟩ := Y.ki
      repeat walk_at "kc"
      refine ⟨_, _, _, _, _, rfl, Y.obj, T.cl, T.nK, lkK, ?_⟩
      repeat walk_at "kc"
      refine ⟨qK, kk, rfl, .inl (.of hkk), ?_⟩
      rw [← ak.length]
      repeat walk_at "kc"
      have hws5 := s5 _ _ hws
      have hus5 := s5 _ _ hus
      refine ⟨l1, rfl, ⟨ws, .of hws5⟩, fun D2 nD2 => lc_list (xs := ws) (fun j H' => Same H5 H' ∧ LAt PrAt H' D2 ((h.pairs.take j).filter fun x => !k.pairs.contains x)) ?_ ?_ ?_ ?_⟩
      · exact ⟨Same.upd nD2, [], upd_same, by simp [Al]⟩
      · rintro j H' _ ⟨s6, _⟩
        exact .of (s6 _ _ hws5)
      · rintro j x H' hxj ⟨s6, zs, hzs, az⟩
        obtain ⟨y, hy, hv⟩ := aw.get hxj
        have hv6 := hv.mono (s5.trans s6).tups
        refine r_gName ⟨rfl, ?_⟩
        repeat walk_at "kc"
        refine ⟨pD y, k.pairs.map pD, hv6.dp, (hl4.prs (s5.trans s6)).dp fun _ _ z => z.dp, shaped_of (pD_lay _) (Nat.le_trans (pD_depth _) (by omega)), list_shaped (n := 1) (fun t _ => pD_lay t) (fun t _ => pD_depth t) (by omega), r_bl ?_⟩
        rw [any_pD]
        refine if_by rfl (fun e => ?_) (fun e => ?_)
        · repeat walk_at "kc"
          have tl : Tups H' (upd H' D2 (.lst (zs ++ [x]))) := Tups.lst hzs
          refine ⟨zs, hzs, line_lt ?_, s6.put nD2, _, upd_same, ?_⟩
          · rw [← az.length]
            have h1 := List.length_filter_le (fun x => !k.pairs.contains x) (h.pairs.take j)
            rw [List.length_take] at h1
            omega
          · rw [filter_more hy, if_pos e]
            exact (az.mono fun _ _ z => z.mono tl).app (.one (hv6.mono tl))
        · refine ⟨s6, zs, hzs, ?_⟩
          rw [filter_more hy, if_neg (by rw [e]; simp), List.append_nil]
          exact az
      · rintro H6 ⟨s6, zs, hzs, az⟩
        rw [← aw.length, List.take_length] at az
        repeat walk_at "kc"
        refine ⟨D2, zs, rfl, .inl (.of hzs), ?_⟩
        rw [← az.length]
        repeat walk_at "kc"
        refine ⟨sz_ok, fun p np => ?_⟩
        have b06 := b05.trans (But.of s6)
        have hk6 := hk5.same s6
        refine q _ p (b06.trans (But.of (Same.upd np))) (hh.free b06 hk6 np) (hk6.same (Same.upd np)) ?_
        rw [upd_same, ← ekt]
        rfl
end
end KC

/-! ## KcDeed2 -/
namespace KC
open PySem PySem.Spec PyProof.Rows L2
open Oc (C Axiom)
open Oc11 (House)
local macro_rules | `(tactic| walk_at "kc") => `(tactic| with_reducible (first
  | refine r_seq ?_ | refine r_ifS ?_ | refine r_asg ?_ | refine r_ret ?_ | refine r_drop ?_ | refine r_next ?_
  | refine r_op ?_ | refine r_c ?_ | refine r_cons ?_ | refine r_nil ?_ | refine r_cl ?_ | refine r_cx ?_ | refine r_cb ?_
  | refine r_test ?_ | refine r_B ?_ | refine r_and ?_ | refine r_or ?_ | refine r_not ?_ | refine r_bl ?_
  | refine r_notV ?_ | refine r_andV ?_ | refine r_orV ?_ | refine r_tup ?_ | refine r_lst ?_ | refine r_ifE ?_
  | refine r_for ?_ | refine r_lc ?_ | refine r_yes ?_ | refine r_sFld ?_ | refine r_fld ?_ | refine r_par ?_ | refine r_rng1 ?_ | refine r_enum ?_ | refine r_zip3 ?_ | refine r_raise ?_ | refine r_list ?_ | refine r_bm ?_ | refine r_I0 ?_ | refine r_eqI ?_ | refine r_eqB ?_ | refine r_neI ?_ | refine r_gName ?_ | refine r_gCons ?_ | refine r_gNil ?_
  | (refine r_var (by with_unfolding_all rfl) ?_)))
/-- a call by its number and what is told -/
def decd : Nat → List Nat → Option Oc11.Call
  | 0, [] => some .begins
  | 1, l => if l.length ≤ 30 then some (.line l) else none
  | 2, [i] => some (.drop i)
  | 3, [] => some .thing
  | 4, a :: l => if l.length ≤ 30 then some (.says a l) else none
  | 5, [i] => some (.unsay i)
  | 6, [r, a, b] => some (.tie r a b)
  | 7, [i] => some (.untie i)
  | 8, l => if l.length ≤ 30 then some (.under l) else none
  | 9, a :: l => if l.length ≤ 30 then some (.is a l) else none
  | 10, [] => some .whole
  | 11, [] => some .pairs
  | 12, [] => some .state
  | 13, [] => some .tidy
  | _, _ => none
section
variable {ns : List Nat} {c : Oc11.Call}
theorem dec0 (h : decd 0 ns = some c) : c = .begins := by
  match ns, h with
  | [], h => exact (Option.some.inj h).symm
theorem dec1 (h : decd 1 ns = some c) : ns.length ≤ 30 ∧ c = .line ns := by
  simp only [decd] at h
  split at h
  · exact ⟨by assumption, (Option.some.inj h).symm⟩
  · cases h
theorem dec2 (h : decd 2 ns = some c) : ∃ i, ns = [i] ∧ c = .drop i := by
  match ns, h with
  | [i], h => exact ⟨i, rfl, (Option.some.inj h).symm⟩
theorem dec3 (h : decd 3 ns = some c) : c = .thing := by
  match ns, h with
  | [], h => exact (Option.some.inj h).symm
theorem dec4 (h : decd 4 ns = some c) : ∃ a l, ns = a :: l ∧ l.length ≤ 30 ∧ c = .says a l := by
  match ns, h with
  | a :: l, h =>
    simp only [decd] at h
    split at h
    · exact ⟨a, l, rfl, by assumption, (Option.some.inj h).symm⟩
    · cases h
theorem dec5 (h : decd 5 ns = some c) : ∃ i, ns = [i] ∧ c = .unsay i := by
  match ns, h with
  | [i], h => exact ⟨i, rfl, (Option.some.inj h).symm⟩
theorem dec6 (h : decd 6 ns = some c) : ∃ r a b, ns = [r, a, b] ∧ c = .tie r a b := by
  match ns, h with
  | [r, a, b], h => exact ⟨r, a, b, rfl, (Option.some.inj h).symm⟩
theorem dec7 (h : decd 7 ns = some c) : ∃ i, ns = [i] ∧ c = .untie i := by
  match ns, h with
  | [i], h => exact ⟨i, rfl, (Option.some.inj h).symm⟩
theorem dec8 (h : decd 8 ns = some c) : ns.length ≤ 30 ∧ c = .under ns := by
  simp only [decd] at h
  split at h
  · exact ⟨by assumption, (Option.some.inj h).symm⟩
  · cases h
theorem dec9 (h : decd 9 ns = some c) : ∃ a l, ns = a :: l ∧ l.length ≤ 30 ∧ c = .is a l := by
  match ns, h with
  | a :: l, h =>
    simp only [decd] at h
    split at h
    · exact ⟨a, l, rfl, by assumption, (Option.some.inj h).symm⟩
    · cases h
theorem dec10 (h : decd 10 ns = some c) : c = .whole := by
  match ns, h with
  | [], h => exact (Option.some.inj h).symm
theorem dec11 (h : decd 11 ns = some c) : c = .pairs := by
  match ns, h with
  | [], h => exact (Option.some.inj h).symm
theorem dec12 (h : decd 12 ns = some c) : c = .state := by
  match ns, h with
  | [], h => exact (Option.some.inj h).symm
theorem dec13 (h : decd 13 ns = some c) : c = .tidy := by
  match ns, h with
  | [], h => exact (Option.some.inj h).symm
end
/-- what a deed may end with -/
def DEnd (CR Cl a : Addr) (H : Hp) (Q : VK) (E : XK) (x : House × Oc11.Ans) : Prop :=
  (∀ H' p, But a H H' → H p = none → HouseAt Cl H' a x.1 → H' p = some (.lst ((Oc11Neutral.out x.2).map V.int)) → Q (.ref p) H') ∧ (x.2.l = [] → HouseAt Cl H a x.1 → RF CR x.2.v H E)
def spDeed (CR Cl : Addr) (w : Nat) : Sp := fun vs H Q E => ∃ (a pt : Addr) (h : House) (ns : List Nat) (c : Oc11.Call), vs = [.ref a, .ref pt] ∧ HouseAt Cl H a h ∧ KM.HInv h ∧ H pt = some (.lst (nV ns)) ∧ decd w ns = some c ∧ DEnd CR Cl a H Q E (Oc11.step h c)
section
variable {P : Program} {w : World} {K : PySem.W.Frag} {mg : Str → Option Value} {base : Heap} {CR fI Cl aD aS aR : Addr}
theorem DEnd.no {a : Addr} {H : Hp} {Q : VK} {E : XK} {h : House} {x : House × Oc11.Ans} {n : Int} (q : DEnd CR Cl a H Q E x) (e : x = (h, Oc11.ok n)) (hh : HouseAt Cl H a h) : RF CR n H E := by
  subst e
  exact q.2 rfl hh
theorem DEnd.go {a : Addr} {H : Hp} {Q : VK} {E : XK} {k : House} {v : Int} {l : List Nat} {x : House × Oc11.Ans} (q : DEnd CR Cl a H Q E x) (e : x = (k, ⟨v, l⟩)) {H' : Hp} {p : Addr} (b : But a H H') (n : H p = none) (hk : HouseAt Cl H' a k) (hp : H' p = some (.lst (.int v :: nV l))) : Q (.ref p) H' := by
  subst e
  refine q.1 H' p b n hk ?_
  rw [hp]
  unfold Oc11Neutral.out nV
  rw [List.map_cons, List.map_map]
  rfl
/-- a new list, then the end -/
theorem DEnd.put {a : Addr} {H : Hp} {Q : VK} {E : XK} {h k : House} {v : Int} {l : List Nat} {x : House × Oc11.Ans} (q : DEnd CR Cl a H Q E x) (e : x = (k, ⟨v, l⟩)) (hh : HouseAt Cl H a h) {H' : Hp} {p : Addr} (b : But a H H') (hk : HouseAt Cl H' a k) (n : H' p = none) : Q (.ref p) (upd H' p (.lst (.int v :: nV l))) :=
  q.go e (b.trans (But.of (Same.upd n))) (hh.free b hk n) (hk.same (Same.upd n)) upd_same
/-! ### begins -/
abbrev s_begins : Stmt := topS 62
abbrev N_begins : List Str := ["house", "told"]
theorem sc_begins : FnScope N_begins ["house", "told"] (defScope s_begins) := ⟨rfl, rfl, rfl, by decide +kernel, rfl, by decide +kernel, by decide +kernel⟩
theorem d_begins (T : Txt K mg CR fI Cl aD aS aR) (D_begin_anew : DefOk P w K mg base CX0 3 "begin_anew" (spBegin Cl)) (G : Glob K mg "begins" s_begins) : DefOk P w K mg base (L2.CX P w) 37 "begins" (spDeed CR Cl 0) := by
  refine mkDef (ps := ["house", "told"]) G (fun _ _ _ _ _ _ us hl => match us, hl with | [_, _], _ => rfl) fun f fd F => F.okX sc_begins (fun vs H Q E h => ?_) fun cdv A outer s H vs Q E hr h => ⟨_, ((pss_cons (ps_expr (pe_cl D_begin_anew (hr.mono (by decide)) (by exact (pa_cons (pv 0) pa_nil))))
    (pss_one (ps_ret (pe_lst (pa_cons pe_int pa_nil)))))), ?_⟩
  · obtain ⟨a, pt, h, ns, c, rfl, _⟩ := h; rfl
  · obtain ⟨a, pt, h, ns, c, rfl, hh, I, ht, hc, q⟩ := h
    obtain rfl := dec0 hc
    repeat walk_at "kc"
    refine ⟨a, h, rfl, hh, fun H1 b1 h1 => ?_⟩
    repeat walk_at "kc"
    exact ⟨sz_ok, fun p np => q.put rfl hh b1 h1 np⟩
/-! ### thing -/
abbrev s_thing : Stmt := topS 65
abbrev N_thing : List Str := ["house", "told"]
theorem sc_thing : FnScope N_thing ["house", "told"] (defScope s_thing) := ⟨rfl, rfl, rfl, by decide +kernel, rfl, by decide +kernel, by decide +kernel⟩
theorem r_augF {K : PySem.W.Frag} {ta tv : TE} {rd : V → V → Hp → VK → Prop} {f : Str} {D : Ends} {σ : L2.St} {H : Hp} (q : ta σ H fun x H1 => ∃ a C dx fs v, x = .ref a ∧ H1 a = some (.ins C dx fs) ∧ Cls K C ∧ NoAttr K C f ∧ fs.lookup f = some v ∧
  tv σ H1 fun y H2 => rd v y H2 fun z H3 => ∃ dx' fs', H3 a = some (.ins C dx' fs') ∧ fs'.length < 1000 ∧ D.nx σ (upd H3 a (.ins C dx' (putF f z fs')))) : sFldAug K ta tv rd f D σ H := q
theorem d_thing (T : Txt K mg CR fI Cl aD aS aR) (G : Glob K mg "thing" s_thing) : DefOk P w K mg base (L2.CX P w) 37 "thing" (spDeed CR Cl 3) := by
  refine mkDef (ps := ["house", "told"]) G (fun _ _ _ _ _ _ us hl => match us, hl with | [_, _], _ => rfl) fun f fd F => F.okX sc_thing (fun vs H Q E h => ?_) fun cdv A outer s H vs Q E hr h => ⟨_, ((pss_cons (ps_if (pt_cmpR op_eq (pe_fld (pv 0) rfl) (pe_gint (by rfl) T.c_MOST_THINGS) (nomark _))
      (pss_one (ps_raiseLow rfl T.low hr (takes_of rfl rfl rfl rfl) (by exact (pa_cons (pe_gint (by rfl) T.c_NO_ROOM) pa_nil))))
      pss_nil)
    (pss_cons (ps_fldaug (pv 0) pe_int in_add)
    (pss_one (ps_ret (pe_lst (pa_cons (pe_op op_sub (pe_fld (pv 0) rfl) pe_int) pa_nil))))))), ?_⟩
  · obtain ⟨a, pt, h, ns, c, rfl, _⟩ := h; rfl
  · obtain ⟨a, pt, h, ns, c, rfl, hh, I, ht, hc, q⟩ := h
    obtain rfl := dec3 hc
    obtain ⟨dx, pA, pS, pT, pAt, pK, X⟩ := id hh
    repeat walk_at "kc"
    refine ⟨_, _, _, _, _, rfl, X.obj, T.cl, T.nN, lkN, ?_⟩
    repeat walk_at "kc"
    refine if_by (c' := decide (h.book.things = 2)) (by simp; omega) (fun e => ?_) (fun e => ?_)
    · repeat walk_at "kc"
      exact RF.go (q.no (KM.st_thing1 (of_decide_eq_true e)) hh) (Same.refl _)
    · repeat walk_at "kc"
      refine r_augF ?_
      repeat walk_at "kc"
      refine ⟨_, _, _, _, _, rfl, X.obj, T.cl, T.nN, lkN, ?_⟩
      repeat walk_at "kc"
      refine ⟨_, _, rfl, rfl, _, _, X.obj, (by show 6 < 1000; decide), ?_⟩
      have ei : ((h.book.things : Int) + 1) = ((h.book.things + 1 : Nat) : Int) := by simp
      rw [ei, ptN]
      have b1 : But a H (upd H a (.ins Cl dx (hF pA (h.book.things + 1) pS pT pAt pK))) := But.upd
      have hh1 : HouseAt Cl (upd H a (.ins Cl dx (hF pA (h.book.things + 1) pS pT pAt pK))) a { h with book := { h.book with things := h.book.things + 1 } } :=
        ⟨dx, pA, pS, pT, pAt, pK, upd_same, X.ax.axb b1 X.obj, X.sa.sab b1 X.obj, X.ti.tib b1 X.obj, X.at1.cob b1 X.obj, X.ki.kib b1 X.obj⟩
      generalize upd H a (.ins Cl dx (hF pA (h.book.things + 1) pS pT pAt pK)) = H1 at b1 hh1
      obtain ⟨dx2, qA, qS, qT, qAt, qK, X2⟩ := id hh1
      repeat walk_at "kc"
      refine ⟨_, _, _, _, _, rfl, X2.obj, T.cl, T.nN, lkN, ?_⟩
      repeat walk_at "kc"
      refine ⟨sz_ok, fun p np => ?_⟩
      have ej : (((h.book.things + 1 : Nat) : Int) - 1) = ((h.book.things : Nat) : Int) := by omega
      have z := q.put (KM.st_thing2 (of_decide_eq_false e)) hh b1 hh1 np
      rw [← ej] at z
      exact z
/-! ### whole -/
abbrev s_whole : Stmt := topS 72
abbrev N_whole : List Str := ["house", "told"]
theorem sc_whole : FnScope N_whole ["house", "told"] (defScope s_whole) := ⟨rfl, rfl, rfl, by decide +kernel, rfl, by decide +kernel, by decide +kernel⟩
theorem d_whole (T : Txt K mg CR fI Cl aD aS aR) (D_is_whole : DefOk P w K mg base CX0 35 "is_whole" (spWhole Cl)) (G : Glob K mg "whole" s_whole) : DefOk P w K mg base (L2.CX P w) 37 "whole" (spDeed CR Cl 10) := by
  refine mkDef (ps := ["house", "told"]) G (fun _ _ _ _ _ _ us hl => match us, hl with | [_, _], _ => rfl) fun f fd F => F.okX sc_whole (fun vs H Q E h => ?_) fun cdv A outer s H vs Q E hr h => ⟨_, ((pss_one (ps_ret (pe_lst (pa_cons (pe_callTy call_int1 (by rfl) T.b_int boot_int_ (pa_cons (pe_cl D_is_whole (hr.mono (by decide)) (by exact (pa_cons (pv 0) pa_nil))) pa_nil)) pa_nil))))), ?_⟩
  · obtain ⟨a, pt, h, ns, c, rfl, _⟩ := h; rfl
  · obtain ⟨a, pt, h, ns, c, rfl, hh, I, ht, hc, q⟩ := h
    obtain rfl := dec10 hc
    repeat walk_at "kc"
    refine ⟨a, h, rfl, hh, I, fun H1 s1 => ?_⟩
    repeat walk_at "kc"
    refine .inr ⟨_, rfl, ?_⟩
    repeat walk_at "kc"
    refine ⟨sz_ok, fun p np => ?_⟩
    have ef : (if h.whole [] = true then (1 : Int) else 0) = ((Oc11.flag (h.whole []) : Nat) : Int) := by unfold Oc11.flag; split <;> rfl
    have z := q.put (v := ((Oc11.flag (h.whole []) : Nat) : Int)) (l := []) rfl hh (But.of s1) (hh.same s1) np
    rw [← ef] at z
    exact z
/-! ### state -/
abbrev s_state : Stmt := topS 74
abbrev N_state : List Str := ["house", "told"]
theorem sc_state : FnScope N_state ["house", "told"] (defScope s_state) := ⟨rfl, rfl, rfl, by decide +kernel, rfl, by decide +kernel, by decide +kernel⟩
theorem d_state (T : Txt K mg CR fI Cl aD aS aR) (G : Glob K mg "state" s_state) : DefOk P w K mg base (L2.CX P w) 37 "state" (spDeed CR Cl 12) := by
  refine mkDef (ps := ["house", "told"]) G (fun _ _ _ _ _ _ us hl => match us, hl with | [_, _], _ => rfl) fun f fd F => F.okX sc_state (fun vs H Q E h => ?_) fun cdv A outer s H vs Q E hr h => ⟨_, ((pss_one (ps_ret (pe_lst (pa_cons (pe_callB call_len_seq (by rfl) T.b_len boot_len_ (pa_cons (pe_fld (pv 0) rfl) pa_nil)) (pa_cons (pe_callB call_len_seq (by rfl) T.b_len boot_len_ (pa_cons (pe_fld (pv 0) rfl) pa_nil)) (pa_cons (pe_callB call_len_seq (by rfl) T.b_len boot_len_ (pa_cons (pe_fld (pv 0) rfl) pa_nil)) (pa_cons (pe_callB call_len_seq (by rfl) T.b_len boot_len_ (pa_cons (pe_fld (pv 0) rfl) pa_nil)) (pa_cons (pe_callB call_len_seq (by rfl) T.b_len boot_len_ (pa_cons (pe_fld (pv 0) rfl) pa_nil)) pa_nil))))))))), ?_⟩
  · obtain ⟨a, pt, h, ns, c, rfl, _⟩ := h; rfl
  · obtain ⟨a, pt, h, ns, c, rfl, hh, I, ht, hc, q⟩ := h
    obtain rfl := dec12 hc
    obtain ⟨dx, pA, pS, pT, pAt, pK, X⟩ := id hh
    obtain ⟨v1, e1, a1⟩ := X.at1
    obtain ⟨v2, e2, a2⟩ := X.ki
    obtain ⟨v3, e3, a3⟩ := X.ax
    obtain ⟨v4, e4, a4⟩ := X.sa
    obtain ⟨v5, e5, a5⟩ := X.ti
    repeat walk_at "kc"
    refine ⟨_, _, _, _, _, rfl, X.obj, T.cl, T.nAt, lkAt, ?_⟩
    repeat walk_at "kc"
    refine ⟨pAt, v1, rfl, .inl (.of e1), ?_⟩
    repeat walk_at "kc"
    refine ⟨_, _, _, _, _, rfl, X.obj, T.cl, T.nK, lkK, ?_⟩
    repeat walk_at "kc"
    refine ⟨pK, v2, rfl, .inl (.of e2), ?_⟩
    repeat walk_at "kc"
    refine ⟨_, _, _, _, _, rfl, X.obj, T.cl, T.nA, lkA, ?_⟩
    repeat walk_at "kc"
    refine ⟨pA, v3, rfl, .inl (.of e3), ?_⟩
    repeat walk_at "kc"
    refine ⟨_, _, _, _, _, rfl, X.obj, T.cl, T.nS, lkS, ?_⟩
    repeat walk_at "kc"
    refine ⟨pS, v4, rfl, .inl (.of e4), ?_⟩
    repeat walk_at "kc"
    refine ⟨_, _, _, _, _, rfl, X.obj, T.cl, T.nT, lkT, ?_⟩
    repeat walk_at "kc"
    refine ⟨pT, v5, rfl, .inl (.of e5), ?_⟩
    repeat walk_at "kc"
    refine ⟨sz_ok, fun p np => ?_⟩
    rw [← a1.length, ← a2.length, ← a3.length, ← a4.length, ← a5.length]
    exact q.put (v := (h.atoms.length : Nat)) (l := [h.types.length, h.book.axioms.length, h.book.says.length, h.book.ties.length]) rfl hh (But.refl _ _) hh np
/-! ### tidy -/
abbrev s_tidy : Stmt := topS 75
abbrev N_tidy : List Str := ["house", "told"]
theorem sc_tidy : FnScope N_tidy ["house", "told"] (defScope s_tidy) := ⟨rfl, rfl, rfl, by decide +kernel, rfl, by decide +kernel, by decide +kernel⟩
theorem d_tidy (T : Txt K mg CR fI Cl aD aS aR) (D_needed_atoms : DefOk P w K mg base CX0 35 "needed_atoms" (spNeed Cl)) (D_reckon : DefOk P w K mg base CX0 35 "reckon" (spReckon Cl)) (G : Glob K mg "tidy" s_tidy) : DefOk P w K mg base (L2.CX P w) 37 "tidy" (spDeed CR Cl 13) := by
  refine mkDef (ps := ["house", "told"]) G (fun _ _ _ _ _ _ us hl => match us, hl with | [_, _], _ => rfl) fun f fd F => F.okX sc_tidy (fun vs H Q E h => ?_) fun cdv A outer s H vs Q E hr h => ⟨_, ((pss_cons (ps_expr (pe_cl D_reckon (hr.mono (by decide)) (by exact (pa_cons (pv 0) (pa_cons (pe_cl D_needed_atoms (hr.mono (by decide)) (by exact (pa_cons (pv 0) pa_nil))) pa_nil)))))
    (pss_one (ps_ret (pe_lst (pa_cons (pe_callB call_len_seq (by rfl) T.b_len boot_len_ (pa_cons (pe_fld (pv 0) rfl) pa_nil)) (pa_cons (pe_callB call_len_seq (by rfl) T.b_len boot_len_ (pa_cons (pe_fld (pv 0) rfl) pa_nil)) pa_nil))))))), ?_⟩
  · obtain ⟨a, pt, h, ns, c, rfl, _⟩ := h; rfl
  · obtain ⟨a, pt, h, ns, c, rfl, hh, I, ht, hc, q⟩ := h
    obtain rfl := dec13 hc
    have I2 := KM.inv_tidy I
    repeat walk_at "kc"
    refine ⟨a, h, rfl, hh, I, fun H1 l s1 nl hl => ?_⟩
    repeat walk_at "kc"
    refine ⟨a, l, h, _, rfl, hh.same s1, hl, HInvAt I2, HInvAx I2 (fun c hc => hc), fun H2 b2 h2 => ?_⟩
    have hk : HouseAt Cl H2 a h.tidy := h2
    have b := (But.of (a := a) s1).trans b2
    obtain ⟨dx, pA, pS, pT, pAt, pK, X⟩ := id hk
    obtain ⟨v1, e1, a1⟩ := X.at1
    obtain ⟨v2, e2, a2⟩ := X.ki
    repeat walk_at "kc"
    refine ⟨_, _, _, _, _, rfl, X.obj, T.cl, T.nAt, lkAt, ?_⟩
    repeat walk_at "kc"
    refine ⟨pAt, v1, rfl, .inl (.of e1), ?_⟩
    repeat walk_at "kc"
    refine ⟨_, _, _, _, _, rfl, X.obj, T.cl, T.nK, lkK, ?_⟩
    repeat walk_at "kc"
    refine ⟨pK, v2, rfl, .inl (.of e2), ?_⟩
    repeat walk_at "kc"
    refine ⟨sz_ok, fun p np => ?_⟩
    rw [← a1.length, ← a2.length]
    exact q.put (v := (h.tidy.atoms.length : Nat)) (l := [h.tidy.types.length]) rfl hh b hk np
/-! ### pairs -/
abbrev s_pairs : Stmt := topS 73
abbrev N_pairs : List Str := ["house", "told", "found", "answer", "one", "other"]
theorem sc_pairs : FnScope N_pairs ["house", "told"] (defScope s_pairs) := ⟨rfl, rfl, rfl, by decide +kernel, rfl, by decide +kernel, by decide +kernel⟩
def flP (ps : List (Nat × Nat)) : List Nat := ps.flatMap fun x => [x.1, x.2]
theorem flP_more {ps : List (Nat × Nat)} {i : Nat} {x : Nat × Nat} (h : ps[i]? = some x) : nV (flP (ps.take (i + 1))) = nV (flP (ps.take i)) ++ [.int (x.1 : Nat), .int (x.2 : Nat)] := by
  unfold flP nV
  rw [take_more h, List.flatMap_append, List.map_append]
  simp
theorem flP_len (ps : List (Nat × Nat)) : (flP ps).length = 2 * ps.length := by
  induction ps with
  | nil => rfl
  | cons x r ih => simp only [flP, List.flatMap_cons, List.length_append, List.length_cons, List.length_nil] at ih ⊢; omega
theorem d_pairs (T : Txt K mg CR fI Cl aD aS aR) (D_pairs_of : DefOk P w K mg base CX0 34 "pairs_of" (spPairs Cl)) (G : Glob K mg "pairs" s_pairs) : DefOk P w K mg base (L2.CX P w) 37 "pairs" (spDeed CR Cl 11) := by
  refine mkDef (ps := ["house", "told"]) G (fun _ _ _ _ _ _ us hl => match us, hl with | [_, _], _ => rfl) fun f fd F => F.okX sc_pairs (fun vs H Q E h => ?_) fun cdv A outer s H vs Q E hr h => ⟨_, ((pss_cons (ps_set (i := 2) sc_pairs.nd rfl (Or.inl rfl) (pe_cl D_pairs_of (hr.mono (by decide)) (by exact (pa_cons (pv 0) pa_nil))))
    (pss_cons (ps_set (i := 3) sc_pairs.nd rfl (Or.inl rfl) (pe_lst (pa_cons (pe_callB call_len_seq (by rfl) T.b_len boot_len_ (pa_cons (pv 2) pa_nil)) pa_nil)))
    (pss_cons (ps_for (passes_of rfl) rfl (pi_list (pv 2)) (pg_tup rfl (pgs_cons (pg_name (i := 4) sc_pairs.nd rfl (Or.inl rfl)) (pgs_cons (pg_name (i := 5) sc_pairs.nd rfl (Or.inl rfl)) pgs_nil)))
      (pss_one (ps_expr (pe_bm PySem.F.plainAttrs_list PySem.F.slot_list_extend PySem.F.type_list_extend mt_extend (pv 3) (pa_cons (pe_lst (pa_cons (pv 4) (pa_cons (pv 5) pa_nil))) pa_nil)))))
    (pss_one (ps_ret (pv 3))))))), ?_⟩
  · obtain ⟨a, pt, h, ns, c, rfl, _⟩ := h; rfl
  · obtain ⟨a, pt, h, ns, c, rfl, hh, I, ht, hc, q⟩ := h
    obtain rfl := dec11 hc
    have pl := pairs_len h
    repeat walk_at "kc"
    refine ⟨a, h, rfl, hh, I, fun H1 l s1 nl hl => ?_⟩
    obtain ⟨us, hus, au⟩ := hl
    repeat walk_at "kc"
    refine ⟨l, us, rfl, .inl (.of hus), ?_⟩
    rw [← au.length]
    repeat walk_at "kc"
    refine ⟨sz_ok, fun p np => ?_⟩
    repeat walk_at "kc"
    have s2 := Same.upd (o := .lst [.int (h.pairs.length : Nat)]) np
    have ep : upd H1 p (.lst [.int (h.pairs.length : Nat)]) p = some (.lst [.int (h.pairs.length : Nat)]) := upd_same
    generalize upd H1 p (.lst [.int (h.pairs.length : Nat)]) = H2 at s2 ep
    refine ⟨l, rfl, ⟨us, .of (s2 _ _ hus)⟩, for_list (xs := us) (fun i σ H' => ∃ v4 v5 : Option V, σ = [some (.ref a), some (.ref pt), some (.ref l), some (.ref p), v4, v5] ∧ Same H1 H' ∧ H' p = some (.lst (.int (h.pairs.length : Nat) :: nV (flP (h.pairs.take i))))) ?_ ?_ ?_ ?_⟩
    · exact ⟨none, none, rfl, s2, ep⟩
    · rintro i σ H' _ ⟨v4, v5, rfl, s3, _⟩
      exact .of (s3 _ _ hus)
    · rintro i x σ H' hx ⟨v4, v5, rfl, s3, e3⟩
      obtain ⟨y, hy, b, rfl, hb⟩ := au.get hx
      refine r_gTup (s3 _ _ hb) rfl ?_
      repeat walk_at "kc"
      refine ⟨tyL e3, ?_⟩
      repeat walk_at "kc"
      refine ⟨sz_ok, fun t nt => ?_⟩
      have s4 := Same.upd (o := .lst [.int (y.1 : Nat), .int (y.2 : Nat)]) nt
      have et : upd H' t (.lst [.int (y.1 : Nat), .int (y.2 : Nat)]) t = some (.lst [.int (y.1 : Nat), .int (y.2 : Nat)]) := upd_same
      generalize upd H' t (.lst [.int (y.1 : Nat), .int (y.2 : Nat)]) = H3 at s4 et
      repeat walk_at "kc"
      refine r_extend (s4 _ _ e3) et (line_of ?_) ?_
      · have h1 := flP_len (h.pairs.take i)
        rw [List.length_take] at h1
        simp only [List.length_cons, nV_len, List.length_nil]
        omega
      refine ⟨_, _, rfl, (s3.trans s4).put np, ?_⟩
      rw [upd_same, flP_more hy]
      rfl
    · rintro σ H' ⟨v4, v5, rfl, s3, e3⟩
      rw [← au.length, List.take_length] at e3
      repeat walk_at "kc"
      have s := s1.trans s3
      exact q.go (v := (h.pairs.length : Nat)) (l := flP h.pairs) rfl (But.of s) (s1.free np) (hh.same s) e3
end
end KC

/-! ## KcDeed3 -/
namespace KC
open PySem PySem.Spec PyProof.Rows L2
open Oc (C Axiom)
open Oc11 (House)
local macro_rules | `(tactic| walk_at "kc") => `(tactic| with_reducible (first
  | refine r_seq ?_ | refine r_ifS ?_ | refine r_asg ?_ | refine r_ret ?_ | refine r_drop ?_ | refine r_next ?_
  | refine r_op ?_ | refine r_c ?_ | refine r_cons ?_ | refine r_nil ?_ | refine r_cl ?_ | refine r_cx ?_ | refine r_cb ?_
  | refine r_test ?_ | refine r_B ?_ | refine r_and ?_ | refine r_or ?_ | refine r_not ?_ | refine r_bl ?_
  | refine r_notV ?_ | refine r_andV ?_ | refine r_orV ?_ | refine r_tup ?_ | refine r_lst ?_ | refine r_ifE ?_
  | refine r_for ?_ | refine r_lc ?_ | refine r_yes ?_ | refine r_sFld ?_ | refine r_fld ?_ | refine r_par ?_ | refine r_rng1 ?_ | refine r_enum ?_ | refine r_zip3 ?_ | refine r_raise ?_ | refine r_list ?_ | refine r_bm ?_ | refine r_I0 ?_ | refine r_eqI ?_ | refine r_eqB ?_ | refine r_neI ?_ | refine r_gName ?_ | refine r_gCons ?_ | refine r_gNil ?_
  | (refine r_var (by with_unfolding_all rfl) ?_)))
section
variable {P : Program} {w : World} {K : PySem.W.Frag} {mg : Str → Option Value} {base : Heap} {CR fI Cl aD aS aR : Addr}
/-! ### line -/
abbrev s_line : Stmt := topS 63
abbrev N_line : List Str := ["house", "told", "one", "other", "counts"]
theorem sc_line : FnScope N_line ["house", "told"] (defScope s_line) := ⟨rfl, rfl, rfl, by decide +kernel, rfl, by decide +kernel, by decide +kernel⟩
theorem small2 {x : C × C} (h : Small [x.1, x.2]) : KM.size x.1 ≤ 30 ∧ KM.size x.2 ≤ 30 := ⟨h _ (by simp), h _ (by simp)⟩
theorem two_small {ns : List Nat} {x : C × C} (e : Oc.two ns = some x) (h : ns.length ≤ 30) : Small [x.1, x.2] := CI_small (k := 2) (acc := []) (by rw [CI_two, e]; rfl) h (by intro c hc; cases hc)
theorem one_small {ns : List Nat} {c : C} (e : Oc.concept ns = some c) (h : ns.length ≤ 30) : Small [c] := CI_small (k := 1) (acc := []) (by rw [CI_one, e]; rfl) h (by intro c hc; cases hc)
theorem d_line (T : Txt K mg CR fI Cl aD aS aR) (D_concepts_in : DefOk P w K mg base (L2.CX P w) 36 "concepts_in" (spCI CR)) (D_look_room : DefOk P w K mg base (L2.CX P w) 35 "look_room" (spLR CR Cl)) (D_changed : DefOk P w K mg base CX0 36 "changed" (spChg Cl)) (D_with_atoms : DefOk P w K mg base CX0 34 "with_atoms" spWith) (G : Glob K mg "line" s_line) : DefOk P w K mg base (L2.CX P w) 37 "line" (spDeed CR Cl 1) := by
  refine mkDef (ps := ["house", "told"]) G (fun _ _ _ _ _ _ us hl => match us, hl with | [_, _], _ => rfl) fun f fd F => F.okX sc_line (fun vs H Q E h => ?_) fun cdv A outer s H vs Q E hr h => ⟨_, ((pss_cons (ps_asg (pe_cx D_concepts_in (takes_of rfl rfl rfl rfl) (hr.mono (by decide)) (by exact (pa_cons (pv 1) (pa_cons pe_int pa_nil)))) (pg_unl rfl (pgs_cons (pg_name (i := 2) sc_line.nd rfl (Or.inl rfl)) (pgs_cons (pg_name (i := 3) sc_line.nd rfl (Or.inl rfl)) pgs_nil))))
    (pss_cons (ps_if (pt_cmpR op_eq (pe_callB call_len_seq (by rfl) T.b_len boot_len_ (pa_cons (pe_fld (pv 0) rfl) pa_nil)) (pe_gint (by rfl) T.c_MOST_AXIOMS) (nomark _))
      (pss_one (ps_raiseLow rfl T.low hr (takes_of rfl rfl rfl rfl) (by exact (pa_cons (pe_gint (by rfl) T.c_NO_ROOM) pa_nil))))
      pss_nil)
    (pss_cons (ps_expr (pe_cx D_look_room (takes_of rfl rfl rfl rfl) (hr.mono (by decide)) (by exact (pa_cons (pv 0) (pa_cons (pe_lst (pa_cons (pv 2) (pa_cons (pv 3) pa_nil))) pa_nil)))))
    (pss_cons (ps_set (i := 4) sc_line.nd rfl (Or.inl rfl) (pe_cl D_changed (hr.mono (by decide)) (by exact (pa_cons (pv 0) (pa_cons (pe_op op_cat (pe_fld (pv 0) rfl) (pe_lst (pa_cons (pe_tup (pa_cons (pv 2) (pa_cons (pv 3) pa_nil))) pa_nil))) (pa_cons (pe_cl D_with_atoms (hr.mono (by decide)) (by exact (pa_cons (pe_fld (pv 0) rfl) (pa_cons (pe_lst (pa_cons (pv 2) (pa_cons (pv 3) pa_nil))) pa_nil)))) pa_nil))))))
    (pss_one (ps_ret (pe_op op_cat (pe_lst (pa_cons (pe_op op_sub (pe_callB call_len_seq (by rfl) T.b_len boot_len_ (pa_cons (pe_fld (pv 0) rfl) pa_nil)) pe_int) pa_nil)) (pv 4))))))))), ?_⟩
  · obtain ⟨a, pt, h, ns, c, rfl, _⟩ := h; rfl
  · obtain ⟨a, pt, h, ns, c, rfl, hh, I, ht, hc, q⟩ := h
    obtain ⟨hl, rfl⟩ := dec1 hc
    repeat walk_at "kc"
    refine ⟨pt, ns, 2, rfl, ht, hl, by omega, ?_⟩
    rw [CI_two]
    cases e : Oc.two ns with
    | none => exact q.no (KM.st_line0 e) hh
    | some x =>
      have zs := two_small e hl
      obtain ⟨z1, z2⟩ := small2 zs
      intro H1 t s1 nt ht1
      obtain ⟨ws, hws, aw⟩ := ht1
      match ws, aw with
      | [c1, c2], ⟨h1, h2, _⟩ =>
        refine r_gUnl hws rfl ?_
        repeat walk_at "kc"
        have hh1 := hh.same s1
        obtain ⟨dx, pA, pS, pT, pAt, pK, X⟩ := id hh1
        obtain ⟨va, ea, la⟩ := X.ax
        refine ⟨_, _, _, _, _, rfl, X.obj, T.cl, T.nA, lkA, ?_⟩
        repeat walk_at "kc"
        refine ⟨pA, va, rfl, .inl (.of ea), ?_⟩
        rw [← la.length]
        repeat walk_at "kc"
        refine if_by (c' := decide (h.book.axioms.length = 5)) (by simp; omega) (fun e5 => ?_) (fun e5 => ?_)
        · repeat walk_at "kc"
          exact RF.go (q.no (KM.st_line1 e (.inl (of_decide_eq_true e5))) hh) s1
        · have e5 := of_decide_eq_false e5
          repeat walk_at "kc"
          refine ⟨sz_ok, fun t2 nt2 => ?_⟩
          have s2 := Same.upd (o := .lst [c1, c2]) nt2
          have et2 : upd H1 t2 (.lst [c1, c2]) t2 = some (.lst [c1, c2]) := upd_same
          generalize upd H1 t2 (.lst [c1, c2]) = H2 at s2 et2
          have X2 := X.same s2
          repeat walk_at "kc"
          refine ⟨a, t2, h, [x.1, x.2], rfl, hh1.same s2, I, ⟨_, et2, h1.mono s2.tups, h2.mono s2.tups, trivial⟩, zs, by simp, fun h6 => ?_, fun h6 H3 s3 => ?_⟩
          · have r := q.no (KM.st_line1 e (.inr h6)) hh
            exact fun d H' s k => r d H' ((s1.trans s2).trans s) k
          · have s13 := (s1.trans s2).trans s3
            have X3 := X2.same s3
            have hh3 := (hh1.same s2).same s3
            have ea3 := s3 _ _ (s2 _ _ ea)
            repeat walk_at "kc"
            refine ⟨_, _, _, _, _, rfl, X3.obj, T.cl, T.nA, lkA, ?_⟩
            repeat walk_at "kc"
            refine ⟨sz_ok, fun p1 n1 => ?_⟩
            have s4 := Same.upd (o := .tup [c1, c2]) n1
            have e4 : upd H3 p1 (.tup [c1, c2]) p1 = some (.tup [c1, c2]) := upd_same
            generalize upd H3 p1 (.tup [c1, c2]) = H4 at s4 e4
            repeat walk_at "kc"
            refine ⟨sz_ok, fun p2 n2 => ?_⟩
            have s5 := Same.upd (o := .lst [.ref p1]) n2
            have e5' : upd H4 p2 (.lst [.ref p1]) p2 = some (.lst [.ref p1]) := upd_same
            generalize upd H4 p2 (.lst [.ref p1]) = H5 at s5 e5'
            have s45 := s4.trans s5
            have nax := I.nax
            refine r_cat (s45 _ _ ea3) e5' (line_of (by rw [← la.length]; simp only [List.length_cons, List.length_nil]; omega)) fun p3 n3 => ?_
            have s6 := Same.upd (o := .lst (va ++ [.ref p1])) n3
            have e6 : upd H5 p3 (.lst (va ++ [.ref p1])) p3 = some (.lst (va ++ [.ref p1])) := upd_same
            generalize upd H5 p3 (.lst (va ++ [.ref p1])) = H6 at s6 e6
            have s16 := s2.trans (s3.trans (s45.trans s6))
            have X6 := X3.same (s45.trans s6)
            have la6 : LAt AxAt H6 p3 (h.book.axioms ++ [x]) := ⟨_, e6, (la.mono fun _ _ z => z.mono s16.tups).app (.one ⟨p1, c1, c2, rfl, s6 _ _ (s5 _ _ e4), h1.mono s16.tups, h2.mono s16.tups⟩)⟩
            repeat walk_at "kc"
            refine ⟨_, _, _, _, _, rfl, X6.obj, T.cl, T.nAt, lkAt, ?_⟩
            repeat walk_at "kc"
            refine ⟨sz_ok, fun p4 n4 => ?_⟩
            have s7 := Same.upd (o := .lst [c1, c2]) n4
            have e7 : upd H6 p4 (.lst [c1, c2]) p4 = some (.lst [c1, c2]) := upd_same
            generalize upd H6 p4 (.lst [c1, c2]) = H7 at s7 e7
            repeat walk_at "kc"
            have s17 := s16.trans s7
            refine ⟨pAt, p4, h.atoms, [x.1, x.2], rfl, X6.at1.cos s7, ⟨_, e7, h1.mono s17.tups, h2.mono s17.tups, trivial⟩, I.zat, zs, I.nat, by simp, fun H8 p5 s8 n5 h8 => ?_⟩
            repeat walk_at "kc"
            have s18 := s17.trans s8
            refine ⟨a, p3, p5, h, h.book.axioms ++ [x], _, rfl, hh1.same s18, I, la6.axs (s7.trans s8), h8, KM.inv_add I h6 z1 z2 (by omega), fun H9 p6 b9 n6 hh9 e9 => ?_⟩
            have b09 := (But.of (a := a) (s1.trans s18)).trans b9
            obtain ⟨dx2, qA, qS, qT, qAt, qK, Y⟩ := id hh9
            obtain ⟨vb, eb, lb⟩ := Y.ax
            have lbl := lb.length
            rw [List.length_append] at lbl
            repeat walk_at "kc"
            refine ⟨_, _, _, _, _, rfl, Y.obj, T.cl, T.nA, lkA, ?_⟩
            repeat walk_at "kc"
            refine ⟨qA, vb, rfl, .inl (.of eb), ?_⟩
            rw [← lb.length, List.length_append]
            have el : (((h.book.axioms.length + [x].length : Nat) : Int) - 1) = ((h.book.axioms.length : Nat) : Int) := by simp
            repeat walk_at "kc"
            rw [el]
            refine ⟨sz_ok, fun p7 n7 => ?_⟩
            have s10 := Same.upd (o := .lst [.int (h.book.axioms.length : Nat)]) n7
            have e10 : upd H9 p7 (.lst [.int (h.book.axioms.length : Nat)]) p7 = some (.lst [.int (h.book.axioms.length : Nat)]) := upd_same
            generalize upd H9 p7 (.lst [.int (h.book.axioms.length : Nat)]) = H10 at s10 e10
            repeat walk_at "kc"
            refine r_cat e10 (s10 _ _ e9) (line_of (by rw [nV_len]; show 1 + 3 ≤ 1000000; omega)) fun p8 n8 => ?_
            exact q.put (KM.st_line2 I e e5 h6) hh (b09.trans (But.of s10)) (hh9.same s10) n8
/-! ### drop -/
abbrev s_drop : Stmt := topS 64
abbrev N_drop : List Str := ["house", "told", "counts"]
theorem sc_drop : FnScope N_drop ["house", "told"] (defScope s_drop) := ⟨rfl, rfl, rfl, by decide +kernel, rfl, by decide +kernel, by decide +kernel⟩
theorem Al.cut {α : Type} {R : α → V → Prop} {xs : List α} {vs : List V} (i : Nat) (h : Al R xs vs) : Al R (xs.take i ++ xs.drop (i + 1)) (vs.take i ++ vs.drop (i + 1)) := (h.take i).app (h.drop (i + 1))
theorem d_drop (T : Txt K mg CR fI Cl aD aS aR) (D_without : DefOk P w K mg base (L2.CX P w) 3 "without" (spWO CR)) (D_changed : DefOk P w K mg base CX0 36 "changed" (spChg Cl)) (G : Glob K mg "drop" s_drop) : DefOk P w K mg base (L2.CX P w) 37 "drop" (spDeed CR Cl 2) := by
  refine mkDef (ps := ["house", "told"]) G (fun _ _ _ _ _ _ us hl => match us, hl with | [_, _], _ => rfl) fun f fd F => F.okX sc_drop (fun vs H Q E h => ?_) fun cdv A outer s H vs Q E hr h => ⟨_, ((pss_cons (ps_set (i := 2) sc_drop.nd rfl (Or.inl rfl) (pe_cl D_changed (hr.mono (by decide)) (by exact (pa_cons (pv 0) (pa_cons (pe_cx D_without (takes_of rfl rfl rfl rfl) (hr.mono (by decide)) (by exact (pa_cons (pe_fld (pv 0) rfl) (pa_cons (pe_ix ix_list (pv 1) pe_int (fun _ _ => rfl)) pa_nil)))) (pa_cons (pe_fld (pv 0) rfl) pa_nil))))))
    (pss_one (ps_ret (pe_op op_cat (pe_lst (pa_cons (pe_callB call_len_seq (by rfl) T.b_len boot_len_ (pa_cons (pe_fld (pv 0) rfl) pa_nil)) pa_nil)) (pv 2)))))), ?_⟩
  · obtain ⟨a, pt, h, ns, c, rfl, _⟩ := h; rfl
  · obtain ⟨a, pt, h, ns, c, rfl, hh, I, ht, hc, q⟩ := h
    obtain ⟨i, rfl, rfl⟩ := dec2 hc
    obtain ⟨dx, pA, pS, pT, pAt, pK, X⟩ := id hh
    obtain ⟨va, ea, la⟩ := X.ax
    have nax := I.nax
    repeat walk_at "kc"
    refine ⟨_, _, _, _, _, rfl, X.obj, T.cl, T.nA, lkA, ?_⟩
    repeat walk_at "kc"
    refine r_ixL ht (j := 0) rfl rfl ?_
    repeat walk_at "kc"
    refine ⟨pA, va, i, rfl, ea, by rw [← la.length]; omega, fun h1 => ?_, fun h1 H1 p1 s1 n1 e1 => ?_⟩
    · exact q.no (KM.st_drop1 (by rw [la.length]; exact h1)) hh
    · rw [← la.length] at h1
      have X1 := X.same s1
      repeat walk_at "kc"
      refine ⟨_, _, _, _, _, rfl, X1.obj, T.cl, T.nAt, lkAt, ?_⟩
      repeat walk_at "kc"
      refine ⟨a, p1, pAt, h, _, _, rfl, hh.same s1, I, ⟨_, e1, (la.cut i).mono fun _ _ z => z.mono s1.tups⟩, X1.at1, KM.inv_drop I, fun H2 p2 b2 n2 hh2 e2 => ?_⟩
      have b02 := (But.of (a := a) s1).trans b2
      obtain ⟨dx2, qA, qS, qT, qAt, qK, Y⟩ := id hh2
      obtain ⟨vb, eb, lb⟩ := Y.ax
      repeat walk_at "kc"
      refine ⟨_, _, _, _, _, rfl, Y.obj, T.cl, T.nA, lkA, ?_⟩
      repeat walk_at "kc"
      refine ⟨qA, vb, rfl, .inl (.of eb), ?_⟩
      rw [← lb.length]
      repeat walk_at "kc"
      refine ⟨sz_ok, fun p7 n7 => ?_⟩
      generalize eo : ([V.int (((h.book.axioms.take i ++ h.book.axioms.drop (i + 1)).length : Nat) : Int)] : List V) = o
      have s10 := Same.upd (o := .lst o) n7
      have e10 : upd H2 p7 (.lst o) p7 = some (.lst o) := upd_same
      generalize upd H2 p7 (.lst o) = H10 at s10 e10
      repeat walk_at "kc"
      refine r_cat e10 (s10 _ _ e2) (line_of (by rw [← eo, nV_len]; show 1 + 3 ≤ 1000000; omega)) fun p8 n8 => ?_
      rw [← eo]
      exact q.put (KM.st_drop2 h1) hh (b02.trans (But.of s10)) (hh2.same s10) n8
end
end KC

/-! ## KcDeed4 -/
namespace KC
open PySem PySem.Spec PyProof.Rows L2
open Oc (C Axiom)
open Oc11 (House)
local macro_rules | `(tactic| walk_at "kc") => `(tactic| with_reducible (first
  | refine r_seq ?_ | refine r_ifS ?_ | refine r_asg ?_ | refine r_ret ?_ | refine r_drop ?_ | refine r_next ?_
  | refine r_op ?_ | refine r_c ?_ | refine r_cons ?_ | refine r_nil ?_ | refine r_cl ?_ | refine r_cx ?_ | refine r_cb ?_
  | refine r_test ?_ | refine r_B ?_ | refine r_and ?_ | refine r_or ?_ | refine r_not ?_ | refine r_bl ?_
  | refine r_notV ?_ | refine r_andV ?_ | refine r_orV ?_ | refine r_tup ?_ | refine r_lst ?_ | refine r_ifE ?_
  | refine r_for ?_ | refine r_lc ?_ | refine r_yes ?_ | refine r_sFld ?_ | refine r_fld ?_ | refine r_par ?_ | refine r_rng1 ?_ | refine r_enum ?_ | refine r_zip3 ?_ | refine r_raise ?_ | refine r_list ?_ | refine r_bm ?_ | refine r_I0 ?_ | refine r_eqI ?_ | refine r_eqB ?_ | refine r_neI ?_ | refine r_gName ?_ | refine r_gCons ?_ | refine r_gNil ?_
  | (refine r_var (by with_unfolding_all rfl) ?_)))
section
variable {P : Program} {w : World} {K : PySem.W.Frag} {mg : Str → Option Value} {base : Heap} {CR fI Cl aD aS aR : Addr}
theorem cut_one {i : Nat} {l : List Nat} : cutV (nV (i :: l)) (some 1) none = nV l := cut_hi (xs := nV (i :: l)) (i := 1) (by rw [nV_len]; simp)
theorem with_at {h : House} (I : KM.HInv h) (l : List C) : (h.with_ l).atoms = KM.withAtoms h.atoms l := by rw [KM.with_house I]
theorem with_book {h : House} (I : KM.HInv h) (l : List C) : (h.with_ l).book = h.book := by rw [KM.with_house I]
theorem with_inv {h : House} (I : KM.HInv h) {l : List C} (h6 : (KM.withAtoms h.atoms l).length ≤ 6) (z : Small l) : KM.HInv (h.with_ l) := by
  rw [KM.with_house I]; exact KM.inv_with I h6 z
/-! ### says -/
abbrev s_says : Stmt := topS 66
abbrev N_says : List Str := ["house", "told", "concepts"]
theorem sc_says : FnScope N_says ["house", "told"] (defScope s_says) := ⟨rfl, rfl, rfl, by decide +kernel, rfl, by decide +kernel, by decide +kernel⟩
theorem d_says (T : Txt K mg CR fI Cl aD aS aR) (D_concepts_in : DefOk P w K mg base (L2.CX P w) 36 "concepts_in" (spCI CR)) (D_look_thing : DefOk P w K mg base (L2.CX P w) 3 "look_thing" (spLT CR Cl)) (D_look_room : DefOk P w K mg base (L2.CX P w) 35 "look_room" (spLR CR Cl)) (D_bring : DefOk P w K mg base CX0 36 "bring" (spBring Cl)) (G : Glob K mg "says" s_says) : DefOk P w K mg base (L2.CX P w) 37 "says" (spDeed CR Cl 4) := by
  refine mkDef (ps := ["house", "told"]) G (fun _ _ _ _ _ _ us hl => match us, hl with | [_, _], _ => rfl) fun f fd F => F.okX sc_says (fun vs H Q E h => ?_) fun cdv A outer s H vs Q E hr h => ⟨_, ((pss_cons (ps_set (i := 2) sc_says.nd rfl (Or.inl rfl) (pe_cx D_concepts_in (takes_of rfl rfl rfl rfl) (hr.mono (by decide)) (by exact (pa_cons (pe_slice sl_list (pv 1) (po_some pe_int) po_none) (pa_cons pe_int pa_nil)))))
    (pss_cons (ps_expr (pe_cx D_look_thing (takes_of rfl rfl rfl rfl) (hr.mono (by decide)) (by exact (pa_cons (pv 0) (pa_cons (pe_ix ix_list (pv 1) pe_int (fun _ _ => rfl)) pa_nil)))))
    (pss_cons (ps_if (pt_cmpR op_eq (pe_callB call_len_seq (by rfl) T.b_len boot_len_ (pa_cons (pe_fld (pv 0) rfl) pa_nil)) (pe_gint (by rfl) T.c_MOST_SAID) (nomark _))
      (pss_one (ps_raiseLow rfl T.low hr (takes_of rfl rfl rfl rfl) (by exact (pa_cons (pe_gint (by rfl) T.c_NO_ROOM) pa_nil))))
      pss_nil)
    (pss_cons (ps_expr (pe_cx D_look_room (takes_of rfl rfl rfl rfl) (hr.mono (by decide)) (by exact (pa_cons (pv 0) (pa_cons (pv 2) pa_nil)))))
    (pss_cons (ps_expr (pe_cl D_bring (hr.mono (by decide)) (by exact (pa_cons (pv 0) (pa_cons (pv 2) pa_nil)))))
    (pss_cons (ps_fld (pv 0) (pe_op op_cat (pe_fld (pv 0) rfl) (pe_lst (pa_cons (pe_tup (pa_cons (pe_ix ix_list (pv 1) pe_int (fun _ _ => rfl)) (pa_cons (pe_ix ix_list (pv 2) pe_int (fun _ _ => rfl)) pa_nil))) pa_nil))) rfl)
    (pss_one (ps_ret (pe_lst (pa_cons (pe_op op_sub (pe_callB call_len_seq (by rfl) T.b_len boot_len_ (pa_cons (pe_fld (pv 0) rfl) pa_nil)) pe_int) pa_nil))))))))))), ?_⟩
  · obtain ⟨a, pt, h, ns, c, rfl, _⟩ := h; rfl
  · obtain ⟨a, pt, h, ns, c, rfl, hh, I, ht, hc, q⟩ := h
    obtain ⟨i, l, rfl, hl, rfl⟩ := dec4 hc
    repeat walk_at "kc"
    refine r_sl ?_
    repeat walk_at "kc"
    refine r_part ?_
    repeat walk_at "kc"
    refine ⟨_, rfl, ?_⟩
    refine r_noPart ?_
    refine ⟨pt, _, rfl, .of ht, fun p1 n1 => ?_⟩
    rw [cut_one]
    have s1 := Same.upd (o := .lst (nV l)) n1
    have e1 : upd H p1 (.lst (nV l)) p1 = some (.lst (nV l)) := upd_same
    generalize upd H p1 (.lst (nV l)) = H1 at s1 e1
    repeat walk_at "kc"
    refine ⟨p1, l, 1, rfl, e1, hl, by omega, ?_⟩
    rw [CI_one]
    cases e : Oc.concept l with
    | none =>
      have r := q.no (KM.st_says0 e) hh
      exact fun d H' s k => r d H' (s1.trans s) k
    | some x =>
      have zs := one_small e hl
      intro H2 t s2 nt ht2
      obtain ⟨ws, hws, aw⟩ := id ht2
      match ws, aw with
      | [c1], ⟨h1, _⟩ =>
        have s12 := s1.trans s2
        have hh2 := hh.same s12
        repeat walk_at "kc"
        refine r_ixL (s12 _ _ ht) (j := 0) rfl rfl ?_
        repeat walk_at "kc"
        refine ⟨a, h, i, rfl, hh2, fun hi => ?_, fun hi H3 s3 => ?_⟩
        · have r := q.no (KM.st_says1 e hi) hh
          exact fun d H' s k => r d H' (s12.trans s) k
        · have s13 := s12.trans s3
          have hh3 := hh2.same s3
          obtain ⟨dx, pA, pS, pT, pAt, pK, X⟩ := id hh3
          obtain ⟨va, ea, la⟩ := X.sa
          have nsa := I.nsa
          repeat walk_at "kc"
          refine ⟨_, _, _, _, _, rfl, X.obj, T.cl, T.nS, lkS, ?_⟩
          repeat walk_at "kc"
          refine ⟨pS, va, rfl, .inl (.of ea), ?_⟩
          rw [← la.length]
          repeat walk_at "kc"
          refine if_by (c' := decide (h.book.says.length = 5)) (by simp; omega) (fun e5 => ?_) (fun e5 => ?_)
          · repeat walk_at "kc"
            exact RF.go (q.no (KM.st_says2 e hi (.inl (of_decide_eq_true e5))) hh) s13
          · have e5 := of_decide_eq_false e5
            repeat walk_at "kc"
            refine ⟨a, t, h, [x], rfl, hh3, I, ht2.cos s3, zs, by simp, fun h6 => ?_, fun h6 H4 s4 => ?_⟩
            · have r := q.no (KM.st_says2 e hi (.inr h6)) hh
              exact fun d H' s k => r d H' (s13.trans s) k
            · have s14 := s13.trans s4
              repeat walk_at "kc"
              refine ⟨a, t, h, [x], rfl, hh3.same s4, ht2.cos (s3.trans s4), I, zs, by simp, h6, fun H5 b5 hh5 => ?_⟩
              have b05 := (But.of (a := a) s14).trans b5
              rw [KM.with_house I] at hh5
              have X4 := X.same s4
              have hws5 := b5.at X4.obj (s4 _ _ (s3 _ _ hws)) (by intro z; cases z)
              obtain ⟨dx0, _, _, _, _, _, X0⟩ := id hh
              have ht5 := b05.at X0.obj ht (by intro z; cases z)
              have h15 : ConAt H5 x c1 := (h1.mono (s3.trans s4).tups).mono (b5.tups X4.obj)
              obtain ⟨ex, qA, qS, qT, qAt, qK, Y⟩ := id hh5
              obtain ⟨vb, eb, lb⟩ := Y.sa
              repeat walk_at "kc"
              refine ⟨_, _, _, _, _, rfl, Y.obj, T.cl, T.nS, lkS, ?_⟩
              repeat walk_at "kc"
              refine r_ixL ht5 (j := 0) rfl rfl ?_
              repeat walk_at "kc"
              refine r_ixL hws5 (j := 0) rfl rfl ?_
              repeat walk_at "kc"
              refine ⟨sz_ok, fun p6 n6 => ?_⟩
              have s6 := Same.upd (o := .tup [.int (i : Nat), c1]) n6
              have e6 : upd H5 p6 (.tup [.int (i : Nat), c1]) p6 = some (.tup [.int (i : Nat), c1]) := upd_same
              generalize upd H5 p6 (.tup [.int (i : Nat), c1]) = H6 at s6 e6
              repeat walk_at "kc"
              refine ⟨sz_ok, fun p7 n7 => ?_⟩
              have s7 := Same.upd (o := .lst [.ref p6]) n7
              have e7 : upd H6 p7 (.lst [.ref p6]) p7 = some (.lst [.ref p6]) := upd_same
              generalize upd H6 p7 (.lst [.ref p6]) = H7 at s7 e7
              have lbl : h.book.says.length = vb.length := lb.length
              refine r_cat ((s6.trans s7) _ _ eb) e7 (line_of (by rw [← lbl]; simp only [List.length_cons, List.length_nil]; omega)) fun p8 n8 => ?_
              have s8 := Same.upd (o := .lst (vb ++ [.ref p6])) n8
              have e8 : upd H7 p8 (.lst (vb ++ [.ref p6])) p8 = some (.lst (vb ++ [.ref p6])) := upd_same
              generalize upd H7 p8 (.lst (vb ++ [.ref p6])) = H8 at s8 e8
              have s58 := (s6.trans s7).trans s8
              have Y8 := Y.same s58
              repeat walk_at "kc"
              refine r_sf T Y8.obj T.nS ?_
              rw [ptS]
              have ls : LAt SaAt H8 p8 (h.book.says ++ [(i, x)]) := ⟨_, e8, (lb.mono fun _ _ z => z.mono s58.tups).app (.one ⟨p6, c1, rfl, s8 _ _ (s7 _ _ e6), h15.mono s58.tups⟩)⟩
              have b9 : But a H8 (upd H8 a (.ins Cl ex (hF qA h.book.things p8 qT qAt qK))) := But.upd
              have hh9 : HouseAt Cl (upd H8 a (.ins Cl ex (hF qA h.book.things p8 qT qAt qK))) a { KM.kWith h [x] with book := h.book.say i x } :=
                ⟨ex, qA, p8, qT, qAt, qK, upd_same, Y8.ax.axb b9 Y8.obj, ls.sab b9 Y8.obj, Y8.ti.tib b9 Y8.obj, Y8.at1.cob b9 Y8.obj, Y8.ki.kib b9 Y8.obj⟩
              have b09 := (b05.trans (But.of s58)).trans b9
              have e9 := b9.at Y8.obj e8 (by intro z; cases z)
              have o9 : upd H8 a (.ins Cl ex (hF qA h.book.things p8 qT qAt qK)) a = some (.ins Cl ex (hF qA h.book.things p8 qT qAt qK)) := upd_same
              generalize upd H8 a (.ins Cl ex (hF qA h.book.things p8 qT qAt qK)) = H9 at b9 hh9 b09 e9 o9
              repeat walk_at "kc"
              refine ⟨_, _, _, _, _, rfl, o9, T.cl, T.nS, lkS, ?_⟩
              repeat walk_at "kc"
              refine ⟨p8, _, rfl, .inl (.of e9), ?_⟩
              repeat walk_at "kc"
              have el : ((((vb ++ [V.ref p6]).length : Nat) : Int) - 1) = ((h.book.says.length : Nat) : Int) := by rw [lbl]; simp
              rw [el]
              refine ⟨sz_ok, fun p10 n10 => ?_⟩
              exact q.put (KM.st_says3 I e hi e5 h6) hh b09 hh9 n10
/-! ### unsay -/
abbrev s_unsay : Stmt := topS 67
abbrev N_unsay : List Str := ["house", "told"]
theorem sc_unsay : FnScope N_unsay ["house", "told"] (defScope s_unsay) := ⟨rfl, rfl, rfl, by decide +kernel, rfl, by decide +kernel, by decide +kernel⟩
theorem d_unsay (T : Txt K mg CR fI Cl aD aS aR) (D_without : DefOk P w K mg base (L2.CX P w) 3 "without" (spWO CR)) (G : Glob K mg "unsay" s_unsay) : DefOk P w K mg base (L2.CX P w) 37 "unsay" (spDeed CR Cl 5) := by
  refine mkDef (ps := ["house", "told"]) G (fun _ _ _ _ _ _ us hl => match us, hl with | [_, _], _ => rfl) fun f fd F => F.okX sc_unsay (fun vs H Q E h => ?_) fun cdv A outer s H vs Q E hr h => ⟨_, ((pss_cons (ps_fld (pv 0) (pe_cx D_without (takes_of rfl rfl rfl rfl) (hr.mono (by decide)) (by exact (pa_cons (pe_fld (pv 0) rfl) (pa_cons (pe_ix ix_list (pv 1) pe_int (fun _ _ => rfl)) pa_nil)))) rfl)
    (pss_one (ps_ret (pe_lst (pa_cons (pe_callB call_len_seq (by rfl) T.b_len boot_len_ (pa_cons (pe_fld (pv 0) rfl) pa_nil)) pa_nil)))))), ?_⟩
  · obtain ⟨a, pt, h, ns, c, rfl, _⟩ := h; rfl
  · obtain ⟨a, pt, h, ns, c, rfl, hh, I, ht, hc, q⟩ := h
    obtain ⟨i, rfl, rfl⟩ := dec5 hc
    obtain ⟨dx, pA, pS, pT, pAt, pK, X⟩ := id hh
    obtain ⟨va, ea, la⟩ := X.sa
    have nsa := I.nsa
    repeat walk_at "kc"
    refine ⟨_, _, _, _, _, rfl, X.obj, T.cl, T.nS, lkS, ?_⟩
    repeat walk_at "kc"
    refine r_ixL ht (j := 0) rfl rfl ?_
    repeat walk_at "kc"
    refine ⟨pS, va, i, rfl, ea, by rw [← la.length]; omega, fun h1 => ?_, fun h1 H1 p1 s1 n1 e1 => ?_⟩
    · exact q.no (KM.st_unsay1 (by rw [la.length]; exact h1)) hh
    · rw [← la.length] at h1
      have X1 := X.same s1
      repeat walk_at "kc"
      refine r_sf T X1.obj T.nS ?_
      rw [ptS]
      have ls : LAt SaAt H1 p1 (h.book.says.take i ++ h.book.says.drop (i + 1)) := ⟨_, e1, (la.cut i).mono fun _ _ z => z.mono s1.tups⟩
      have b9 : But a H1 (upd H1 a (.ins Cl dx (hF pA h.book.things p1 pT pAt pK))) := But.upd
      have hh9 : HouseAt Cl (upd H1 a (.ins Cl dx (hF pA h.book.things p1 pT pAt pK))) a { h with book := { h.book with says := h.book.says.take i ++ h.book.says.drop (i + 1) } } :=
        ⟨dx, pA, p1, pT, pAt, pK, upd_same, X1.ax.axb b9 X1.obj, ls.sab b9 X1.obj, X1.ti.tib b9 X1.obj, X1.at1.cob b9 X1.obj, X1.ki.kib b9 X1.obj⟩
      have b09 := (But.of (a := a) s1).trans b9
      have e9 := b9.at X1.obj e1 (by intro z; cases z)
      have o9 : upd H1 a (.ins Cl dx (hF pA h.book.things p1 pT pAt pK)) a = some (.ins Cl dx (hF pA h.book.things p1 pT pAt pK)) := upd_same
      generalize upd H1 a (.ins Cl dx (hF pA h.book.things p1 pT pAt pK)) = H9 at b9 hh9 b09 e9 o9
      repeat walk_at "kc"
      refine ⟨_, _, _, _, _, rfl, o9, T.cl, T.nS, lkS, ?_⟩
      repeat walk_at "kc"
      refine ⟨p1, _, rfl, .inl (.of e9), ?_⟩
      repeat walk_at "kc"
      have el : (va.take i ++ va.drop (i + 1)).length = h.book.says.length - 1 := by rw [KM.cut_len (by rw [← la.length]; exact h1), la.length]
      rw [el]
      refine ⟨sz_ok, fun p10 n10 => ?_⟩
      exact q.put (KM.st_unsay2 h1) hh b09 hh9 n10
/-! ### untie -/
abbrev s_untie : Stmt := topS 69
abbrev N_untie : List Str := ["house", "told"]
theorem sc_untie : FnScope N_untie ["house", "told"] (defScope s_untie) := ⟨rfl, rfl, rfl, by decide +kernel, rfl, by decide +kernel, by decide +kernel⟩
theorem d_untie (T : Txt K mg CR fI Cl aD aS aR) (D_without : DefOk P w K mg base (L2.CX P w) 3 "without" (spWO CR)) (G : Glob K mg "untie" s_untie) : DefOk P w K mg base (L2.CX P w) 37 "untie" (spDeed CR Cl 7) := by
  refine mkDef (ps := ["house", "told"]) G (fun _ _ _ _ _ _ us hl => match us, hl with | [_, _], _ => rfl) fun f fd F => F.okX sc_untie (fun vs H Q E h => ?_) fun cdv A outer s H vs Q E hr h => ⟨_, ((pss_cons (ps_fld (pv 0) (pe_cx D_without (takes_of rfl rfl rfl rfl) (hr.mono (by decide)) (by exact (pa_cons (pe_fld (pv 0) rfl) (pa_cons (pe_ix ix_list (pv 1) pe_int (fun _ _ => rfl)) pa_nil)))) rfl)
    (pss_one (ps_ret (pe_lst (pa_cons (pe_callB call_len_seq (by rfl) T.b_len boot_len_ (pa_cons (pe_fld (pv 0) rfl) pa_nil)) pa_nil)))))), ?_⟩
  · obtain ⟨a, pt, h, ns, c, rfl, _⟩ := h; rfl
  · obtain ⟨a, pt, h, ns, c, rfl, hh, I, ht, hc, q⟩ := h
    obtain ⟨i, rfl, rfl⟩ := dec7 hc
    obtain ⟨dx, pA, pS, pT, pAt, pK, X⟩ := id hh
    obtain ⟨va, ea, la⟩ := X.ti
    have nti := I.nti
    repeat walk_at "kc"
    refine ⟨_, _, _, _, _, rfl, X.obj, T.cl, T.nT, lkT, ?_⟩
    repeat walk_at "kc"
    refine r_ixL ht (j := 0) rfl rfl ?_
    repeat walk_at "kc"
    refine ⟨pT, va, i, rfl, ea, by rw [← la.length]; omega, fun h1 => ?_, fun h1 H1 p1 s1 n1 e1 => ?_⟩
    · exact q.no (KM.st_untie1 (by rw [la.length]; exact h1)) hh
    · rw [← la.length] at h1
      have X1 := X.same s1
      repeat walk_at "kc"
      refine r_sf T X1.obj T.nT ?_
      rw [ptT]
      have ls : LAt TiAt H1 p1 (h.book.ties.take i ++ h.book.ties.drop (i + 1)) := ⟨_, e1, (la.cut i).mono fun _ _ z => z.mono s1.tups⟩
      have b9 : But a H1 (upd H1 a (.ins Cl dx (hF pA h.book.things pS p1 pAt pK))) := But.upd
      have hh9 : HouseAt Cl (upd H1 a (.ins Cl dx (hF pA h.book.things pS p1 pAt pK))) a { h with book := { h.book with ties := h.book.ties.take i ++ h.book.ties.drop (i + 1) } } :=
        ⟨dx, pA, pS, p1, pAt, pK, upd_same, X1.ax.axb b9 X1.obj, X1.sa.sab b9 X1.obj, ls.tib b9 X1.obj, X1.at1.cob b9 X1.obj, X1.ki.kib b9 X1.obj⟩
      have b09 := (But.of (a := a) s1).trans b9
      have e9 := b9.at X1.obj e1 (by intro z; cases z)
      have o9 : upd H1 a (.ins Cl dx (hF pA h.book.things pS p1 pAt pK)) a = some (.ins Cl dx (hF pA h.book.things pS p1 pAt pK)) := upd_same
      generalize upd H1 a (.ins Cl dx (hF pA h.book.things pS p1 pAt pK)) = H9 at b9 hh9 b09 e9 o9
      repeat walk_at "kc"
      refine ⟨_, _, _, _, _, rfl, o9, T.cl, T.nT, lkT, ?_⟩
      repeat walk_at "kc"
      refine ⟨p1, _, rfl, .inl (.of e9), ?_⟩
      repeat walk_at "kc"
      have el : (va.take i ++ va.drop (i + 1)).length = h.book.ties.length - 1 := by rw [KM.cut_len (by rw [← la.length]; exact h1), la.length]
      rw [el]
      refine ⟨sz_ok, fun p10 n10 => ?_⟩
      exact q.put (KM.st_untie2 h1) hh b09 hh9 n10
end
end KC

/-! ## KcDeed5 -/
namespace KC
open PySem PySem.Spec PyProof.Rows L2
open Oc (C Axiom)
open Oc11 (House)
local macro_rules | `(tactic| walk_at "kc") => `(tactic| with_reducible (first
  | refine r_seq ?_ | refine r_ifS ?_ | refine r_asg ?_ | refine r_ret ?_ | refine r_drop ?_ | refine r_next ?_
  | refine r_op ?_ | refine r_c ?_ | refine r_cons ?_ | refine r_nil ?_ | refine r_cl ?_ | refine r_cx ?_ | refine r_cb ?_
  | refine r_test ?_ | refine r_B ?_ | refine r_and ?_ | refine r_or ?_ | refine r_not ?_ | refine r_bl ?_
  | refine r_notV ?_ | refine r_andV ?_ | refine r_orV ?_ | refine r_tup ?_ | refine r_lst ?_ | refine r_ifE ?_
  | refine r_for ?_ | refine r_lc ?_ | refine r_yes ?_ | refine r_sFld ?_ | refine r_fld ?_ | refine r_par ?_ | refine r_rng1 ?_ | refine r_enum ?_ | refine r_zip3 ?_ | refine r_raise ?_ | refine r_list ?_ | refine r_bm ?_ | refine r_I0 ?_ | refine r_eqI ?_ | refine r_eqB ?_ | refine r_neI ?_ | refine r_gName ?_ | refine r_gCons ?_ | refine r_gNil ?_
  | (refine r_var (by with_unfolding_all rfl) ?_)))
section
variable {P : Program} {w : World} {K : PySem.W.Frag} {mg : Str → Option Value} {base : Heap} {CR fI Cl aD aS aR : Addr}
/-! ### tie -/
abbrev s_tie : Stmt := topS 68
abbrev N_tie : List Str := ["house", "told", "role", "one", "other"]
theorem sc_tie : FnScope N_tie ["house", "told"] (defScope s_tie) := ⟨rfl, rfl, rfl, by decide +kernel, rfl, by decide +kernel, by decide +kernel⟩
theorem d_tie (T : Txt K mg CR fI Cl aD aS aR) (D_look_thing : DefOk P w K mg base (L2.CX P w) 3 "look_thing" (spLT CR Cl)) (G : Glob K mg "tie" s_tie) : DefOk P w K mg base (L2.CX P w) 37 "tie" (spDeed CR Cl 6) := by
  refine mkDef (ps := ["house", "told"]) G (fun _ _ _ _ _ _ us hl => match us, hl with | [_, _], _ => rfl) fun f fd F => F.okX sc_tie (fun vs H Q E h => ?_) fun cdv A outer s H vs Q E hr h => ⟨_, ((pss_cons (ps_asg (pv 1) (pg_unl rfl (pgs_cons (pg_name (i := 2) sc_tie.nd rfl (Or.inl rfl)) (pgs_cons (pg_name (i := 3) sc_tie.nd rfl (Or.inl rfl)) (pgs_cons (pg_name (i := 4) sc_tie.nd rfl (Or.inl rfl)) pgs_nil)))))
    (pss_cons (ps_if (pt_cmpR op_ge (pv 2) (pe_gint (by rfl) T.c_ROLES) (nomark _))
      (pss_one (ps_raiseLow rfl T.low hr (takes_of rfl rfl rfl rfl) (by exact (pa_cons (pe_gint (by rfl) T.c_NOT_SO) pa_nil))))
      pss_nil)
    (pss_cons (ps_expr (pe_cx D_look_thing (takes_of rfl rfl rfl rfl) (hr.mono (by decide)) (by exact (pa_cons (pv 0) (pa_cons (pv 3) pa_nil)))))
    (pss_cons (ps_expr (pe_cx D_look_thing (takes_of rfl rfl rfl rfl) (hr.mono (by decide)) (by exact (pa_cons (pv 0) (pa_cons (pv 4) pa_nil)))))
    (pss_cons (ps_if (pt_cmpR op_eq (pe_callB call_len_seq (by rfl) T.b_len boot_len_ (pa_cons (pe_fld (pv 0) rfl) pa_nil)) (pe_gint (by rfl) T.c_MOST_TIES) (nomark _))
      (pss_one (ps_raiseLow rfl T.low hr (takes_of rfl rfl rfl rfl) (by exact (pa_cons (pe_gint (by rfl) T.c_NO_ROOM) pa_nil))))
      pss_nil)
    (pss_cons (ps_fld (pv 0) (pe_op op_cat (pe_fld (pv 0) rfl) (pe_lst (pa_cons (pe_tup (pa_cons (pv 2) (pa_cons (pv 3) (pa_cons (pv 4) pa_nil)))) pa_nil))) rfl)
    (pss_one (ps_ret (pe_lst (pa_cons (pe_op op_sub (pe_callB call_len_seq (by rfl) T.b_len boot_len_ (pa_cons (pe_fld (pv 0) rfl) pa_nil)) pe_int) pa_nil))))))))))), ?_⟩
  · obtain ⟨a, pt, h, ns, c, rfl, _⟩ := h; rfl
  · obtain ⟨a, pt, h, ns, c, rfl, hh, I, ht, hc, q⟩ := h
    obtain ⟨r, x, y, rfl, rfl⟩ := dec6 hc
    obtain ⟨dx, pA, pS, pT, pAt, pK, X⟩ := id hh
    repeat walk_at "kc"
    refine r_gUnl (xs := [.int (r : Nat), .int (x : Nat), .int (y : Nat)]) ht rfl ?_
    repeat walk_at "kc"
    refine if_by (c' := decide (2 ≤ r)) (by simp; omega) (fun e0 => ?_) (fun e0 => ?_)
    · repeat walk_at "kc"
      exact RF.go (q.no (KM.st_tie0 (of_decide_eq_true e0)) hh) (Same.refl _)
    · have e0 : r < 2 := by have := of_decide_eq_false e0; omega
      repeat walk_at "kc"
      refine ⟨a, h, x, rfl, hh, fun hx => q.no (KM.st_tie1 e0 (.inl hx)) hh, fun hx H1 s1 => ?_⟩
      repeat walk_at "kc"
      refine ⟨a, h, y, rfl, hh.same s1, fun hy => ?_, fun hy H2 s2 => ?_⟩
      · have k := q.no (KM.st_tie1 e0 (.inr hy)) hh
        exact fun d H' s e => k d H' (s1.trans s) e
      · have s12 := s1.trans s2
        have X2 := X.same s12
        have hh2 := hh.same s12
        obtain ⟨vb, eb, lb⟩ := X2.ti
        have nti := I.nti
        repeat walk_at "kc"
        refine ⟨_, _, _, _, _, rfl, X2.obj, T.cl, T.nT, lkT, ?_⟩
        repeat walk_at "kc"
        refine ⟨pT, vb, rfl, .inl (.of eb), ?_⟩
        rw [← lb.length]
        repeat walk_at "kc"
        refine if_by (c' := decide (h.book.ties.length = 5)) (by simp; omega) (fun e5 => ?_) (fun e5 => ?_)
        · repeat walk_at "kc"
          exact RF.go (q.no (KM.st_tie2 e0 hx hy (of_decide_eq_true e5)) hh) s12
        · have e5 := of_decide_eq_false e5
          repeat walk_at "kc"
          refine ⟨_, _, _, _, _, rfl, X2.obj, T.cl, T.nT, lkT, ?_⟩
          repeat walk_at "kc"
          refine ⟨sz_ok, fun p6 n6 => ?_⟩
          have s6 := Same.upd (o := .tup [.int (r : Nat), .int (x : Nat), .int (y : Nat)]) n6
          have e6 : upd H2 p6 (.tup [.int (r : Nat), .int (x : Nat), .int (y : Nat)]) p6 = some (.tup [.int (r : Nat), .int (x : Nat), .int (y : Nat)]) := upd_same
          generalize upd H2 p6 (.tup [.int (r : Nat), .int (x : Nat), .int (y : Nat)]) = H6 at s6 e6
          repeat walk_at "kc"
          refine ⟨sz_ok, fun p7 n7 => ?_⟩
          have s7 := Same.upd (o := .lst [.ref p6]) n7
          have e7 : upd H6 p7 (.lst [.ref p6]) p7 = some (.lst [.ref p6]) := upd_same
          generalize upd H6 p7 (.lst [.ref p6]) = H7 at s7 e7
          have lbl : h.book.ties.length = vb.length := lb.length
          refine r_cat ((s6.trans s7) _ _ eb) e7 (line_of (by rw [← lbl]; simp only [List.length_cons, List.length_nil]; omega)) fun p8 n8 => ?_
          have s8 := Same.upd (o := .lst (vb ++ [.ref p6])) n8
          have e8 : upd H7 p8 (.lst (vb ++ [.ref p6])) p8 = some (.lst (vb ++ [.ref p6])) := upd_same
          generalize upd H7 p8 (.lst (vb ++ [.ref p6])) = H8 at s8 e8
          have s58 := (s6.trans s7).trans s8
          have Y8 := X2.same s58
          repeat walk_at "kc"
          refine r_sf T Y8.obj T.nT ?_
          rw [ptT]
          have ls : LAt TiAt H8 p8 (h.book.ties ++ [(r, x, y)]) := ⟨_, e8, (lb.mono fun _ _ z => z.mono s58.tups).app (.one ⟨p6, rfl, s8 _ _ (s7 _ _ e6)⟩)⟩
          have b9 : But a H8 (upd H8 a (.ins Cl dx (hF pA h.book.things pS p8 pAt pK))) := But.upd
          have hh9 : HouseAt Cl (upd H8 a (.ins Cl dx (hF pA h.book.things pS p8 pAt pK))) a { h with book := { h.book with ties := h.book.ties ++ [(r, x, y)] } } :=
            ⟨dx, pA, pS, p8, pAt, pK, upd_same, Y8.ax.axb b9 Y8.obj, Y8.sa.sab b9 Y8.obj, ls.tib b9 Y8.obj, Y8.at1.cob b9 Y8.obj, Y8.ki.kib b9 Y8.obj⟩
          have b09 := (But.of (a := a) (s12.trans s58)).trans b9
          have e9 := b9.at Y8.obj e8 (by intro z; cases z)
          have o9 : upd H8 a (.ins Cl dx (hF pA h.book.things pS p8 pAt pK)) a = some (.ins Cl dx (hF pA h.book.things pS p8 pAt pK)) := upd_same
          generalize upd H8 a (.ins Cl dx (hF pA h.book.things pS p8 pAt pK)) = H9 at b9 hh9 b09 e9 o9
          repeat walk_at "kc"
          refine ⟨_, _, _, _, _, rfl, o9, T.cl, T.nT, lkT, ?_⟩
          repeat walk_at "kc"
          refine ⟨p8, _, rfl, .inl (.of e9), ?_⟩
          repeat walk_at "kc"
          have el : ((((vb ++ [V.ref p6]).length : Nat) : Int) - 1) = ((h.book.ties.length : Nat) : Int) := by rw [lbl]; simp
          rw [el]
          refine ⟨sz_ok, fun p10 n10 => ?_⟩
          exact q.put (KM.st_tie3 e0 hx hy e5) hh b09 hh9 n10
/-! ### under -/
abbrev s_under : Stmt := topS 70
abbrev N_under : List Str := ["house", "told", "one", "other"]
theorem sc_under : FnScope N_under ["house", "told"] (defScope s_under) := ⟨rfl, rfl, rfl, by decide +kernel, rfl, by decide +kernel, by decide +kernel⟩
theorem d_under (T : Txt K mg CR fI Cl aD aS aR) (D_concepts_in : DefOk P w K mg base (L2.CX P w) 36 "concepts_in" (spCI CR)) (D_look_room : DefOk P w K mg base (L2.CX P w) 35 "look_room" (spLR CR Cl)) (D_bring : DefOk P w K mg base CX0 36 "bring" (spBring Cl)) (D_falls_under : DefOk P w K mg base CX0 32 "falls_under" (spUnd Cl)) (G : Glob K mg "under" s_under) : DefOk P w K mg base (L2.CX P w) 37 "under" (spDeed CR Cl 8) := by
  refine mkDef (ps := ["house", "told"]) G (fun _ _ _ _ _ _ us hl => match us, hl with | [_, _], _ => rfl) fun f fd F => F.okX sc_under (fun vs H Q E h => ?_) fun cdv A outer s H vs Q E hr h => ⟨_, ((pss_cons (ps_asg (pe_cx D_concepts_in (takes_of rfl rfl rfl rfl) (hr.mono (by decide)) (by exact (pa_cons (pv 1) (pa_cons pe_int pa_nil)))) (pg_unl rfl (pgs_cons (pg_name (i := 2) sc_under.nd rfl (Or.inl rfl)) (pgs_cons (pg_name (i := 3) sc_under.nd rfl (Or.inl rfl)) pgs_nil))))
    (pss_cons (ps_expr (pe_cx D_look_room (takes_of rfl rfl rfl rfl) (hr.mono (by decide)) (by exact (pa_cons (pv 0) (pa_cons (pe_lst (pa_cons (pv 2) (pa_cons (pv 3) pa_nil))) pa_nil)))))
    (pss_cons (ps_expr (pe_cl D_bring (hr.mono (by decide)) (by exact (pa_cons (pv 0) (pa_cons (pe_lst (pa_cons (pv 2) (pa_cons (pv 3) pa_nil))) pa_nil)))))
    (pss_one (ps_ret (pe_lst (pa_cons (pe_callTy call_int1 (by rfl) T.b_int boot_int_ (pa_cons (pe_cl D_falls_under (hr.mono (by decide)) (by exact (pa_cons (pv 0) (pa_cons (pv 2) (pa_cons (pv 3) pa_nil))))) pa_nil)) pa_nil)))))))), ?_⟩
  · obtain ⟨a, pt, h, ns, c, rfl, _⟩ := h; rfl
  · obtain ⟨a, pt, h, ns, c, rfl, hh, I, ht, hc, q⟩ := h
    obtain ⟨hl, rfl⟩ := dec8 hc
    repeat walk_at "kc"
    refine ⟨pt, ns, 2, rfl, ht, hl, by omega, ?_⟩
    rw [CI_two]
    cases e : Oc.two ns with
    | none => exact q.no (KM.st_under0 e) hh
    | some x =>
      have zs := two_small e hl
      obtain ⟨z1, z2⟩ := small2 zs
      intro H1 t s1 nt ht1
      obtain ⟨ws, hws, aw⟩ := ht1
      match ws, aw with
      | [c1, c2], ⟨h1, h2, _⟩ =>
        refine r_gUnl hws rfl ?_
        repeat walk_at "kc"
        have hh1 := hh.same s1
        refine ⟨sz_ok, fun t2 nt2 => ?_⟩
        have s2 := Same.upd (o := .lst [c1, c2]) nt2
        have et2 : upd H1 t2 (.lst [c1, c2]) t2 = some (.lst [c1, c2]) := upd_same
        generalize upd H1 t2 (.lst [c1, c2]) = H2 at s2 et2
        repeat walk_at "kc"
        refine ⟨a, t2, h, [x.1, x.2], rfl, hh1.same s2, I, ⟨_, et2, h1.mono s2.tups, h2.mono s2.tups, trivial⟩, zs, by simp, fun h6 => ?_, fun h6 H3 s3 => ?_⟩
        · have r := q.no (KM.st_under1 e h6) hh
          exact fun d H' s k => r d H' ((s1.trans s2).trans s) k
        · repeat walk_at "kc"
          refine ⟨sz_ok, fun t4 nt4 => ?_⟩
          have s4 := Same.upd (o := .lst [c1, c2]) nt4
          have et4 : upd H3 t4 (.lst [c1, c2]) t4 = some (.lst [c1, c2]) := upd_same
          generalize upd H3 t4 (.lst [c1, c2]) = H4 at s4 et4
          have s14 := (s2.trans s3).trans s4
          have hh4 := hh1.same s14
          repeat walk_at "kc"
          refine ⟨a, t4, h, [x.1, x.2], rfl, hh4, ⟨_, et4, h1.mono s14.tups, h2.mono s14.tups, trivial⟩, I, zs, by simp, h6, fun H5 b5 hh5 => ?_⟩
          obtain ⟨dx0, _, _, _, _, _, X0⟩ := id hh4
          have tu := b5.tups X0.obj
          have hx1 : KM.Sub x.1 (h.with_ [x.1, x.2]).atoms := by rw [with_at I]; exact KM.with_sub (by simp)
          have hx2 : KM.Sub x.2 (h.with_ [x.1, x.2]).atoms := by rw [with_at I]; exact KM.with_sub (by simp)
          repeat walk_at "kc"
          refine ⟨a, c1, c2, h.with_ [x.1, x.2], x.1, x.2, rfl, hh5, with_inv I h6 zs, (h1.mono s14.tups).mono tu, (h2.mono s14.tups).mono tu, hx1, hx2, z1, z2, fun H6 s6 => ?_⟩
          repeat walk_at "kc"
          refine .inr ⟨_, rfl, ?_⟩
          repeat walk_at "kc"
          refine ⟨sz_ok, fun p np => ?_⟩
          have ef : (if (h.with_ [x.1, x.2]).under x.1 x.2 = true then (1 : Int) else 0) = ((Oc11.flag ((h.with_ [x.1, x.2]).under x.1 x.2) : Nat) : Int) := by unfold Oc11.flag; split <;> rfl
          have z := q.put (v := ((Oc11.flag ((h.with_ [x.1, x.2]).under x.1 x.2) : Nat) : Int)) (l := []) (KM.st_under2 e h6) hh ((But.of (a := a) (s1.trans s14)).trans (b5.trans (But.of s6))) (hh5.same s6) np
          rw [← ef] at z
          exact z
/-! ### is_surely -/
abbrev s_is_surely : Stmt := topS 71
abbrev N_is_surely : List Str := ["house", "told", "concepts"]
theorem sc_is_surely : FnScope N_is_surely ["house", "told"] (defScope s_is_surely) := ⟨rfl, rfl, rfl, by decide +kernel, rfl, by decide +kernel, by decide +kernel⟩
theorem d_is_surely (T : Txt K mg CR fI Cl aD aS aR) (D_concepts_in : DefOk P w K mg base (L2.CX P w) 36 "concepts_in" (spCI CR)) (D_look_thing : DefOk P w K mg base (L2.CX P w) 3 "look_thing" (spLT CR Cl)) (D_look_room : DefOk P w K mg base (L2.CX P w) 35 "look_room" (spLR CR Cl)) (D_is_whole : DefOk P w K mg base CX0 35 "is_whole" (spWhole Cl)) (D_bring : DefOk P w K mg base CX0 36 "bring" (spBring Cl)) (D_surely : DefOk P w K mg base CX0 35 "surely" (spSure Cl)) (G : Glob K mg "is_surely" s_is_surely) : DefOk P w K mg base (L2.CX P w) 37 "is_surely" (spDeed CR Cl 9) := by
  refine mkDef (ps := ["house", "told"]) G (fun _ _ _ _ _ _ us hl => match us, hl with | [_, _], _ => rfl) fun f fd F => F.okX sc_is_surely (fun vs H Q E h => ?_) fun cdv A outer s H vs Q E hr h => ⟨_, ((pss_cons (ps_set (i := 2) sc_is_surely.nd rfl (Or.inl rfl) (pe_cx D_concepts_in (takes_of rfl rfl rfl rfl) (hr.mono (by decide)) (by exact (pa_cons (pe_slice sl_list (pv 1) (po_some pe_int) po_none) (pa_cons pe_int pa_nil)))))
    (pss_cons (ps_expr (pe_cx D_look_thing (takes_of rfl rfl rfl rfl) (hr.mono (by decide)) (by exact (pa_cons (pv 0) (pa_cons (pe_ix ix_list (pv 1) pe_int (fun _ _ => rfl)) pa_nil)))))
    (pss_cons (ps_expr (pe_cx D_look_room (takes_of rfl rfl rfl rfl) (hr.mono (by decide)) (by exact (pa_cons (pv 0) (pa_cons (pv 2) pa_nil)))))
    (pss_cons (ps_if (pt_not (pt_val (pe_cl D_is_whole (hr.mono (by decide)) (by exact (pa_cons (pv 0) pa_nil)))))
      (pss_one (ps_raiseLow rfl T.low hr (takes_of rfl rfl rfl rfl) (by exact (pa_cons (pe_gint (by rfl) T.c_NO_MODEL) pa_nil))))
      pss_nil)
    (pss_cons (ps_expr (pe_cl D_bring (hr.mono (by decide)) (by exact (pa_cons (pv 0) (pa_cons (pv 2) pa_nil)))))
    (pss_one (ps_ret (pe_lst (pa_cons (pe_cl D_surely (hr.mono (by decide)) (by exact (pa_cons (pv 0) (pa_cons (pe_ix ix_list (pv 1) pe_int (fun _ _ => rfl)) (pa_cons (pe_ix ix_list (pv 2) pe_int (fun _ _ => rfl)) pa_nil))))) pa_nil)))))))))), ?_⟩
  · obtain ⟨a, pt, h, ns, c, rfl, _⟩ := h; rfl
  · obtain ⟨a, pt, h, ns, c, rfl, hh, I, ht, hc, q⟩ := h
    obtain ⟨i, l, rfl, hl, rfl⟩ := dec9 hc
    repeat walk_at "kc"
    refine r_sl ?_
    repeat walk_at "kc"
    refine r_part ?_
    repeat walk_at "kc"
    refine ⟨_, rfl, ?_⟩
    refine r_noPart ?_
    refine ⟨pt, _, rfl, .of ht, fun p1 n1 => ?_⟩
    rw [cut_one]
    have s1 := Same.upd (o := .lst (nV l)) n1
    have e1 : upd H p1 (.lst (nV l)) p1 = some (.lst (nV l)) := upd_same
    generalize upd H p1 (.lst (nV l)) = H1 at s1 e1
    repeat walk_at "kc"
    refine ⟨p1, l, 1, rfl, e1, hl, by omega, ?_⟩
    rw [CI_one]
    cases e : Oc.concept l with
    | none =>
      have r := q.no (KM.st_is0 e) hh
      exact fun d H' s k => r d H' (s1.trans s) k
    | some x =>
      have zs := one_small e hl
      intro H2 t s2 nt ht2
      obtain ⟨ws, hws, aw⟩ := id ht2
      match ws, aw with
      | [c1], ⟨h1, _⟩ =>
        have s12 := s1.trans s2
        have hh2 := hh.same s12
        repeat walk_at "kc"
        refine r_ixL (s12 _ _ ht) (j := 0) rfl rfl ?_
        repeat walk_at "kc"
        refine ⟨a, h, i, rfl, hh2, fun hi => ?_, fun hi H3 s3 => ?_⟩
        · have r := q.no (KM.st_is1 e hi) hh
          exact fun d H' s k => r d H' (s12.trans s) k
        · have s13 := s12.trans s3
          have hh3 := hh2.same s3
          repeat walk_at "kc"
          refine ⟨a, t, h, [x], rfl, hh3, I, ht2.cos s3, zs, by simp, fun h6 => ?_, fun h6 H4 s4 => ?_⟩
          · have r := q.no (KM.st_is2 e hi h6) hh
            exact fun d H' s k => r d H' (s13.trans s) k
          · have s14 := s13.trans s4
            have hh4 := hh3.same s4
            have hw := KM.whole_with I [x] h6 zs
            repeat walk_at "kc"
            refine ⟨a, h, rfl, hh4, I, fun H5 s5 => ⟨_, rfl, ?_⟩⟩
            have s15 := s14.trans s5
            have hh5 := hh4.same s5
            refine if_by (c' := !h.whole []) rfl (fun e5 => ?_) (fun e5 => ?_)
            · repeat walk_at "kc"
              exact RF.go (q.no (KM.st_is3 e hi h6 (by rw [hw]; simpa using e5)) hh) s15
            · repeat walk_at "kc"
              refine ⟨a, t, h, [x], rfl, hh5, ht2.cos ((s3.trans s4).trans s5), I, zs, by simp, h6, fun H6 b6 hh6 => ?_⟩
              have wt : (h.with_ [x]).whole [] = true := by rw [hw]; simpa using e5
              have b06 := (But.of (a := a) s15).trans b6
              obtain ⟨dx0, _, _, _, _, _, X0⟩ := id hh
              obtain ⟨dx5, _, _, _, _, _, X5⟩ := id hh5
              have ht6 := b06.at X0.obj ht (by intro z; cases z)
              have hws6 := b6.at X5.obj (s5 _ _ (s4 _ _ (s3 _ _ hws))) (by intro z; cases z)
              have h16 : ConAt H6 x c1 := (h1.mono ((s3.trans s4).trans s5).tups).mono (b6.tups X5.obj)
              have hx1 : KM.Sub x (h.with_ [x]).atoms := by rw [with_at I]; exact KM.with_sub (by simp)
              repeat walk_at "kc"
              refine r_ixL ht6 (j := 0) rfl rfl ?_
              repeat walk_at "kc"
              refine r_ixL hws6 (j := 0) rfl rfl ?_
              repeat walk_at "kc"
              refine ⟨a, i, c1, h.with_ [x], x, rfl, hh6, with_inv I h6 zs, h16, hx1, zs x (by simp), (by rw [with_book I]; exact hi), wt, fun H7 s7 => ?_⟩
              repeat walk_at "kc"
              refine ⟨sz_ok, fun p np => ?_⟩
              exact q.put (KM.st_is4 e hi h6 wt) hh (b06.trans (But.of s7)) (hh6.same s7) np
/-! ### the invariant -/
theorem inv_step {h : House} (I : KM.HInv h) {w : Nat} {ns : List Nat} {c : Oc11.Call} (hc : decd w ns = some c) : KM.HInv (Oc11.step h c).1 := by
  have d : KM.callOk c := by
    unfold decd at hc
    split at hc
    all_goals first
      | (cases hc; trivial)
      | (split at hc
         · cases hc; assumption
         · cases hc)
      | cases hc
  cases c with
  | begins => exact KM.inv_init
  | line l =>
    cases e : Oc.two l with
    | none => rw [KM.st_line0 e]; exact I
    | some x =>
      by_cases h1 : h.book.axioms.length = 5 ∨ 6 < (KM.withAtoms h.atoms [x.1, x.2]).length
      · rw [KM.st_line1 e h1]; exact I
      · have h2 : ¬ h.book.axioms.length = 5 := fun z => h1 (.inl z)
        have h3 : ¬ 6 < (KM.withAtoms h.atoms [x.1, x.2]).length := fun z => h1 (.inr z)
        rw [KM.st_line2 I e h2 (by omega)]
        obtain ⟨z1, z2⟩ := small2 (two_small e d)
        exact KM.inv_add I (by omega) z1 z2 (by have := I.nax; omega)
  | drop i =>
    by_cases h1 : h.book.axioms.length ≤ i
    · rw [KM.st_drop1 h1]; exact I
    · rw [KM.st_drop2 (by omega)]; exact KM.inv_drop I
  | thing =>
    by_cases h1 : h.book.things = 2
    · rw [KM.st_thing1 h1]; exact I
    · rw [KM.st_thing2 h1]; exact KM.inv_thing I (by have := I.nth; omega)
  | says a l =>
    cases e : Oc.concept l with
    | none => rw [KM.st_says0 e]; exact I
    | some x =>
      by_cases ha : h.book.things ≤ a
      · rw [KM.st_says1 e ha]; exact I
      · by_cases h1 : h.book.says.length = 5 ∨ 6 < (KM.withAtoms h.atoms [x]).length
        · rw [KM.st_says2 e (by omega) h1]; exact I
        · have h2 : ¬ h.book.says.length = 5 := fun z => h1 (.inl z)
          have h3 : ¬ 6 < (KM.withAtoms h.atoms [x]).length := fun z => h1 (.inr z)
          rw [KM.st_says3 I e (by omega) h2 (by omega)]
          have z := one_small e d
          exact KM.inv_say (KM.inv_with I (by omega) z) (KM.with_sub (by simp)) (by show a < h.book.things; omega) (by show h.book.says.length < 5; have := I.nsa; omega) (z x (by simp))
  | unsay i =>
    by_cases h1 : h.book.says.length ≤ i
    · rw [KM.st_unsay1 h1]; exact I
    · rw [KM.st_unsay2 (by omega)]; exact KM.inv_unsay I
  | tie r a b =>
    by_cases h0 : 2 ≤ r
    · rw [KM.st_tie0 h0]; exact I
    · by_cases h1 : h.book.things ≤ a ∨ h.book.things ≤ b
      · rw [KM.st_tie1 (by omega) h1]; exact I
      · by_cases h2 : h.book.ties.length = 5
        · rw [KM.st_tie2 (by omega) (by omega) (by omega) h2]; exact I
        · rw [KM.st_tie3 (by omega) (by omega) (by omega) h2]
          exact KM.inv_tie I (by omega) (by omega) (by omega) (by have := I.nti; omega)
  | untie i =>
    by_cases h1 : h.book.ties.length ≤ i
    · rw [KM.st_untie1 h1]; exact I
    · rw [KM.st_untie2 (by omega)]; exact KM.inv_untie I
  | under l =>
    cases e : Oc.two l with
    | none => rw [KM.st_under0 e]; exact I
    | some x =>
      by_cases h1 : 6 < (KM.withAtoms h.atoms [x.1, x.2]).length
      · rw [KM.st_under1 e h1]; exact I
      · rw [KM.st_under2 e (by omega)]
        exact with_inv I (by omega) (two_small e d)
  | is a l =>
    cases e : Oc.concept l with
    | none => rw [KM.st_is0 e]; exact I
    | some x =>
      by_cases ha : h.book.things ≤ a
      · rw [KM.st_is1 e ha]; exact I
      · by_cases h1 : 6 < (KM.withAtoms h.atoms [x]).length
        · rw [KM.st_is2 e (by omega) h1]; exact I
        · cases hw : (h.with_ [x]).whole [] with
          | false => rw [KM.st_is3 e (by omega) (by omega) hw]; exact I
          | true =>
            rw [KM.st_is4 e (by omega) (by omega) hw]
            exact with_inv I (by omega) (one_small e d)
  | whole => exact I
  | pairs => exact I
  | state => exact I
  | tidy => exact KM.inv_tidy I
end
end KC

/-! ## KcFlat -/
/-! ### calls as one list -/
namespace KC
open Oc11 (House)
def SZ : List Nat := [0, 0, 1, 0, 1, 1, 3, 1, 0, 1, 0, 0, 0, 0]
def RWD : List Nat := [1, 4, 8, 9]
theorem peel {c : Prop} [Decidable c] {α : Type} {x z : α} {y : Option α} (h : (if c then some x else y) = some z) : (c ∧ x = z) ∨ y = some z := by
  by_cases e : c
  · rw [if_pos e] at h; exact .inl ⟨e, Option.some.inj h⟩
  · rw [if_neg e] at h; exact .inr h
theorem shape_is {p : Int} {n k : Nat} (h : PyOc11.shape p = some (n, k)) : ∃ w : Nat, p = (w : Nat) ∧ w < 14 ∧ SZ[w]? = some n ∧ ((w ∈ RWD ∧ k = 1) ∨ (w ∉ RWD ∧ k = 0)) := by
  unfold PyOc11.shape at h
  rcases peel h with ⟨e, z⟩ | h
  · cases z; exact ⟨0, e, by decide, rfl, by decide⟩
  rcases peel h with ⟨e, z⟩ | h
  · cases z; exact ⟨1, e, by decide, rfl, by decide⟩
  rcases peel h with ⟨e, z⟩ | h
  · cases z; exact ⟨2, e, by decide, rfl, by decide⟩
  rcases peel h with ⟨e, z⟩ | h
  · cases z; exact ⟨3, e, by decide, rfl, by decide⟩
  rcases peel h with ⟨e, z⟩ | h
  · cases z; exact ⟨4, e, by decide, rfl, by decide⟩
  rcases peel h with ⟨e, z⟩ | h
  · cases z; exact ⟨5, e, by decide, rfl, by decide⟩
  rcases peel h with ⟨e, z⟩ | h
  · cases z; exact ⟨6, e, by decide, rfl, by decide⟩
  rcases peel h with ⟨e, z⟩ | h
  · cases z; exact ⟨7, e, by decide, rfl, by decide⟩
  rcases peel h with ⟨e, z⟩ | h
  · cases z; exact ⟨8, e, by decide, rfl, by decide⟩
  rcases peel h with ⟨e, z⟩ | h
  · cases z; exact ⟨9, e, by decide, rfl, by decide⟩
  rcases peel h with ⟨e, z⟩ | h
  · cases z; exact ⟨10, e, by decide, rfl, by decide⟩
  rcases peel h with ⟨e, z⟩ | h
  · cases z; exact ⟨11, e, by decide, rfl, by decide⟩
  rcases peel h with ⟨e, z⟩ | h
  · cases z; exact ⟨12, e, by decide, rfl, by decide⟩
  rcases peel h with ⟨e, z⟩ | h
  · cases z; exact ⟨13, e, by decide, rfl, by decide⟩
  cases h
/-- one call, read -/
theorem call_is {l : List Int} {c : List (List Int)} {t : List Int} (h : PyFlat.call PyOc11.shape l = some (c, t)) : ∃ (w n : Nat) (r : List Int), l = (w : Int) :: r ∧ w < 14 ∧ SZ[w]? = some n ∧ n ≤ r.length ∧
    ((w ∉ RWD ∧ c = [(w : Int) :: r.take n] ∧ t = r.drop n) ∨ (w ∈ RWD ∧ ∃ (m : Nat) (r' : List Int), r.drop n = (m : Int) :: r' ∧ m ≤ r'.length ∧ c = [(w : Int) :: r.take n, r'.take m] ∧ t = r'.drop m)) := by
  cases l with
  | nil => simp [PyFlat.call] at h
  | cons p r =>
    simp only [PyFlat.call] at h
    cases e : PyOc11.shape p with
    | none => rw [e] at h; cases h
    | some x =>
      obtain ⟨n, k⟩ := x
      rw [e] at h
      simp only at h
      obtain ⟨w, rfl, hw, hn, hk⟩ := shape_is e
      split at h
      · cases h
      · refine ⟨w, n, r, rfl, hw, hn, by omega, ?_⟩
        rcases hk with ⟨hm, rfl⟩ | ⟨hm, rfl⟩
        · refine .inr ⟨hm, ?_⟩
          simp only [PyFlat.rows, PyFlat.row] at h
          cases e2 : r.drop n with
          | nil => rw [e2] at h; simp at h
          | cons m r' =>
            rw [e2] at h
            simp only at h
            split at h
            · cases h
            · rename_i xs t' e3
              cases h
              split at e3
              · cases e3
              · rename_i x s e4
                split at e4
                · rename_i hb
                  cases e4
                  cases e3
                  exact ⟨m.toNat, r', by rw [Int.toNat_of_nonneg hb.1], hb.2, rfl, rfl⟩
                · cases e4
        · refine .inl ⟨hm, ?_⟩
          simp only [PyFlat.rows] at h
          cases h
          exact ⟨rfl, rfl⟩
theorem calls_nil {f : Nat} {cs : List (List (List Int))} (h : PyFlat.calls PyOc11.shape f [] = some cs) : cs = [] := by
  cases f <;> (simp only [PyFlat.calls] at h; exact (Option.some.inj h).symm)
theorem calls_cons {f : Nat} {p : Int} {r : List Int} {cs : List (List (List Int))} (h : PyFlat.calls PyOc11.shape f (p :: r) = some cs) : ∃ f' c t cs', PyFlat.call PyOc11.shape (p :: r) = some (c, t) ∧ PyFlat.calls PyOc11.shape f' t = some cs' ∧ cs = c :: cs' := by
  cases f with
  | zero => simp only [PyFlat.calls] at h; cases h
  | succ f =>
    simp only [PyFlat.calls] at h
    cases e : PyFlat.call PyOc11.shape (p :: r) with
    | none => rw [e] at h; cases h
    | some x =>
      obtain ⟨c, t⟩ := x
      rw [e] at h
      simp only at h
      cases e2 : PyFlat.calls PyOc11.shape f t with
      | none => rw [e2] at h; cases h
      | some cs' =>
        rw [e2] at h
        exact ⟨f, c, t, cs', rfl, e2, (Option.some.inj h).symm⟩
def wordOf : List (List Int) → Int
  | (p :: _) :: _ => p
  | _ => 0
def toldOf : List (List Int) → List Int
  | [_ :: x] => x
  | [_ :: x, y] => x ++ y
  | _ => []
theorem whole_id (c : List (List Int)) : PyOc11.whole c = c := by
  unfold PyOc11.whole
  split <;> rfl
theorem map_whole (cs : List (List (List Int))) : cs.map PyOc11.whole = cs := by
  induction cs with
  | nil => rfl
  | cons c r ih => rw [List.map_cons, ih, whole_id]
theorem whole32_is {z : Int} (h : Oc11Neutral.whole32 z = true) : z = ((z.toNat : Nat) : Int) := by
  unfold Oc11Neutral.whole32 at h
  simp at h
  omega
theorem row32_is {l : List Int} {m : Nat} (h : Oc11Neutral.row32 l m = true) : l.length ≤ m ∧ l = (Oc11Neutral.nats l).map fun n : Nat => (n : Int) := by
  unfold Oc11Neutral.row32 at h
  rw [Bool.and_eq_true] at h
  refine ⟨of_decide_eq_true h.1, ?_⟩
  have h2 := List.all_eq_true.mp h.2
  unfold Oc11Neutral.nats
  rw [List.map_map]
  clear h
  induction l with
  | nil => rfl
  | cons z r ih =>
    rw [List.map_cons, ← ih fun x hx => h2 x (by simp [hx])]
    show z :: r = ((z.toNat : Nat) : Int) :: r
    rw [← whole32_is (h2 z (by simp))]
theorem nats_len (l : List Int) : (Oc11Neutral.nats l).length = l.length := by simp [Oc11Neutral.nats]
theorem dec_of {c : List (List Int)} (h : Oc11Neutral.asked1 c = true) : ∃ (w : Nat) (ns : List Nat) (x : Oc11.Call), wordOf c = (w : Nat) ∧ toldOf c = ns.map (fun n : Nat => (n : Int)) ∧ decd w ns = some x ∧ Oc11Neutral.callOf c = some x := by
  unfold Oc11Neutral.asked1 at h
  split at h
  · exact ⟨0, [], _, rfl, rfl, rfl, rfl⟩
  · rename_i l
    obtain ⟨h1, h2⟩ := row32_is h
    exact ⟨1, Oc11Neutral.nats l, .line (Oc11Neutral.nats l), rfl, h2, if_pos (by rw [nats_len]; exact h1), rfl⟩
  · rename_i i
    exact ⟨2, [i.toNat], _, rfl, by rw [List.map_cons, ← whole32_is h]; rfl, rfl, rfl⟩
  · exact ⟨3, [], _, rfl, rfl, rfl, rfl⟩
  · rename_i a l
    rw [Bool.and_eq_true] at h
    obtain ⟨h1, h2⟩ := row32_is h.2
    exact ⟨4, a.toNat :: Oc11Neutral.nats l, .says a.toNat (Oc11Neutral.nats l), rfl, by rw [List.map_cons, ← whole32_is h.1, ← h2]; rfl, if_pos (by rw [nats_len]; exact h1), rfl⟩
  · rename_i i
    exact ⟨5, [i.toNat], _, rfl, by rw [List.map_cons, ← whole32_is h]; rfl, rfl, rfl⟩
  · rename_i r a b
    rw [Bool.and_eq_true, Bool.and_eq_true] at h
    exact ⟨6, [r.toNat, a.toNat, b.toNat], _, rfl, by rw [List.map_cons, List.map_cons, List.map_cons, ← whole32_is h.1, ← whole32_is h.2.1, ← whole32_is h.2.2]; rfl, rfl, rfl⟩
  · rename_i i
    exact ⟨7, [i.toNat], _, rfl, by rw [List.map_cons, ← whole32_is h]; rfl, rfl, rfl⟩
  · rename_i l
    obtain ⟨h1, h2⟩ := row32_is h
    exact ⟨8, Oc11Neutral.nats l, .under (Oc11Neutral.nats l), rfl, h2, if_pos (by rw [nats_len]; exact h1), rfl⟩
  · rename_i a l
    rw [Bool.and_eq_true] at h
    obtain ⟨h1, h2⟩ := row32_is h.2
    exact ⟨9, a.toNat :: Oc11Neutral.nats l, .is a.toNat (Oc11Neutral.nats l), rfl, by rw [List.map_cons, ← whole32_is h.1, ← h2]; rfl, if_pos (by rw [nats_len]; exact h1), rfl⟩
  · exact ⟨10, [], _, rfl, rfl, rfl, rfl⟩
  · exact ⟨11, [], _, rfl, rfl, rfl, rfl⟩
  · exact ⟨12, [], _, rfl, rfl, rfl, rfl⟩
  · exact ⟨13, [], _, rfl, rfl, rfl, rfl⟩
  · cases h
theorem step_of {c : List (List Int)} {x : Oc11.Call} (h : Oc11Neutral.callOf c = some x) (s : House) : Oc11Neutral.step s c = ((Oc11.step s x).1, Oc11Neutral.out (Oc11.step s x).2) := by
  unfold Oc11Neutral.step
  rw [h]
theorem told_more (s : House) (c : List (List Int)) (r : List (List (List Int))) : PyFlat.told (PyFlat.played Oc11Neutral.step s (c :: r)) = ((Oc11Neutral.step s c).2.length : Int) :: (Oc11Neutral.step s c).2 ++ PyFlat.told (PyFlat.played Oc11Neutral.step (Oc11Neutral.step s c).1 r) := by
  simp only [PyFlat.played, PyFlat.told, List.flatMap_cons]
/-- what is asked, in parts -/
theorem asked_is {l : List Int} (h : PyOc11.answers_asked l = true) : ∃ raw, PyFlat.calls PyOc11.shape l.length l = some raw ∧ raw.length ≤ 60 ∧ (∀ c ∈ raw, Oc11Neutral.asked1 c = true) ∧ PyOc11.answers l = PyFlat.told (PyFlat.played Oc11Neutral.step Oc11Neutral.start raw) ∧ (PyOc11.answers l).length ≤ 10000000 := by
  unfold PyOc11.answers_asked at h
  cases e : PyFlat.calls PyOc11.shape l.length l with
  | none => rw [e] at h; cases h
  | some raw =>
    rw [e] at h
    simp only [Bool.and_eq_true] at h
    obtain ⟨⟨⟨⟨_, h2⟩, _⟩, h4⟩, h5⟩ := h
    rw [map_whole] at h4
    unfold Oc11Neutral.asked at h4
    rw [Bool.and_eq_true] at h4
    refine ⟨raw, rfl, of_decide_eq_true h2, List.all_eq_true.mp h4.1, ?_, of_decide_eq_true h5⟩
    unfold PyOc11.answers PyOc11.calls
    rw [e]
    simp only [map_whole]
end KC

/-! ## KcAns -/
namespace KC
open PySem PySem.Spec PyProof.Rows L2
open Oc (C Axiom)
open Oc11 (House)
local macro_rules | `(tactic| walk_at "kc") => `(tactic| with_reducible (first
  | refine r_seq ?_ | refine r_ifS ?_ | refine r_asg ?_ | refine r_ret ?_ | refine r_drop ?_ | refine r_next ?_
  | refine r_op ?_ | refine r_c ?_ | refine r_cons ?_ | refine r_nil ?_ | refine r_cl ?_ | refine r_cx ?_ | refine r_cb ?_
  | refine r_test ?_ | refine r_B ?_ | refine r_and ?_ | refine r_or ?_ | refine r_not ?_ | refine r_bl ?_
  | refine r_notV ?_ | refine r_andV ?_ | refine r_orV ?_ | refine r_tup ?_ | refine r_lst ?_ | refine r_ifE ?_
  | refine r_for ?_ | refine r_lc ?_ | refine r_yes ?_ | refine r_sFld ?_ | refine r_fld ?_ | refine r_par ?_ | refine r_rng1 ?_ | refine r_enum ?_ | refine r_zip3 ?_ | refine r_raise ?_ | refine r_list ?_ | refine r_bm ?_ | refine r_I0 ?_ | refine r_eqI ?_ | refine r_eqB ?_ | refine r_neI ?_ | refine r_gName ?_ | refine r_gCons ?_ | refine r_gNil ?_
  | (refine r_var (by with_unfolding_all rfl) ?_)))
/-- the def at f keeps the promise sp -/
structure HeldX (P : Program) (w : World) (K : PySem.W.Frag) (mg : Str → Option Value) (base : Heap) (k : Nat) (f : Addr) (sp : Sp) : Prop where
  ex : ∃ (fd : FuncData) (ps : List Str), FnOk P w K mg base (L2.CX P w) k f fd ps sp ∧ PySem.W.keepIn K (.ref f) = true ∧ Binds K fd ps []
/-- the def that the i-th slot holds is called; what is raised is wished by W -/
def tCallAx (P : Program) (w : World) (K : PySem.W.Frag) (mg : Str → Option Value) (base : Heap) (k i : Nat) (W : WX) (t : TA) : TE := fun σ H Q => ∃ f sp, σ[i]? = some (some (.ref f)) ∧ HeldX P w K mg base k f sp ∧ t σ H fun vs H1 => sp vs H1 Q (fun cls d H2 => W cls d σ H2)
theorem pe_callAx {X : Cx} {k i : Nat} {x : Str} {p pos : Pos} {e : Expr} {es : List Expr} {t : TA} {W : WX} (tk : Takes X W) (hr : Room k X.A) (hN : X.N[i]? = some x) (hv : Vis X.env.scope x) (ha : PA X (e :: es) t)
    (hdb : (x == ("__debug__" : Str)) = false := by decide) (hcd : (x == ("__classdict__" : Str)) = false := by decide)
    (he : starEach (e :: es) X.env = (false, eval e X.env) :: starEach es X.env := by rfl) (hpl : (backTo pos (starEach es X.env)).any (·.1) = false := by rfl) : PE X (.Call (.Name x p) (e :: es) [] pos) (tCallAx X.prog X.w X.K X.mg X.base k i W t) := by
  refine ⟨fun pins s σ H Q I h => ?_⟩
  obtain ⟨f, sp, hs, hH, ht⟩ := h
  obtain ⟨fd, ps, F, hk, hb⟩ := hH.ex
  refine wpAny_Call_Name_kw (thn ((pe_var (pos := p) hN hv hdb hcd).run pins s σ H (fun v H1 => v = .ref f ∧ H1 = H) I ⟨.ref f, hs, rfl, rfl⟩) fun u s1 ⟨v, H1, I1, r1, q1⟩ => ?_)
  obtain ⟨rfl, rfl⟩ := q1
  cases r1
  refine PySem.W.callWith_K (h₀ := X.base) I.ok.mod.kin hk (thn (ha.run pos pins s1 σ _ _ I1 ht) fun us s2 ⟨vs, H2, I2, r, q⟩ => ⟨I2.kIn, ?_⟩) he hpl
  exact run_fnS (E := WE W) F hr hb (passAt tk σ) I2 r q
/-- the defs of the deeds, at their places -/
structure DeedsAt (K : PySem.W.Frag) (mg : Str → Option Value) (aD : Addr) : Prop where
  ex : ∃ f0 f1 f2 f3 f4 f5 f6 f7 f8 f9 f10 f11 f12 f13 : Addr,
    (∀ H : Hp, SqT K H aD [.ref f0, .ref f1, .ref f2, .ref f3, .ref f4, .ref f5, .ref f6, .ref f7, .ref f8, .ref f9, .ref f10, .ref f11, .ref f12, .ref f13]) ∧
    mg "begins" = some (.ref f0) ∧ mg "line" = some (.ref f1) ∧ mg "drop" = some (.ref f2) ∧ mg "thing" = some (.ref f3) ∧ mg "says" = some (.ref f4) ∧ mg "unsay" = some (.ref f5) ∧ mg "tie" = some (.ref f6) ∧ mg "untie" = some (.ref f7) ∧
    mg "under" = some (.ref f8) ∧ mg "is_surely" = some (.ref f9) ∧ mg "whole" = some (.ref f10) ∧ mg "pairs" = some (.ref f11) ∧ mg "state" = some (.ref f12) ∧ mg "tidy" = some (.ref f13)
section
variable {P : Program} {w : World} {K : PySem.W.Frag} {mg : Str → Option Value} {base : Heap} {CR fI Cl aD aS aR : Addr}
theorem held {k : Nat} {x : Str} {sp : Sp} {f : Addr} (D : DefOk P w K mg base (L2.CX P w) k x sp) (h : mg x = some (.ref f)) : HeldX P w K mg base k f sp := by
  obtain ⟨g, fd, ps, hm, hk, hb, F⟩ := D.ex
  rw [hm] at h
  cases h
  exact ⟨fd, ps, F, hk, hb⟩
/-- all deeds keep their promises -/
structure DeedsOk (P : Program) (w : World) (K : PySem.W.Frag) (mg : Str → Option Value) (base : Heap) (CR Cl aD : Addr) : Prop where
  ex : ∃ xs : List V, (∀ H : Hp, SqT K H aD xs) ∧ ∀ (n : Nat) (ns : List Nat) (c : Oc11.Call), decd n ns = some c → ∃ f, xs[n]? = some (.ref f) ∧ HeldX P w K mg base 37 f (spDeed CR Cl n)
theorem deeds_ok (S : DeedsAt K mg aD) (d0 : DefOk P w K mg base (L2.CX P w) 37 "begins" (spDeed CR Cl 0)) (d1 : DefOk P w K mg base (L2.CX P w) 37 "line" (spDeed CR Cl 1)) (d2 : DefOk P w K mg base (L2.CX P w) 37 "drop" (spDeed CR Cl 2))
    (d3 : DefOk P w K mg base (L2.CX P w) 37 "thing" (spDeed CR Cl 3)) (d4 : DefOk P w K mg base (L2.CX P w) 37 "says" (spDeed CR Cl 4)) (d5 : DefOk P w K mg base (L2.CX P w) 37 "unsay" (spDeed CR Cl 5)) (d6 : DefOk P w K mg base (L2.CX P w) 37 "tie" (spDeed CR Cl 6))
    (d7 : DefOk P w K mg base (L2.CX P w) 37 "untie" (spDeed CR Cl 7)) (d8 : DefOk P w K mg base (L2.CX P w) 37 "under" (spDeed CR Cl 8)) (d9 : DefOk P w K mg base (L2.CX P w) 37 "is_surely" (spDeed CR Cl 9)) (d10 : DefOk P w K mg base (L2.CX P w) 37 "whole" (spDeed CR Cl 10))
    (d11 : DefOk P w K mg base (L2.CX P w) 37 "pairs" (spDeed CR Cl 11)) (d12 : DefOk P w K mg base (L2.CX P w) 37 "state" (spDeed CR Cl 12)) (d13 : DefOk P w K mg base (L2.CX P w) 37 "tidy" (spDeed CR Cl 13)) : DeedsOk P w K mg base CR Cl aD := by
  obtain ⟨f0, f1, f2, f3, f4, f5, f6, f7, f8, f9, f10, f11, f12, f13, hs, m0, m1, m2, m3, m4, m5, m6, m7, m8, m9, m10, m11, m12, m13⟩ := S.ex
  refine ⟨_, hs, fun n ns c h => ?_⟩
  match n, h with
  | 0, _ => exact ⟨_, rfl, held d0 m0⟩
  | 1, _ => exact ⟨_, rfl, held d1 m1⟩
  | 2, _ => exact ⟨_, rfl, held d2 m2⟩
  | 3, _ => exact ⟨_, rfl, held d3 m3⟩
  | 4, _ => exact ⟨_, rfl, held d4 m4⟩
  | 5, _ => exact ⟨_, rfl, held d5 m5⟩
  | 6, _ => exact ⟨_, rfl, held d6 m6⟩
  | 7, _ => exact ⟨_, rfl, held d7 m7⟩
  | 8, _ => exact ⟨_, rfl, held d8 m8⟩
  | 9, _ => exact ⟨_, rfl, held d9 m9⟩
  | 10, _ => exact ⟨_, rfl, held d10 m10⟩
  | 11, _ => exact ⟨_, rfl, held d11 m11⟩
  | 12, _ => exact ⟨_, rfl, held d12 m12⟩
  | 13, _ => exact ⟨_, rfl, held d13 m13⟩
  | n + 14, h => simp [decd] at h
/-! ### answer -/
abbrev s_answer : Stmt := topS 81
abbrev N_answer : List Str := ["house", "word", "told", "deed", "e"]
theorem sc_answer : FnScope N_answer ["house", "word", "told"] (defScope s_answer) := ⟨rfl, rfl, rfl, by decide +kernel, rfl, by decide +kernel, by decide +kernel⟩
def spAnswer (Cl : Addr) : Sp := fun vs H Q _ => ∃ (a pt : Addr) (h : House) (n : Nat) (ns : List Nat) (c : Oc11.Call), vs = [.ref a, .int (n : Nat), .ref pt] ∧ HouseAt Cl H a h ∧ KM.HInv h ∧ H pt = some (.lst (nV ns)) ∧ decd n ns = some c ∧
  ∀ H' p, But a H H' → H p = none → HouseAt Cl H' a (Oc11.step h c).1 → H' p = some (.lst ((Oc11Neutral.out (Oc11.step h c).2).map V.int)) → Q (.ref p) H'
def t_suite (CR : Addr) : Addr → Value → Option Addr → TS := fun a cls d => tRet (tLst (tCons (tByLow CR a cls d (tVar 4)) tNil))
theorem d_answer (T : Txt K mg CR fI Cl aD aS aR) (DS : DeedsOk P w K mg base CR Cl aD) (G : Glob K mg "answer" s_answer) : DefOk P w K mg base CX0 38 "answer" (spAnswer Cl) := by
  refine mkDef (ps := ["house", "word", "told"]) G (fun _ _ _ _ _ _ us hl => match us, hl with | [_, _, _], _ => rfl) fun f fd F => F.ok sc_answer (fun vs H Q E h => ?_) fun cdv A outer s H vs Q E hr h => ⟨_,
    (pss_cons (ps_set (i := 3) sc_answer.nd rfl (Or.inl rfl) (pe_ix ix_tup (pe_gref (by rfl) T.t_DEEDS) (pv 1) (fun _ _ => rfl)))
      (pss_one (ps_try_as (i := 4) (tb := fun W => tRet (tCallAx P w K mg base 37 3 W (tCons (tVar 0) (tCons (tVar 2) tNil)))) (ts := t_suite CR) (Wout := fun _ _ _ _ => False) rfl rfl sc_answer.nd rfl rfl ⟨rfl, by decide, Or.inl T.low.gC⟩ takes0
        (fun W pn xe tk _ => pss_one (ps_ret (pe_callAx tk hr rfl (Or.inl rfl) (by exact (pa_cons (pv 0) (pa_cons (pv 2) pa_nil))))))
        (fun a oe cls d pn hz hf => pss_one (ps_ret (pe_lst (pa_cons (pe_byLow T.low hz hf (pv 4)) pa_nil))))))), ?_⟩
  · obtain ⟨a, pt, h, n, ns, c, rfl, _⟩ := h; rfl
  · obtain ⟨a, pt, h, n, ns, c, rfl, hh, I, ht, hc, q⟩ := h
    obtain ⟨xs, hxs, hf⟩ := DS.ex
    obtain ⟨g, hg, Hg⟩ := hf n ns c hc
    repeat walk_at "kc"
    refine r_ixTK (hxs _) (j := n) rfl hg ?_
    repeat walk_at "kc"
    refine ⟨g, _, rfl, Hg, ?_⟩
    repeat walk_at "kc"
    refine ⟨a, pt, h, ns, c, rfl, hh, I, ht, hc, q, fun hl hk d H' s hd => ?_⟩
    refine ⟨true, T.low.te, fun _ a0 _ => ?_, fun z => Bool.noConfusion z⟩
    unfold t_suite
    repeat walk_at "kc"
    refine ⟨_, rfl, rfl, rfl, d, _, rfl, hd, ?_⟩
    repeat walk_at "kc"
    refine ⟨sz_ok, fun p np => ?_⟩
    have hk' := hk.same s
    refine q _ p ((But.of s).trans (But.of (Same.upd np))) (s.free np) (hk'.same (Same.upd np)) ?_
    rw [upd_same]
    unfold Oc11Neutral.out
    rw [hl]
    rfl
end
end KC

/-! ## KcAns2 -/
namespace KC
open PySem PySem.Spec PyProof.Rows L2
open Oc (C Axiom)
open Oc11 (House)
local macro_rules | `(tactic| walk_at "kc") => `(tactic| with_reducible (first
  | refine r_seq ?_ | refine r_ifS ?_ | refine r_asg ?_ | refine r_ret ?_ | refine r_drop ?_ | refine r_next ?_
  | refine r_op ?_ | refine r_c ?_ | refine r_cons ?_ | refine r_nil ?_ | refine r_cl ?_ | refine r_cx ?_ | refine r_cb ?_
  | refine r_test ?_ | refine r_B ?_ | refine r_and ?_ | refine r_or ?_ | refine r_not ?_ | refine r_bl ?_
  | refine r_notV ?_ | refine r_andV ?_ | refine r_orV ?_ | refine r_tup ?_ | refine r_lst ?_ | refine r_ifE ?_
  | refine r_for ?_ | refine r_lc ?_ | refine r_yes ?_ | refine r_sFld ?_ | refine r_fld ?_ | refine r_par ?_ | refine r_rng1 ?_ | refine r_enum ?_ | refine r_zip3 ?_ | refine r_raise ?_ | refine r_list ?_ | refine r_bm ?_ | refine r_I0 ?_ | refine r_eqI ?_ | refine r_eqB ?_ | refine r_neI ?_ | refine r_gName ?_ | refine r_gCons ?_ | refine r_gNil ?_
  | (refine r_var (by with_unfolding_all rfl) ?_)))
/-! ### split_calls -/
abbrev s_split_calls : Stmt := topS 80
abbrev N_split_calls : List Str := ["calls", "found", "at", "word", "behind", "told"]
theorem sc_split_calls : FnScope N_split_calls ["calls"] (defScope s_split_calls) := ⟨rfl, rfl, rfl, by decide +kernel, rfl, by decide +kernel, by decide +kernel⟩
/-- a call at v, the list of what is told not in H0 -/
def CallB (H0 H : Hp) (c : List (List Int)) (v : V) : Prop := ∃ q pt, v = .ref q ∧ H q = some (.tup [.int (wordOf c), .ref pt]) ∧ H0 pt = none ∧ H pt = some (.lst ((toldOf c).map V.int))
def spSplit (K : PySem.W.Frag) : Sp := fun vs H Q _ => ∃ (p : Addr) (l : List Int) (raw : List (List (List Int))), vs = [.ref p] ∧ SqL K H p (l.map V.int) ∧ PyFlat.calls PyOc11.shape l.length l = some raw ∧ raw.length ≤ 60 ∧ (∀ c ∈ raw, (toldOf c).length ≤ 40) ∧
  ∀ H' q, Same H H' → H q = none → LAt (CallB H) H' q raw → Q (.ref q) H'
theorem r_while {c : TT} {tb : TS} {D : Ends} {σ : L2.St} {H : Hp} (q : ∃ W : Nat → L2.St → Hp → Prop, (∃ m, W m σ H) ∧ ∀ m σ H, W m σ H →
  c σ H fun b H1 => if b = true then ∃ N : L2.St → Hp → Prop, (∀ σ' H', N σ' H' → ∃ m', m' < m ∧ W m' σ' H') ∧ tb { D with nx := N, ct := N, bk := D.nx } σ H1 else D.nx σ H1) : tWhile c tb D σ H := q
theorem r_aug {i : Nat} {te : TE} {ti : TIp} {D : Ends} {σ : L2.St} {H : Hp} (q : ∃ x, σ[i]? = some (some x) ∧ te σ H fun y H1 => ti x y H1 fun z H2 => D.nx (σ.set i (some z)) H2) : tAug i te ti D σ H := q
theorem r_ip {i j : Int} {H : Hp} {Q : VK} (q : Q (.int (i + j)) H) : ipI (fun i j => i + j) (.int i) (.int j) H Q := ⟨i, j, rfl, rfl, q⟩
theorem drop_ints {l r : List Int} {b : Nat} {x : Int} (h : l.drop b = x :: r) : b < l.length ∧ l[b]? = some x ∧ l.drop (b + 1) = r := by
  have h1 : b < l.length := by
    rcases Nat.lt_or_ge b l.length with z | z
    · exact z
    · rw [List.drop_of_length_le z] at h; cases h
  rw [List.drop_eq_getElem_cons h1] at h
  injection h with h2 h3
  exact ⟨h1, by rw [List.getElem?_eq_getElem h1, h2], h3⟩
theorem int_at {l : List Int} {b : Nat} {x : Int} (h : l[b]? = some x) : (l.map V.int)[b]? = some (.int x) := by rw [List.getElem?_map, h]; rfl
theorem cut_told {l r : List Int} {b n : Nat} (h : l.drop b = r) (hn : b + n ≤ l.length) : cutV (l.map V.int) (some (b : Int)) (some ((b + n : Nat) : Int)) = (r.take n).map V.int := by
  rw [cut_mid (by omega) (by rw [List.length_map]; exact hn), ← List.map_drop, h, ← List.map_take]
  congr 2
  omega
theorem sz_at {w n : Nat} (h : SZ[w]? = some n) : (([0, 0, 1, 0, 1, 1, 3, 1, 0, 1, 0, 0, 0, 0] : List Int).map V.int)[w]? = some (.int (n : Nat)) := by
  have e : (([0, 0, 1, 0, 1, 1, 3, 1, 0, 1, 0, 0, 0, 0] : List Int).map V.int) = SZ.map fun n : Nat => V.int (n : Int) := rfl
  rw [e, List.getElem?_map, h]; rfl
theorem in_rwd : ∀ w, w < 14 → inV (.int (w : Nat)) (([1, 4, 8, 9] : List Int).map V.int) = decide (w ∈ RWD)
  | 0, _ => rfl
  | 1, _ => rfl
  | 2, _ => rfl
  | 3, _ => rfl
  | 4, _ => rfl
  | 5, _ => rfl
  | 6, _ => rfl
  | 7, _ => rfl
  | 8, _ => rfl
  | 9, _ => rfl
  | 10, _ => rfl
  | 11, _ => rfl
  | 12, _ => rfl
  | 13, _ => rfl
  | n + 14, h => absurd h (by omega)
/-- the same, the list of what is told not at f -/
def CallN (H0 : Hp) (f : Addr) (H : Hp) (c : List (List Int)) (v : V) : Prop := ∃ q pt, v = .ref q ∧ H q = some (.tup [.int (wordOf c), .ref pt]) ∧ (pt ≠ f ∧ H0 pt = none) ∧ H pt = some (.lst ((toldOf c).map V.int))
theorem CallN.at {H0 : Hp} {f : Addr} {H : Hp} {c : List (List Int)} {v : V} (h : CallN H0 f H c v) : CallB H0 H c v := by
  obtain ⟨q, pt, e, h1, n, h2⟩ := h
  exact ⟨q, pt, e, h1, n.2, h2⟩
theorem CallN.same {H0 : Hp} {f : Addr} {H H' : Hp} {c : List (List Int)} {v : V} (s : Same H H') (h : CallN H0 f H c v) : CallN H0 f H' c v := by
  obtain ⟨q, pt, e, h1, n, h2⟩ := h
  exact ⟨q, pt, e, s _ _ h1, n, s _ _ h2⟩
theorem CallN.put {H0 : Hp} {f : Addr} {H : Hp} {c : List (List Int)} {v : V} {xs : List V} {o : HO} (hf : H f = some (.lst xs)) (h : CallN H0 f H c v) : CallN H0 f (upd H f o) c v := by
  obtain ⟨q, pt, e, h1, n, h2⟩ := h
  exact ⟨q, pt, e, by rw [upd_ne (fun z => by rw [z, hf] at h1; cases h1)]; exact h1, n, by rw [upd_ne n.1]; exact h2⟩
section
variable {P : Program} {w : World} {K : PySem.W.Frag} {mg : Str → Option Value} {base : Heap} {CR fI Cl aD aS aR : Addr}
theorem d_split_calls (T : Txt K mg CR fI Cl aD aS aR) (G : Glob K mg "split_calls" s_split_calls) : DefOk P w K mg base CX0 1 "split_calls" (spSplit K) := by
  refine mkDef (ps := ["calls"]) G (fun _ _ _ _ _ _ us hl => match us, hl with | [_], _ => rfl) fun f fd F => F.ok sc_split_calls (fun vs H Q E h => ?_) fun cdv A outer s H vs Q E hr h => ⟨_, ((pss_cons (ps_set (i := 1) sc_split_calls.nd rfl (Or.inl rfl) (pe_lst pa_nil))
    (pss_cons (ps_set (i := 2) sc_split_calls.nd rfl (Or.inl rfl) pe_int)
    (pss_cons (ps_while PassesOwn.never (pt_cmpR op_lt (pv 2) (pe_callB call_len_seq (by rfl) T.b_len boot_len_ (pa_cons (pv 0) pa_nil)) (nomark _))
      (pss_cons (ps_set (i := 3) sc_split_calls.nd rfl (Or.inl rfl) (pe_ix ix_list (pv 0) (pv 2) (fun _ _ => rfl)))
      (pss_cons (ps_set (i := 4) sc_split_calls.nd rfl (Or.inl rfl) (pe_op op_add (pe_op op_add (pv 2) pe_int) (pe_ix ix_tup (pe_gref (by rfl) T.t_SIZES) (pv 3) (fun _ _ => rfl))))
      (pss_cons (ps_set (i := 5) sc_split_calls.nd rfl (Or.inl rfl) (pe_slice sl_list (pv 0) (po_some (pe_op op_add (pv 2) pe_int)) (po_some (pv 4))))
      (pss_cons (ps_if (pt_cmpR op_in_seq (pv 3) (pe_gref (by rfl) T.t_ROWED) (by with_unfolding_all rfl))
        (pss_cons (ps_set (i := 5) sc_split_calls.nd rfl (Or.inl rfl) (pe_op op_cat (pv 5) (pe_slice sl_list (pv 0) (po_some (pe_op op_add (pv 4) pe_int)) (po_some (pe_op op_add (pe_op op_add (pv 4) pe_int) (pe_ix ix_list (pv 0) (pv 4) (fun _ _ => rfl)))))))
        (pss_one (ps_aug (i := 4) sc_split_calls.nd rfl (Or.inl rfl) (pe_op op_add pe_int (pe_ix ix_list (pv 0) (pv 4) (fun _ _ => rfl))) ip_add)))
        pss_nil)
      (pss_cons (ps_expr (pe_bm PySem.F.plainAttrs_list PySem.F.slot_list_append PySem.F.type_list_append mt_append (pv 1) (pa_cons (pe_tup (pa_cons (pv 3) (pa_cons (pv 5) pa_nil))) pa_nil)))
      (pss_one (ps_set (i := 2) sc_split_calls.nd rfl (Or.inl rfl) (pv 4)))))))))
    (pss_one (ps_ret (pv 1))))))), ?_⟩
  · obtain ⟨p, l, raw, rfl, _⟩ := h; rfl
  · obtain ⟨p, l, raw, rfl, hp, hcs, h60, h40, q⟩ := h
    repeat walk_at "kc"
    refine ⟨sz_ok, fun fo nfo => ?_⟩
    repeat walk_at "kc"
    have s0 := Same.upd (o := .lst []) nfo
    have e0 : upd H fo (.lst []) fo = some (.lst []) := upd_same
    generalize upd H fo (.lst []) = H0 at s0 e0
    refine r_while ⟨fun m σ H' => ∃ (i b g : Nat) (v3 v4 v5 : Option V), m = raw.length - i ∧ i ≤ raw.length ∧ b ≤ l.length ∧ PyFlat.calls PyOc11.shape g (l.drop b) = some (raw.drop i) ∧
      σ = [some (.ref p), some (.ref fo), some (.int (b : Nat)), v3, v4, v5] ∧ Same H H' ∧ LAt (CallN H fo) H' fo (raw.take i), ?_, ?_⟩
    · exact ⟨_, 0, 0, l.length, none, none, none, rfl, Nat.zero_le _, Nat.zero_le _, hcs, rfl, s0, [], e0, by simp [Al]⟩
    · rintro m σ H' ⟨i, b, g, v3, v4, v5, rfl, hi, hb, hg, rfl, s1, us, hus, au⟩
      have hp1 := s1.seq hp
      repeat walk_at "kc"
      refine ⟨p, _, rfl, .inl hp1, ?_⟩
      rw [List.length_map]
      repeat walk_at "kc"
      refine if_by (c' := decide (b < l.length)) (by simp) (fun e => ?_) (fun e => ?_)
      · have e := of_decide_eq_true e
        cases el : l.drop b with
        | nil =>
          have := congrArg List.length el
          rw [List.length_drop] at this
          simp at this
          omega
        | cons x r =>
          rw [el] at hg
          obtain ⟨g', c, t, cs', hc, hg', er⟩ := calls_cons hg
          have hin : i < raw.length := by
            rcases Nat.lt_or_ge i raw.length with z | z
            · exact z
            · rw [List.drop_of_length_le z] at er; cases er
          have hci : raw[i]? = some c := by
            rw [List.drop_eq_getElem_cons hin] at er
            injection er with e1 e2
            rw [List.getElem?_eq_getElem hin, e1]
          have hdr : raw.drop (i + 1) = cs' := by
            rw [List.drop_eq_getElem_cons hin] at er
            injection er
          have c40 := h40 c (List.mem_of_getElem? hci)
          obtain ⟨k, n, r0, ex, hk, hn, hnr, hcase⟩ := call_is hc
          injection ex with ex1 ex2
          subst ex1 ex2
          obtain ⟨b1, b2, b3⟩ := drop_ints el
          have rl : r.length = l.length - (b + 1) := by rw [← b3, List.length_drop]
          refine ⟨fun σ' H2 => ∃ m', m' < raw.length - i ∧ ∃ (i b g : Nat) (v3 v4 v5 : Option V), m' = raw.length - i ∧ i ≤ raw.length ∧ b ≤ l.length ∧ PyFlat.calls PyOc11.shape g (l.drop b) = some (raw.drop i) ∧
            σ' = [some (.ref p), some (.ref fo), some (.int (b : Nat)), v3, v4, v5] ∧ Same H H2 ∧ LAt (CallN H fo) H2 fo (raw.take i), fun σ' H2 z => z, ?_⟩
          repeat walk_at "kc"
          refine r_ixLK hp1 (j := b) rfl (int_at b2) ?_
          repeat walk_at "kc"
          refine r_ixTK (T.l_SIZES _) (j := k) rfl (sz_at hn) ?_
          refine r_I0 ?_
          have eb : ((b : Int) + 1 + (n : Int)) = ((b + 1 + n : Nat) : Int) := by omega
          have eb1 : ((b : Int) + 1) = ((b + 1 : Nat) : Int) := by omega
          rw [eb]
          repeat walk_at "kc"
          refine r_sl ?_
          repeat walk_at "kc"
          refine r_part ?_
          repeat walk_at "kc"
          refine ⟨_, rfl, ?_⟩
          refine r_part ?_
          repeat walk_at "kc"
          refine ⟨_, rfl, p, _, rfl, hp1, fun t1 n1 => ?_⟩
          rw [eb1, cut_told b3 (by omega)]
          have s2 := Same.upd (o := .lst ((r.take n).map V.int)) n1
          have e2 : upd H' t1 (.lst ((r.take n).map V.int)) t1 = some (.lst ((r.take n).map V.int)) := upd_same
          generalize upd H' t1 (.lst ((r.take n).map V.int)) = H2 at s2 e2
          have hp2 := s2.seq hp1
          have hus2 := s2 _ _ hus
          
          repeat walk_at "kc"
          refine r_inT (T.l_ROWED _) rfl rfl ?_
          rw [in_rwd k hk]
          repeat walk_at "kc"
          have tk := take_more hci
          rcases hcase with ⟨hm, rfl, rfl⟩ | ⟨hm, m, r', ed, hmr, rfl, rfl⟩
          · refine if_f (decide_eq_false hm) ?_
            repeat walk_at "kc"
            refine ⟨tyL hus2, ?_⟩
            repeat walk_at "kc"
            refine ⟨sz_ok, fun q1 nq => ?_⟩
            have s3 := Same.upd (o := .tup [.int (k : Nat), .ref t1]) nq
            have e3 : upd H2 q1 (.tup [.int (k : Nat), .ref t1]) q1 = some (.tup [.int (k : Nat), .ref t1]) := upd_same
            generalize upd H2 q1 (.tup [.int (k : Nat), .ref t1]) = H3 at s3 e3
            have hus3 := s3 _ _ hus2
            repeat walk_at "kc"
            refine r_append hus3 (line_lt (by rw [← au.length, List.length_take]; omega)) ?_
            repeat walk_at "kc"
            have s13 := s1.trans (s2.trans s3)
            refine ⟨raw.length - (i + 1), by omega, i + 1, b + 1 + n, g', _, _, _, rfl, hin, by omega, ?_, rfl, s13.put nfo, ?_⟩
            · rw [← List.drop_drop, b3, hdr]
              exact hg'
            · rw [tk]
              have tn : t1 ≠ fo := fun z => by rw [z, hus] at n1; cases n1
              exact ⟨_, upd_same, (au.mono fun _ _ z => (z.same (s2.trans s3)).put hus3).app (.one (CallN.put hus3 ⟨q1, t1, rfl, e3, ⟨tn, s1.free n1⟩, s3 _ _ e2⟩))⟩
          · refine if_t (decide_eq_true hm) ?_
            have hd2 : l.drop (b + 1 + n) = (m : Int) :: r' := by rw [← List.drop_drop, b3, ed]
            obtain ⟨d1, d2, d3⟩ := drop_ints hd2
            have rl2 : r'.length = l.length - (b + 1 + n + 1) := by rw [← d3, List.length_drop]
            have ec : ((b + 1 + n : Nat) : Int) + 1 = ((b + 1 + n + 1 : Nat) : Int) := by omega
            have ec2 : ((b + 1 + n : Nat) : Int) + 1 + (m : Int) = ((b + 1 + n + 1 + m : Nat) : Int) := by omega
            have ec3 : ((b + 1 + n : Nat) : Int) + (1 + (m : Int)) = ((b + 1 + n + 1 + m : Nat) : Int) := by omega
            repeat walk_at "kc"
            refine r_sl ?_
            repeat walk_at "kc"
            refine r_part ?_
            repeat walk_at "kc"
            refine ⟨_, rfl, ?_⟩
            refine r_part ?_
            repeat walk_at "kc"
            refine r_ixLK hp2 (j := b + 1 + n) rfl (int_at d2) ?_
            repeat walk_at "kc"
            refine ⟨_, rfl, p, _, rfl, hp2, fun t2 n2 => ?_⟩
            rw [ec2, ec, cut_told d3 (by omega)]
            have s3 := Same.upd (o := .lst ((r'.take m).map V.int)) n2
            have e3 : upd H2 t2 (.lst ((r'.take m).map V.int)) t2 = some (.lst ((r'.take m).map V.int)) := upd_same
            generalize upd H2 t2 (.lst ((r'.take m).map V.int)) = H3 at s3 e3
            have tl : toldOf [(k : Int) :: r.take n, r'.take m] = r.take n ++ r'.take m := rfl
            rw [tl, List.length_append] at c40
            refine r_cat (s3 _ _ e2) e3 (line_of (by simp only [List.length_map]; omega)) fun t3 n3 => ?_
            rw [← List.map_append]
            have s4 := Same.upd (o := .lst ((r.take n ++ r'.take m).map V.int)) n3
            have e4 : upd H3 t3 (.lst ((r.take n ++ r'.take m).map V.int)) t3 = some (.lst ((r.take n ++ r'.take m).map V.int)) := upd_same
            generalize upd H3 t3 (.lst ((r.take n ++ r'.take m).map V.int)) = H4 at s4 e4
            have s24 := (s2.trans s3).trans s4
            repeat walk_at "kc"
            refine r_aug ⟨_, rfl, ?_⟩
            repeat walk_at "kc"
            refine r_ixLK (s4.seq (s3.seq hp2)) (j := b + 1 + n) rfl (int_at d2) ?_
            repeat walk_at "kc"
            refine r_ip ?_
            rw [ec3]
            repeat walk_at "kc"
            have hus4 := s24 _ _ hus
            refine ⟨tyL hus4, ?_⟩
            repeat walk_at "kc"
            refine ⟨sz_ok, fun q1 nq => ?_⟩
            have s5 := Same.upd (o := .tup [.int (k : Nat), .ref t3]) nq
            have e5 : upd H4 q1 (.tup [.int (k : Nat), .ref t3]) q1 = some (.tup [.int (k : Nat), .ref t3]) := upd_same
            generalize upd H4 q1 (.tup [.int (k : Nat), .ref t3]) = H5 at s5 e5
            have s25 := s24.trans s5
            have hus5 := s25 _ _ hus
            repeat walk_at "kc"
            refine r_append hus5 (line_lt (by rw [← au.length, List.length_take]; omega)) ?_
            repeat walk_at "kc"
            refine ⟨raw.length - (i + 1), by omega, i + 1, b + 1 + n + 1 + m, g', _, _, _, rfl, hin, by omega, ?_, rfl, (s1.trans s25).put nfo, ?_⟩
            · rw [← List.drop_drop, d3, hdr]
              exact hg'
            · rw [tk]
              have tn : t3 ≠ fo := fun z => by rw [z, s3 _ _ (s2 _ _ hus)] at n3; cases n3
              exact ⟨_, upd_same, (au.mono fun _ _ z => (z.same s25).put hus5).app (.one (CallN.put hus5 ⟨q1, t3, rfl, e5, ⟨tn, ((s1.trans s2).trans s3).free n3⟩, s5 _ _ e4⟩))⟩
      · have e := of_decide_eq_false e
        rw [List.drop_of_length_le (by omega)] at hg
        have en := calls_nil hg
        have ei : raw.length ≤ i := by
          have := congrArg List.length en
          rw [List.length_drop] at this
          simp at this
          omega
        repeat walk_at "kc"
        rw [List.take_of_length_le ei] at au
        exact q _ _ s1 nfo ⟨us, hus, au.mono fun _ _ z => z.at⟩
end
end KC

/-! ## KcAns3 -/
namespace KC
open PySem PySem.Spec PyProof.Rows L2
open Oc (C Axiom)
open Oc11 (House)
local macro_rules | `(tactic| walk_at "kc") => `(tactic| with_reducible (first
  | refine r_seq ?_ | refine r_ifS ?_ | refine r_asg ?_ | refine r_ret ?_ | refine r_drop ?_ | refine r_next ?_
  | refine r_op ?_ | refine r_c ?_ | refine r_cons ?_ | refine r_nil ?_ | refine r_cl ?_ | refine r_cx ?_ | refine r_cb ?_
  | refine r_test ?_ | refine r_B ?_ | refine r_and ?_ | refine r_or ?_ | refine r_not ?_ | refine r_bl ?_
  | refine r_notV ?_ | refine r_andV ?_ | refine r_orV ?_ | refine r_tup ?_ | refine r_lst ?_ | refine r_ifE ?_
  | refine r_for ?_ | refine r_lc ?_ | refine r_yes ?_ | refine r_sFld ?_ | refine r_fld ?_ | refine r_par ?_ | refine r_rng1 ?_ | refine r_enum ?_ | refine r_zip3 ?_ | refine r_raise ?_ | refine r_list ?_ | refine r_bm ?_ | refine r_I0 ?_ | refine r_eqI ?_ | refine r_eqB ?_ | refine r_neI ?_ | refine r_gName ?_ | refine r_gCons ?_ | refine r_gNil ?_
  | (refine r_var (by with_unfolding_all rfl) ?_)))
/-! ### answers -/
abbrev s_answers : Stmt := topS 82
abbrev N_answers : List Str := ["calls", "house", "found", "word", "told", "numbers"]
theorem sc_answers : FnScope N_answers ["calls"] (defScope s_answers) := ⟨rfl, rfl, rfl, by decide +kernel, rfl, by decide +kernel, by decide +kernel⟩
theorem Tups.frz {H : Hp} {p : Addr} {od : Obj} {u o : HO} (e : H p = some (.frz od u)) : Tups H (upd H p o) := fun b ys h => by
  rw [upd_ne (fun z => by rw [z, e] at h; cases h)]; exact h
theorem LAt.frz {α : Type} {R : Hp → α → V → Prop} {H : Hp} {f p : Addr} {od : Obj} {u o : HO} {xs : List α} (e : H f = some (.frz od u)) (g : ∀ x v, R H x v → R (upd H f o) x v) (h : LAt R H p xs) : LAt R (upd H f o) p xs :=
  h.mono (fun vs z => by rw [upd_ne (fun y => by rw [y, e] at z; cases z)]; exact z) g
theorem HouseAt.frz {Cl a f : Addr} {H : Hp} {h : House} {od : Obj} {u : HO} (e : H f = some (.frz od u)) (x : HouseAt Cl H a h) (o : HO) : HouseAt Cl (upd H f o) a h := by
  obtain ⟨dx, pA, pS, pT, pAt, pK, X⟩ := x
  have t : Tups H (upd H f o) := Tups.frz e
  exact ⟨dx, pA, pS, pT, pAt, pK, by rw [upd_ne (fun y => by have := X.obj; rw [y, e] at this; cases this)]; exact X.obj, X.ax.frz e fun _ _ z => z.mono t, X.sa.frz e fun _ _ z => z.mono t, X.ti.frz e fun _ _ z => z.mono t, X.at1.frz e fun _ _ z => z.mono t, X.ki.frz e fun _ _ z => z.mono t⟩
theorem same_upd2 {H H' : Hp} {f : Addr} {o : HO} (s : Same H H') : Same (upd H f o) (upd H' f o) := fun b x h => by
  by_cases z : b = f
  · subst z
    rw [upd_same] at h ⊢
    exact h
  · rw [upd_ne z] at h ⊢
    exact s b x h
def spAnswers (K : PySem.W.Frag) : Sp := fun vs H Q _ => ∃ (p : Addr) (l : List Int), vs = [.ref p] ∧ SqL K H p (l.map V.int) ∧ PyOc11.answers_asked l = true ∧ ∀ H' q, H' q = some (.lst ((PyOc11.answers l).map V.int)) → Q (.ref q) H'
section
variable {P : Program} {w : World} {K : PySem.W.Frag} {mg : Str → Option Value} {base : Heap} {CR fI Cl aD aS aR : Addr}
theorem told_short {c : List (List Int)} {n : Nat} {ns : List Nat} {x : Oc11.Call} (h : toldOf c = ns.map fun n : Nat => (n : Int)) (d : decd n ns = some x) : (toldOf c).length ≤ 40 := by
  rw [h, List.length_map]
  unfold decd at d
  split at d
  all_goals first
    | (simp; done)
    | (split at d
       · simp; omega
       · cases d)
    | (split at d
       · omega
       · cases d)
    | cases d
theorem fn_answers (T : Txt K mg CR fI Cl aD aS aR) (DI : InitOk P w K mg base Cl) (D_split_calls : DefOk P w K mg base CX0 1 "split_calls" (spSplit K)) (D_answer : DefOk P w K mg base CX0 38 "answer" (spAnswer Cl)) {f : Addr} {fd : FuncData} (F : Fun K "answers" "answers" s_answers f fd) : FnOk P w K mg base CX0 39 f fd ["calls"] (spAnswers K) := by
  refine F.ok sc_answers (fun vs H Q E h => ?_) fun cdv A outer s H vs Q E hr h => ⟨_, ((pss_cons (ps_set (i := 1) sc_answers.nd rfl (Or.inl rfl) (pe_House DI (hr.mono (by decide)) (by rfl)))
    (pss_cons (ps_set (i := 2) sc_answers.nd rfl (Or.inl rfl) (pe_lst pa_nil))
    (pss_cons (ps_for PassesOwn.never rfl (pi_list (pe_cl D_split_calls (hr.mono (by decide)) (by exact (pa_cons (pv 0) pa_nil)))) (pg_tup rfl (pgs_cons (pg_name (i := 3) sc_answers.nd rfl (Or.inl rfl)) (pgs_cons (pg_name (i := 4) sc_answers.nd rfl (Or.inl rfl)) pgs_nil)))
      (pss_cons (ps_set (i := 5) sc_answers.nd rfl (Or.inl rfl) (pe_lock (pe_cl D_answer (hr.mono (by decide)) (by exact (pa_cons (pv 1) (pa_cons (pv 3) (pa_cons (pv 4) pa_nil)))))))
      (pss_cons (ps_expr (pe_bm PySem.F.plainAttrs_list PySem.F.slot_list_append PySem.F.type_list_append mt_append (pv 2) (pa_cons (pe_callB call_len_seq (by rfl) T.b_len boot_len_ (pa_cons (pv 5) pa_nil)) pa_nil)))
      (pss_one (ps_expr (pe_bm PySem.F.plainAttrs_list PySem.F.slot_list_extend PySem.F.type_list_extend mt_extend (pv 2) (pa_cons (pv 5) pa_nil)))))))
    (pss_one (ps_ret (pv 2))))))), ?_⟩
  · obtain ⟨p, l, rfl, _⟩ := h; rfl
  · obtain ⟨p, l, rfl, hp, hask, q⟩ := h
    obtain ⟨raw, hcs, h60, hall, hans, hlen⟩ := asked_is hask
    have hdec : ∀ c ∈ raw, ∃ (w : Nat) (ns : List Nat) (x : Oc11.Call), wordOf c = (w : Nat) ∧ toldOf c = ns.map (fun n : Nat => (n : Int)) ∧ decd w ns = some x ∧ Oc11Neutral.callOf c = some x := fun c hc => dec_of (hall c hc)
    rw [hans] at hlen q
    repeat walk_at "kc"
    intro x H1 s1 nx hx
    repeat walk_at "kc"
    refine ⟨sz_ok, fun fo nfo => ?_⟩
    repeat walk_at "kc"
    have s2 := Same.upd (o := .lst []) nfo
    have e2 : upd H1 fo (.lst []) fo = some (.lst []) := upd_same
    have hx2 : ∀ o, HouseAt Cl (upd (upd H1 fo (.lst [])) fo o) x Oc11.init := fun o => by rw [upd_upd]; exact hx.same (Same.upd nfo)
    have ox : ∃ dx fs, upd H1 fo (.lst []) x = some (.ins Cl dx fs) := by
      obtain ⟨dx, pA, pS, pT, pAt, pK, X⟩ := hx
      exact ⟨_, _, s2 _ _ X.obj⟩
    generalize upd H1 fo (.lst []) = H2 at s2 e2 hx2 ox
    obtain ⟨dx, fs, ox⟩ := ox
    have xf : fo ≠ x := fun z => by rw [← z, e2] at ox; cases ox
    refine ⟨p, l, raw, rfl, s2.seq (s1.seq hp), hcs, h60, fun c hc => ?_, fun H3 lq s3 nq hq => ?_⟩
    · obtain ⟨n, ns, y, _, h2, h3, _⟩ := hdec c hc
      exact told_short h2 h3
    obtain ⟨us, hus, au⟩ := hq
    have ox3 := s3 _ _ ox
    have lf : lq ≠ fo := fun z => by rw [z, e2] at nq; cases nq
    have lx : lq ≠ x := fun z => by rw [z, ox] at nq; cases nq
    refine ⟨lq, rfl, ⟨us, .of hus⟩, for_list (xs := us) (fun i σ H' => ∃ (v3 v4 v5 : Option V) (h : House) (acc : List Int), σ = [some (.ref p), some (.ref x), some (.ref fo), v3, v4, v5] ∧
      (∀ b o, b ≠ x → b ≠ fo → H3 b = some o → H' b = some o) ∧ H' fo = some (.lst (acc.map V.int)) ∧ (∀ o, HouseAt Cl (upd H' fo o) x h) ∧ KM.HInv h ∧
      PyFlat.told (PyFlat.played Oc11Neutral.step Oc11Neutral.start raw) = acc ++ PyFlat.told (PyFlat.played Oc11Neutral.step h (raw.drop i))) ?_ ?_ ?_ ?_⟩
    · exact ⟨none, none, none, Oc11.init, [], rfl, fun b o _ _ z => z, s3 _ _ e2, fun o => (hx2 o).same (same_upd2 s3), KM.inv_init, rfl⟩
    · rintro i σ H' _ ⟨v3, v4, v5, h, acc, rfl, k, _⟩
      exact .of (k _ _ lx lf hus)
    · rintro i v σ H' hi ⟨v3, v4, v5, h, acc, rfl, k, hfo, hh, I, eq⟩
      obtain ⟨c, hc, cq, pt, rfl, hcq, npt, hpt⟩ := au.get hi
      obtain ⟨n, ns, y, hw, ht, hd, hco⟩ := hdec c (List.mem_of_getElem? hc)
      have ptf : pt ≠ fo := fun z => by rw [z, e2] at npt; cases npt
      have ptx : pt ≠ x := fun z => by rw [z, ox] at npt; cases npt
      have cqf : cq ≠ fo := fun z => by rw [z, s3 _ _ e2] at hcq; cases hcq
      have cqx : cq ≠ x := fun z => by rw [z, ox3] at hcq; cases hcq
      have hcq' := k _ _ cqx cqf hcq
      have hpt' := k _ _ ptx ptf hpt
      rw [hw] at hcq'
      have epts : (toldOf c).map V.int = nV ns := by rw [ht, List.map_map]; rfl
      rw [epts] at hpt'
      have hdr : raw.drop i = c :: raw.drop (i + 1) := by
        obtain ⟨hl, e⟩ := List.getElem?_eq_some_iff.mp hc
        rw [List.drop_eq_getElem_cons hl, e]
      rw [hdr, told_more, step_of hco] at eq
      simp only at eq
      refine r_gTup hcq' rfl ?_
      repeat walk_at "kc"
      refine ⟨fo, .lst (acc.map V.int), hfo, trivial, fun od => ?_⟩
      repeat walk_at "kc"
      refine ⟨x, pt, h, n, ns, y, rfl, hh _, I, by rw [upd_ne ptf]; exact hpt', hd, fun H4 r b4 nr hh4 e4 => ?_⟩
      have f4 : H4 fo = some (.frz od (.lst (acc.map V.int))) := b4 _ _ xf upd_same
      refine ⟨f4, ?_⟩
      have rf : r ≠ fo := fun z => by rw [z, upd_same] at nr; cases nr
      generalize Oc11Neutral.out (Oc11.step h y).2 = out at e4 eq
      have hlen2 := hlen
      rw [eq] at hlen2
      simp only [List.length_append, List.length_cons] at hlen2
      have r5 : upd H4 fo (.lst (acc.map V.int)) r = some (.lst (out.map V.int)) := by rw [upd_ne rf]; exact e4
      have f5 : upd H4 fo (.lst (acc.map V.int)) fo = some (.lst (acc.map V.int)) := upd_same
      repeat walk_at "kc"
      refine ⟨tyL f5, ?_⟩
      repeat walk_at "kc"
      refine ⟨r, _, rfl, .inl (.of r5), ?_⟩
      rw [List.length_map]
      repeat walk_at "kc"
      refine r_append f5 (by rw [sizeLine_eq, List.length_map]; omega) ?_
      rw [upd_upd]
      repeat walk_at "kc"
      have r6 : upd H4 fo (.lst (acc.map V.int ++ [.int (out.length : Nat)])) r = some (.lst (out.map V.int)) := by rw [upd_ne rf]; exact e4
      have f6 : upd H4 fo (.lst (acc.map V.int ++ [.int (out.length : Nat)])) fo = some (.lst (acc.map V.int ++ [.int (out.length : Nat)])) := upd_same
      refine ⟨tyL f6, ?_⟩
      repeat walk_at "kc"
      refine r_extend f6 r6 (by rw [sizeLine_eq]; simp only [List.length_append, List.length_map, List.length_cons, List.length_nil]; omega) ?_
      rw [upd_upd]
      refine ⟨_, _, _, (Oc11.step h y).1, acc ++ ((out.length : Int) :: out), rfl, fun b o n1 n2 z => ?_, ?_, fun o => ?_, inv_step I hd, ?_⟩
      · rw [upd_ne n2]
        exact b4 _ _ n1 (by rw [upd_ne n2]; exact k _ _ n1 n2 z)
      · rw [upd_same]
        simp
      · rw [upd_upd]
        exact hh4.frz f4 o
      · rw [eq]
        simp
    · rintro σ H' ⟨v3, v4, v5, h, acc, rfl, k, hfo, hh, I, eq⟩
      repeat walk_at "kc"
      rw [← au.length, List.drop_length] at eq
      have e0 : PyFlat.told (PyFlat.played Oc11Neutral.step h []) = [] := rfl
      rw [e0, List.append_nil] at eq
      rw [eq] at q
      exact q H' fo hfo
end
end KC

/-! ## KcEnd -/
namespace KC
open PySem PySem.Spec PyProof.Rows L2
open Oc (C Axiom)
open Oc11 (House)

/-- a def of the top -/
structure TopDef (K : PySem.W.Frag) (x : Str) (st : Stmt) : Prop where
  ex : ∃ (f : Addr) (oc : Value) (od an : Option Addr) (sl : Array (Option Value)) (kV dc pm cd ct : Value), PySem.W.nsIn K mainGlobals x = some (some (.ref f)) ∧
    K.lookup f = some ⟨oc, od, .func (PySem.W.fnOf x x (defArgs st) (defBody st) (defScope st) .none kV dc pm an cd ct), sl⟩ ∧ PySem.W.codeIn K cd x = true ∧ PySem.W.keepIn K (.ref f) = true
theorem topDef {K : PySem.W.Frag} {x : Str} {st : Stmt} {f : Addr} {oc : Value} {od an : Option Addr} {sl : Array (Option Value)} {kV dc pm cd ct : Value} (a : PySem.W.nsIn K mainGlobals x = some (some (.ref f)))
    (l : K.lookup f = some ⟨oc, od, .func (PySem.W.fnOf x x (defArgs st) (defBody st) (defScope st) .none kV dc pm an cd ct), sl⟩) (c : PySem.W.codeIn K cd x = true) (k : PySem.W.keepIn K (.ref f) = true) : TopDef K x st := ⟨f, oc, od, an, sl, kV, dc, pm, cd, ct, a, l, c, k⟩
theorem TopDef.glob {K : PySem.W.Frag} {h : Heap} {mg : Str → Option Value} {x : Str} {st : Stmt} (X : K.In h) (G : h.Ns mainGlobals mg) (D : TopDef K x st) : Glob K mg x st := by
  obtain ⟨f, oc, od, an, sl, kV, dc, pm, cd, ct, a, l, c, k⟩ := D.ex
  exact ⟨f, _, PySem.W.mg_of X G a, fun_mk l c k⟩
theorem sqT_mk {K : PySem.W.Frag} {a : Addr} {od : Option Addr} {its : Array Value} {n : Nat} {sl : Array (Option Value)} {xs : List V} (l : K.lookup a = some ⟨.type "tuple", od, .seq its n, sl⟩) (hs : its.size ≤ sizeLine) (hv : Vals xs its.toList) : ∀ H : Hp, SqT K H a xs :=
  fun H => .inr ⟨_, its, n, l, rfl, rfl, hs, hv⟩
/-- an error of the class at S is what «except S» names -/
theorem exm_self {K : PySem.W.Frag} {S : Addr} (h1 : PySem.W.subIn K (.ref S) (.type "BaseException") = some true) (h2 : PySem.W.isClsIn K S = true) (h3 : PySem.W.typeIn K (.ref S) = some (.type "type")) (h4 : PySem.W.subIn K (.ref S) (.ref S) = some true) :
    PySem.W.exmOne K (.ref S) (.ref S) = some true := by
  have e1 : (PySem.W.subIn K (.ref S) (.type "BaseException") == some true) = true := by rw [h1] <;> rfl
  have e2 : ((PySem.W.clsIn K S).isSome && PySem.W.typeIn K (.ref S) == some (.type "type")) = true := by
    have h2' : (PySem.W.clsIn K S).isSome = true := h2
    rw [h2', h3] <;> rfl
  show (if (PySem.W.subIn K (.ref S) (.type "BaseException") == some true) = true then (if ((PySem.W.clsIn K S).isSome && PySem.W.typeIn K (.ref S) == some (.type "type")) = true then PySem.W.subIn K (.ref S) (.ref S) else none) else none) = some true
  rw [if_pos e1, if_pos e2]
  exact h4
theorem all_mk {P : Program} {w : World} {K : PySem.W.Frag} {h : Heap} {mg : Str → Option Value} {fa CR Cl aD aS aR fI f1 fN : Addr} (X : K.In h) (G : h.Ns mainGlobals mg) (hfa : mg "answers" = some (.ref fa))
    {nm q : Str} {N : Addr} {bs : List Value} {sn : List Str} {sub : List Value} {ab : Bool} {col : Option Bool} {dd : Option Addr} {m0 m1 m2 m3 m5 : Option Value}
    {od0 an0 od1 an1 odN anN oD oS oR : Option Addr} {sl0 sl1 slN slD slS slR : Array (Option Value)} {oc0 dc0 pm0 cd0 ct0 oc1 kV1 dc1 pm1 cd1 ct1 ocN kVN dcN pmN cdN ctN : Value} {nD nS nR : Nat}
    {t_EVERYTHING t_NOTHING t_NAMED t_BOTH t_EITHER t_NOT t_SOME t_ALL t_WORDS t_NAMES t_ROLES t_NO_CONCEPT t_MOST_ATOMS t_MOST_AXIOMS t_MOST_THINGS t_MOST_SAID t_MOST_TIES t_NOT_SO t_NONE_SUCH t_NO_MODEL t_NO_ROOM : Tok}
    {u0 u1 u2 u3 u4 u5 u6 u7 u8 u9 u10 u11 u12 u13 v0 v1 v2 v3 : Tok}
    {g0 g1 g2 g3 g4 g5 g6 g7 g8 g9 g10 g11 g12 g13 : Addr}
    (aC : PySem.W.nsIn K mainGlobals "Refused" = some (some (.ref CR)))
    (xL : K.lookup CR = some (PySem.excClassObj nm q CR N bs [.type "ValueError", .type "Exception", .type "BaseException", .type "object"] true sn sub ab col dd m0 m1 m2 m3 m5 "ValueError.__new__"))
    (sa : PySem.W.findIn K (.ref CR) "__setattr__" = some (some (.builtin "object.__setattr__")))
    (ga : PySem.W.findIn K (.ref CR) "__getattribute__" = some (some (.builtin "BaseException.__getattribute__")))
    (gg : PySem.W.findIn K (.ref CR) "__getattr__" = some none)
    (nb : PySem.W.findIn K (.ref CR) "number" = some none)
    (a0 : PySem.W.findIn K (.ref CR) "__init__" = some (some (.ref fI)))
    (t0 : PySem.W.typeIn K (.ref fI) = some (.type "function"))
    (l0 : K.lookup fI = some ⟨oc0, od0, .func (PySem.W.fnOf "__init__" "Refused.__init__" (PySem.LowX.iA ⟨4, 17, 4, 21⟩ ⟨4, 23, 4, 29⟩) (PySem.LowX.iB ⟨5, 8, 5, 12⟩ ⟨5, 8, 5, 19⟩ ⟨5, 22, 5, 28⟩ ⟨5, 8, 5, 28⟩) PySem.LowX.iS .none .none dc0 pm0 an0 cd0 ct0), sl0⟩)
    (c0 : PySem.W.codeIn K cd0 "Refused.__init__" = true)
    (kC : PySem.W.keepIn K (.ref CR) = true)
    (eC : PySem.W.subIn K (.ref CR) (.type "BaseException") = some true)
    (tC : PySem.W.typeIn K (.ref CR) = some (.type "type"))
    (hC : PySem.W.hasDictIn K CR = true)
    (iC : PySem.W.isClsIn K CR = true)
    (sC : PySem.W.subIn K (.ref CR) (.ref CR) = some true)
    (aH : PySem.W.nsIn K mainGlobals "House" = some (some (.ref Cl)))
    (pg : PySem.W.plainGet K Cl Str.empty = true)
    (hd : PySem.W.hasDictIn K Cl = true)
    (po : PySem.W.plainOver K Cl = true)
    (sH : PySem.W.findIn K (.ref Cl) "__setattr__" = some (some (.builtin "object.__setattr__")))
    (mk : PySem.W.makesIn K Cl = true)
    (kH : PySem.W.keepIn K (.ref Cl) = true)
    (a1 : PySem.W.findIn K (.ref Cl) "__init__" = some (some (.ref f1)))
    (i1 : PySem.W.isFn K (.ref f1) = true)
    (l1 : K.lookup f1 = some ⟨oc1, od1, .func (PySem.W.fnOf "__init__" "House.__init__" (defArgs s_init) (defBody s_init) (defScope s_init) .none kV1 dc1 pm1 an1 cd1 ct1), sl1⟩)
    (c1 : PySem.W.codeIn K cd1 "House.__init__" = true)
    (k1 : PySem.W.keepIn K (.ref f1) = true)
    (nA : PySem.W.findIn K (.ref Cl) "axioms" = some none)
    (nN : PySem.W.findIn K (.ref Cl) "things" = some none)
    (nS_ : PySem.W.findIn K (.ref Cl) "said" = some none)
    (nT : PySem.W.findIn K (.ref Cl) "ties" = some none)
    (nAt : PySem.W.findIn K (.ref Cl) "atoms" = some none)
    (nK : PySem.W.findIn K (.ref Cl) "kinds" = some none)
    (c_EVERYTHING : PySem.W.nsIn K mainGlobals "EVERYTHING" = some (some (.int (0) t_EVERYTHING)))
    (c_NOTHING : PySem.W.nsIn K mainGlobals "NOTHING" = some (some (.int (1) t_NOTHING)))
    (c_NAMED : PySem.W.nsIn K mainGlobals "NAMED" = some (some (.int (2) t_NAMED)))
    (c_BOTH : PySem.W.nsIn K mainGlobals "BOTH" = some (some (.int (3) t_BOTH)))
    (c_EITHER : PySem.W.nsIn K mainGlobals "EITHER" = some (some (.int (4) t_EITHER)))
    (c_NOT : PySem.W.nsIn K mainGlobals "NOT" = some (some (.int (5) t_NOT)))
    (c_SOME : PySem.W.nsIn K mainGlobals "SOME" = some (some (.int (6) t_SOME)))
    (c_ALL : PySem.W.nsIn K mainGlobals "ALL" = some (some (.int (7) t_ALL)))
    (c_WORDS : PySem.W.nsIn K mainGlobals "WORDS" = some (some (.int (8) t_WORDS)))
    (c_NAMES : PySem.W.nsIn K mainGlobals "NAMES" = some (some (.int (4) t_NAMES)))
    (c_ROLES : PySem.W.nsIn K mainGlobals "ROLES" = some (some (.int (2) t_ROLES)))
    (c_NO_CONCEPT : PySem.W.nsIn K mainGlobals "NO_CONCEPT" = some (some (.int (-1) t_NO_CONCEPT)))
    (c_MOST_ATOMS : PySem.W.nsIn K mainGlobals "MOST_ATOMS" = some (some (.int (6) t_MOST_ATOMS)))
    (c_MOST_AXIOMS : PySem.W.nsIn K mainGlobals "MOST_AXIOMS" = some (some (.int (5) t_MOST_AXIOMS)))
    (c_MOST_THINGS : PySem.W.nsIn K mainGlobals "MOST_THINGS" = some (some (.int (2) t_MOST_THINGS)))
    (c_MOST_SAID : PySem.W.nsIn K mainGlobals "MOST_SAID" = some (some (.int (5) t_MOST_SAID)))
    (c_MOST_TIES : PySem.W.nsIn K mainGlobals "MOST_TIES" = some (some (.int (5) t_MOST_TIES)))
    (c_NOT_SO : PySem.W.nsIn K mainGlobals "NOT_SO" = some (some (.int (-1) t_NOT_SO)))
    (c_NONE_SUCH : PySem.W.nsIn K mainGlobals "NONE_SUCH" = some (some (.int (-2) t_NONE_SUCH)))
    (c_NO_MODEL : PySem.W.nsIn K mainGlobals "NO_MODEL" = some (some (.int (-6) t_NO_MODEL)))
    (c_NO_ROOM : PySem.W.nsIn K mainGlobals "NO_ROOM" = some (some (.int (-7) t_NO_ROOM)))
    (b_len : PySem.W.nsIn K mainGlobals "len" = some none)
    (b_range : PySem.W.nsIn K mainGlobals "range" = some none)
    (b_all : PySem.W.nsIn K mainGlobals "all" = some none)
    (b_any : PySem.W.nsIn K mainGlobals "any" = some none)
    (b_int : PySem.W.nsIn K mainGlobals "int" = some none)
    (b_list : PySem.W.nsIn K mainGlobals "list" = some none)
    (b_zip : PySem.W.nsIn K mainGlobals "zip" = some none)
    (b_enumerate : PySem.W.nsIn K mainGlobals "enumerate" = some none)
    (eD : PySem.W.nsIn K mainGlobals "DEEDS" = some (some (.ref aD)))
    (eS : PySem.W.nsIn K mainGlobals "SIZES" = some (some (.ref aS)))
    (eR : PySem.W.nsIn K mainGlobals "ROWED" = some (some (.ref aR)))
    (lD : K.lookup aD = some ⟨.type "tuple", oD, .seq #[.ref g0, .ref g1, .ref g2, .ref g3, .ref g4, .ref g5, .ref g6, .ref g7, .ref g8, .ref g9, .ref g10, .ref g11, .ref g12, .ref g13] nD, slD⟩)
    (lS : K.lookup aS = some ⟨.type "tuple", oS, .seq #[.int 0 u0, .int 0 u1, .int 1 u2, .int 0 u3, .int 1 u4, .int 1 u5, .int 3 u6, .int 1 u7, .int 0 u8, .int 1 u9, .int 0 u10, .int 0 u11, .int 0 u12, .int 0 u13] nS, slS⟩)
    (lR : K.lookup aR = some ⟨.type "tuple", oR, .seq #[.int 1 v0, .int 4 v1, .int 8 v2, .int 9 v3] nR, slR⟩)
    (g_0 : PySem.W.nsIn K mainGlobals "begins" = some (some (.ref g0)))
    (g_1 : PySem.W.nsIn K mainGlobals "line" = some (some (.ref g1)))
    (g_2 : PySem.W.nsIn K mainGlobals "drop" = some (some (.ref g2)))
    (g_3 : PySem.W.nsIn K mainGlobals "thing" = some (some (.ref g3)))
    (g_4 : PySem.W.nsIn K mainGlobals "says" = some (some (.ref g4)))
    (g_5 : PySem.W.nsIn K mainGlobals "unsay" = some (some (.ref g5)))
    (g_6 : PySem.W.nsIn K mainGlobals "tie" = some (some (.ref g6)))
    (g_7 : PySem.W.nsIn K mainGlobals "untie" = some (some (.ref g7)))
    (g_8 : PySem.W.nsIn K mainGlobals "under" = some (some (.ref g8)))
    (g_9 : PySem.W.nsIn K mainGlobals "is_surely" = some (some (.ref g9)))
    (g_10 : PySem.W.nsIn K mainGlobals "whole" = some (some (.ref g10)))
    (g_11 : PySem.W.nsIn K mainGlobals "pairs" = some (some (.ref g11)))
    (g_12 : PySem.W.nsIn K mainGlobals "state" = some (some (.ref g12)))
    (g_13 : PySem.W.nsIn K mainGlobals "tidy" = some (some (.ref g13)))
    (d_number_below_ : TopDef K "number_below" s_number_below)
    (d_concept_from_ : TopDef K "concept_from" s_concept_from)
    (d_concepts_in_ : TopDef K "concepts_in" s_concepts_in)
    (d_is_modal_ : TopDef K "is_modal" s_is_modal)
    (d_is_atom_ : TopDef K "is_atom" s_is_atom)
    (d_parts_of_ : TopDef K "parts_of" s_parts_of)
    (d_atoms_in_ : TopDef K "atoms_in" s_atoms_in)
    (d_with_atoms_ : TopDef K "with_atoms" s_with_atoms)
    (d_holds_ : TopDef K "holds" s_holds)
    (d_insides_ : TopDef K "insides" s_insides)
    (d_fits_ : TopDef K "fits" s_fits)
    (d_is_met_ : TopDef K "is_met" s_is_met)
    (d_is_borne_ : TopDef K "is_borne" s_is_borne)
    (d_all_kinds_ : TopDef K "all_kinds" s_all_kinds)
    (d_keeps_ : TopDef K "keeps" s_keeps)
    (d_borne_ones_ : TopDef K "borne_ones" s_borne_ones)
    (d_kinds_there_ : TopDef K "kinds_there" s_kinds_there)
    (d_begin_anew_ : TopDef K "begin_anew" s_begin_anew)
    (d_reckon_ : TopDef K "reckon" s_reckon)
    (d_bring_ : TopDef K "bring" s_bring)
    (d_needed_atoms_ : TopDef K "needed_atoms" s_needed_atoms)
    (d_falls_under_ : TopDef K "falls_under" s_falls_under)
    (d_is_pair_ : TopDef K "is_pair" s_is_pair)
    (d_pairs_of_ : TopDef K "pairs_of" s_pairs_of)
    (d_is_so_ : TopDef K "is_so" s_is_so)
    (d_are_tied_ : TopDef K "are_tied" s_are_tied)
    (d_placings_ : TopDef K "placings" s_placings)
    (d_is_whole_ : TopDef K "is_whole" s_is_whole)
    (d_surely_ : TopDef K "surely" s_surely)
    (d_look_thing_ : TopDef K "look_thing" s_look_thing)
    (d_look_room_ : TopDef K "look_room" s_look_room)
    (d_without_ : TopDef K "without" s_without)
    (d_changed_ : TopDef K "changed" s_changed)
    (d_begins_ : TopDef K "begins" s_begins)
    (d_line_ : TopDef K "line" s_line)
    (d_drop_ : TopDef K "drop" s_drop)
    (d_thing_ : TopDef K "thing" s_thing)
    (d_says_ : TopDef K "says" s_says)
    (d_unsay_ : TopDef K "unsay" s_unsay)
    (d_tie_ : TopDef K "tie" s_tie)
    (d_untie_ : TopDef K "untie" s_untie)
    (d_under_ : TopDef K "under" s_under)
    (d_is_surely_ : TopDef K "is_surely" s_is_surely)
    (d_whole_ : TopDef K "whole" s_whole)
    (d_pairs_ : TopDef K "pairs" s_pairs)
    (d_state_ : TopDef K "state" s_state)
    (d_tidy_ : TopDef K "tidy" s_tidy)
    (d_split_calls_ : TopDef K "split_calls" s_split_calls)
    (d_answer_ : TopDef K "answer" s_answer)
    (aN : PySem.W.nsIn K mainGlobals "answers" = some (some (.ref fN)))
    (lN : K.lookup fN = some ⟨ocN, odN, .func (PySem.W.fnOf "answers" "answers" (defArgs s_answers) (defBody s_answers) (defScope s_answers) .none kVN dcN pmN anN cdN ctN), slN⟩)
    (cN : PySem.W.codeIn K cdN "answers" = true)
    (kN : PySem.W.keepIn K (.ref fN) = true)
    : ∃ fd : FuncData, (∀ (s : Shared) (us : List Value), us.length = (["calls"] : List Str).length → BindsTo s fd ⟨us, []⟩ ((["calls"] : List Str).zip us)) ∧ ∀ base : Heap, K.In base → base.Ns mainGlobals mg → FnOk P w K mg base CX0 39 fa fd ["calls"] (spAnswers K) := by
  have e := hfa.symm.trans (PySem.W.mg_of X G aN)
  cases e
  have low : PySem.LowX.LowTxt K mg CR fI :=
    { gC := PySem.W.mg_of X G aC, cls := ⟨nm, q, N, bs, _, sn, sub, ab, col, dd, m0, m1, m2, m3, m5, xL, by decide +kernel⟩, sa := sa, ga := ga, gg := gg, noN := nb, iC := a0, tC := t0, kC := kC, exC := eC, tyC := tC, hdC := hC, te := exm_self eC iC tC sC,
      fn := ⟨_, _, _, _, _, _, _, _, _, _, _, _, _, _, l0, c0⟩ }
  have T : Txt K mg CR fI Cl aD aS aR :=
    { low := low
      c_EVERYTHING := ⟨_, PySem.W.mg_of X G c_EVERYTHING⟩
      c_NOTHING := ⟨_, PySem.W.mg_of X G c_NOTHING⟩
      c_NAMED := ⟨_, PySem.W.mg_of X G c_NAMED⟩
      c_BOTH := ⟨_, PySem.W.mg_of X G c_BOTH⟩
      c_EITHER := ⟨_, PySem.W.mg_of X G c_EITHER⟩
      c_NOT := ⟨_, PySem.W.mg_of X G c_NOT⟩
      c_SOME := ⟨_, PySem.W.mg_of X G c_SOME⟩
      c_ALL := ⟨_, PySem.W.mg_of X G c_ALL⟩
      c_WORDS := ⟨_, PySem.W.mg_of X G c_WORDS⟩
      c_NAMES := ⟨_, PySem.W.mg_of X G c_NAMES⟩
      c_ROLES := ⟨_, PySem.W.mg_of X G c_ROLES⟩
      c_NO_CONCEPT := ⟨_, PySem.W.mg_of X G c_NO_CONCEPT⟩
      c_MOST_ATOMS := ⟨_, PySem.W.mg_of X G c_MOST_ATOMS⟩
      c_MOST_AXIOMS := ⟨_, PySem.W.mg_of X G c_MOST_AXIOMS⟩
      c_MOST_THINGS := ⟨_, PySem.W.mg_of X G c_MOST_THINGS⟩
      c_MOST_SAID := ⟨_, PySem.W.mg_of X G c_MOST_SAID⟩
      c_MOST_TIES := ⟨_, PySem.W.mg_of X G c_MOST_TIES⟩
      c_NOT_SO := ⟨_, PySem.W.mg_of X G c_NOT_SO⟩
      c_NONE_SUCH := ⟨_, PySem.W.mg_of X G c_NONE_SUCH⟩
      c_NO_MODEL := ⟨_, PySem.W.mg_of X G c_NO_MODEL⟩
      c_NO_ROOM := ⟨_, PySem.W.mg_of X G c_NO_ROOM⟩
      b_len := PySem.W.mg_none_of X G b_len
      b_range := PySem.W.mg_none_of X G b_range
      b_all := PySem.W.mg_none_of X G b_all
      b_any := PySem.W.mg_none_of X G b_any
      b_int := PySem.W.mg_none_of X G b_int
      b_list := PySem.W.mg_none_of X G b_list
      b_zip := PySem.W.mg_none_of X G b_zip
      b_enumerate := PySem.W.mg_none_of X G b_enumerate
      cl := ⟨pg, hd, po, sH⟩
      nA := nA
      nN := nN
      nS := nS_
      nT := nT
      nAt := nAt
      nK := nK
      t_DEEDS := PySem.W.mg_of X G eD
      t_SIZES := PySem.W.mg_of X G eS
      t_ROWED := PySem.W.mg_of X G eR
      l_SIZES := sqT_mk lS (by show 14 ≤ sizeLine; rw [sizeLine_eq]; omega) (.cons ⟨_, rfl⟩ (.cons ⟨_, rfl⟩ (.cons ⟨_, rfl⟩ (.cons ⟨_, rfl⟩ (.cons ⟨_, rfl⟩ (.cons ⟨_, rfl⟩ (.cons ⟨_, rfl⟩ (.cons ⟨_, rfl⟩ (.cons ⟨_, rfl⟩ (.cons ⟨_, rfl⟩ (.cons ⟨_, rfl⟩ (.cons ⟨_, rfl⟩ (.cons ⟨_, rfl⟩ (.cons ⟨_, rfl⟩ (.nil)))))))))))))))
      l_ROWED := sqT_mk lR (by show 4 ≤ sizeLine; rw [sizeLine_eq]; omega) (.cons ⟨_, rfl⟩ (.cons ⟨_, rfl⟩ (.cons ⟨_, rfl⟩ (.cons ⟨_, rfl⟩ (.nil))))) }
  have S : DeedsAt K mg aD := ⟨g0, g1, g2, g3, g4, g5, g6, g7, g8, g9, g10, g11, g12, g13, sqT_mk lD (by show 14 ≤ sizeLine; rw [sizeLine_eq]; omega) (.cons rfl (.cons rfl (.cons rfl (.cons rfl (.cons rfl (.cons rfl (.cons rfl (.cons rfl (.cons rfl (.cons rfl (.cons rfl (.cons rfl (.cons rfl (.cons rfl (.nil))))))))))))))), PySem.W.mg_of X G g_0, PySem.W.mg_of X G g_1, PySem.W.mg_of X G g_2, PySem.W.mg_of X G g_3, PySem.W.mg_of X G g_4, PySem.W.mg_of X G g_5, PySem.W.mg_of X G g_6, PySem.W.mg_of X G g_7, PySem.W.mg_of X G g_8, PySem.W.mg_of X G g_9, PySem.W.mg_of X G g_10, PySem.W.mg_of X G g_11, PySem.W.mg_of X G g_12, PySem.W.mg_of X G g_13⟩
  have F1 := fun_mk (st := s_init) l1 c1 k1
  have b1 := F1.binds (ps := ["self"]) fun _ _ _ _ _ _ us hl => match us, hl with | [_], _ => rfl
  have FN := fun_mk (st := s_answers) lN cN kN
  refine ⟨PySem.W.fnOf "answers" "answers" (defArgs s_answers) (defBody s_answers) (defScope s_answers) .none kVN dcN pmN anN cdN ctN, fun s us hu => match us, hu with | [_], _ => .of_eq rfl, fun base _ _ => ?_⟩
  have DI : InitOk P w K mg base Cl := ⟨f1, _, PySem.W.mg_of X G aH, ⟨mk, a1, i1, kH⟩, b1, fn_init T F1⟩
  have D_number_below : DefOk P w K mg base (L2.CX P w) 3 "number_below" (spNB CR) := d_number_below T (d_number_below_.glob X G)
  have D_concept_from : DefOk P w K mg base (L2.CX P w) 35 "concept_from" (spCF CR 31) := d_concept_from T D_number_below (d_concept_from_.glob X G) 31
  have D_concepts_in : DefOk P w K mg base (L2.CX P w) 36 "concepts_in" (spCI CR) := d_concepts_in T D_concept_from (d_concepts_in_.glob X G)
  have D_is_modal : DefOk P w K mg base CX0 1 "is_modal" spModal := d_is_modal T (d_is_modal_.glob X G)
  have D_is_atom : DefOk P w K mg base CX0 2 "is_atom" spIsAtom := d_is_atom T D_is_modal (d_is_atom_.glob X G)
  have D_parts_of : DefOk P w K mg base CX0 2 "parts_of" spParts := d_parts_of T D_is_modal (d_parts_of_.glob X G)
  have D_atoms_in : DefOk P w K mg base CX0 33 "atoms_in" (spAtoms 30) := d_atoms_in D_parts_of D_is_atom (d_atoms_in_.glob X G) 30
  have D_with_atoms : DefOk P w K mg base CX0 34 "with_atoms" spWith := d_with_atoms T D_atoms_in (d_with_atoms_.glob X G)
  have D_holds : DefOk P w K mg base CX0 31 "holds" (spHolds 30) := d_holds T (d_holds_.glob X G) 30
  have D_insides : DefOk P w K mg base CX0 32 "insides" spIns := d_insides T D_is_modal D_holds (d_insides_.glob X G)
  have D_fits : DefOk P w K mg base CX0 2 "fits" spFits := d_fits T D_is_modal (d_fits_.glob X G)
  have D_is_met : DefOk P w K mg base CX0 3 "is_met" spMet := d_is_met D_fits (d_is_met_.glob X G)
  have D_is_borne : DefOk P w K mg base CX0 4 "is_borne" spBorne := d_is_borne T D_is_met (d_is_borne_.glob X G)
  have D_all_kinds : DefOk P w K mg base CX0 1 "all_kinds" spAllK := d_all_kinds (d_all_kinds_.glob X G)
  have D_keeps : DefOk P w K mg base CX0 32 "keeps" spKeeps := d_keeps T D_holds (d_keeps_.glob X G)
  have D_borne_ones : DefOk P w K mg base CX0 33 "borne_ones" spBO := d_borne_ones D_insides D_is_borne (d_borne_ones_.glob X G)
  have D_kinds_there : DefOk P w K mg base CX0 34 "kinds_there" spKT := d_kinds_there T D_all_kinds D_keeps D_borne_ones (d_kinds_there_.glob X G)
  have D_begin_anew : DefOk P w K mg base CX0 3 "begin_anew" (spBegin Cl) := d_begin_anew T DI (d_begin_anew_.glob X G)
  have D_reckon : DefOk P w K mg base CX0 35 "reckon" (spReckon Cl) := d_reckon T D_kinds_there (d_reckon_.glob X G)
  have D_bring : DefOk P w K mg base CX0 36 "bring" (spBring Cl) := d_bring T D_with_atoms D_reckon (d_bring_.glob X G)
  have D_needed_atoms : DefOk P w K mg base CX0 35 "needed_atoms" (spNeed Cl) := d_needed_atoms T D_with_atoms (d_needed_atoms_.glob X G)
  have D_falls_under : DefOk P w K mg base CX0 32 "falls_under" (spUnd Cl) := d_falls_under T D_holds (d_falls_under_.glob X G)
  have D_is_pair : DefOk P w K mg base CX0 33 "is_pair" (spPair Cl) := d_is_pair T D_falls_under (d_is_pair_.glob X G)
  have D_pairs_of : DefOk P w K mg base CX0 34 "pairs_of" (spPairs Cl) := d_pairs_of T D_is_pair (d_pairs_of_.glob X G)
  have D_is_so : DefOk P w K mg base CX0 32 "is_so" (spIsSo Cl) := d_is_so T D_holds (d_is_so_.glob X G)
  have D_are_tied : DefOk P w K mg base CX0 33 "are_tied" (spTied Cl) := d_are_tied T D_insides D_fits (d_are_tied_.glob X G)
  have D_placings : DefOk P w K mg base CX0 34 "placings" (spPl Cl) := d_placings T D_is_so D_are_tied (d_placings_.glob X G)
  have D_is_whole : DefOk P w K mg base CX0 35 "is_whole" (spWhole Cl) := d_is_whole T D_placings (d_is_whole_.glob X G)
  have D_surely : DefOk P w K mg base CX0 35 "surely" (spSure Cl) := d_surely T D_placings D_holds (d_surely_.glob X G)
  have D_look_thing : DefOk P w K mg base (L2.CX P w) 3 "look_thing" (spLT CR Cl) := d_look_thing T (d_look_thing_.glob X G)
  have D_look_room : DefOk P w K mg base (L2.CX P w) 35 "look_room" (spLR CR Cl) := d_look_room T D_with_atoms (d_look_room_.glob X G)
  have D_without : DefOk P w K mg base (L2.CX P w) 3 "without" (spWO CR) := d_without T (d_without_.glob X G)
  have D_changed : DefOk P w K mg base CX0 36 "changed" (spChg Cl) := d_changed T D_pairs_of D_reckon (d_changed_.glob X G)
  have D_begins : DefOk P w K mg base (L2.CX P w) 37 "begins" (spDeed CR Cl 0) := d_begins T D_begin_anew (d_begins_.glob X G)
  have D_line : DefOk P w K mg base (L2.CX P w) 37 "line" (spDeed CR Cl 1) := d_line T D_concepts_in D_look_room D_changed D_with_atoms (d_line_.glob X G)
  have D_drop : DefOk P w K mg base (L2.CX P w) 37 "drop" (spDeed CR Cl 2) := d_drop T D_without D_changed (d_drop_.glob X G)
  have D_thing : DefOk P w K mg base (L2.CX P w) 37 "thing" (spDeed CR Cl 3) := d_thing T (d_thing_.glob X G)
  have D_says : DefOk P w K mg base (L2.CX P w) 37 "says" (spDeed CR Cl 4) := d_says T D_concepts_in D_look_thing D_look_room D_bring (d_says_.glob X G)
  have D_unsay : DefOk P w K mg base (L2.CX P w) 37 "unsay" (spDeed CR Cl 5) := d_unsay T D_without (d_unsay_.glob X G)
  have D_tie : DefOk P w K mg base (L2.CX P w) 37 "tie" (spDeed CR Cl 6) := d_tie T D_look_thing (d_tie_.glob X G)
  have D_untie : DefOk P w K mg base (L2.CX P w) 37 "untie" (spDeed CR Cl 7) := d_untie T D_without (d_untie_.glob X G)
  have D_under : DefOk P w K mg base (L2.CX P w) 37 "under" (spDeed CR Cl 8) := d_under T D_concepts_in D_look_room D_bring D_falls_under (d_under_.glob X G)
  have D_is_surely : DefOk P w K mg base (L2.CX P w) 37 "is_surely" (spDeed CR Cl 9) := d_is_surely T D_concepts_in D_look_thing D_look_room D_is_whole D_bring D_surely (d_is_surely_.glob X G)
  have D_whole : DefOk P w K mg base (L2.CX P w) 37 "whole" (spDeed CR Cl 10) := d_whole T D_is_whole (d_whole_.glob X G)
  have D_pairs : DefOk P w K mg base (L2.CX P w) 37 "pairs" (spDeed CR Cl 11) := d_pairs T D_pairs_of (d_pairs_.glob X G)
  have D_state : DefOk P w K mg base (L2.CX P w) 37 "state" (spDeed CR Cl 12) := d_state T (d_state_.glob X G)
  have D_tidy : DefOk P w K mg base (L2.CX P w) 37 "tidy" (spDeed CR Cl 13) := d_tidy T D_needed_atoms D_reckon (d_tidy_.glob X G)
  have D_split_calls : DefOk P w K mg base CX0 1 "split_calls" (spSplit K) := d_split_calls T (d_split_calls_.glob X G)
  have DS : DeedsOk P w K mg base CR Cl aD := deeds_ok S D_begins D_line D_drop D_thing D_says D_unsay D_tie D_untie D_under D_is_surely D_whole D_pairs D_state D_tidy
  have D_answer : DefOk P w K mg base CX0 38 "answer" (spAnswer Cl) := d_answer T DS (d_answer_.glob X G)
  exact fn_answers T DI D_split_calls D_answer FN
end KC

/-! ## KcMain -/
open PySem PySem.W PyProof.Rows
set_option maxRecDepth 100000 in
set_option maxHeartbeats 16000000 in
theorem PySem.Challenge.cw_keptconcepts_s01_answers_holds : PySem.Challenge.rw_keptconcepts_s01_answers.Holds := by
  w_on; k_headS; (case hw => exact ⟨[.list [.int 0]], by decide +kernel, by decide +kernel⟩)
  k_fillS
  refine L2.walk_specK (r := PySem.Challenge.rw_keptconcepts_s01_answers) (k := 39) (CX := L2.CX0) (ps := ["calls"]) (sp := KC.spAnswers) (by decide +kernel) rfl rfl ⟨rfl, by decide, by decide⟩ (fun w h Y => PySem.W.kIn_of Y) ?F ?S (fun _ _ _ _ z => z)
  case F =>
    intro w mg fa h Y KX G hmg
    refine' KC.all_mk KX G hmg ?aC ?xL ?sa ?ga ?gg ?nb ?a0 ?t0 ?l0 ?c0 ?kC ?eC ?tC ?hC ?iC ?sC ?aH ?pg ?hd ?po ?sH ?mk ?kH ?a1 ?i1 ?l1 ?c1 ?k1 ?nA ?nN ?nS_ ?nT ?nAt ?nK ?c_EVERYTHING ?c_NOTHING ?c_NAMED ?c_BOTH ?c_EITHER ?c_NOT ?c_SOME ?c_ALL ?c_WORDS ?c_NAMES ?c_ROLES ?c_NO_CONCEPT ?c_MOST_ATOMS ?c_MOST_AXIOMS ?c_MOST_THINGS ?c_MOST_SAID ?c_MOST_TIES ?c_NOT_SO ?c_NONE_SUCH ?c_NO_MODEL ?c_NO_ROOM ?b_len ?b_range ?b_all ?b_any ?b_int ?b_list ?b_zip ?b_enumerate ?eD ?eS ?eR ?lD ?lS ?lR ?g_0 ?g_1 ?g_2 ?g_3 ?g_4 ?g_5 ?g_6 ?g_7 ?g_8 ?g_9 ?g_10 ?g_11 ?g_12 ?g_13 ?d_number_below_ ?d_concept_from_ ?d_concepts_in_ ?d_is_modal_ ?d_is_atom_ ?d_parts_of_ ?d_atoms_in_ ?d_with_atoms_ ?d_holds_ ?d_insides_ ?d_fits_ ?d_is_met_ ?d_is_borne_ ?d_all_kinds_ ?d_keeps_ ?d_borne_ones_ ?d_kinds_there_ ?d_begin_anew_ ?d_reckon_ ?d_bring_ ?d_needed_atoms_ ?d_falls_under_ ?d_is_pair_ ?d_pairs_of_ ?d_is_so_ ?d_are_tied_ ?d_placings_ ?d_is_whole_ ?d_surely_ ?d_look_thing_ ?d_look_room_ ?d_without_ ?d_changed_ ?d_begins_ ?d_line_ ?d_drop_ ?d_thing_ ?d_says_ ?d_unsay_ ?d_tie_ ?d_untie_ ?d_under_ ?d_is_surely_ ?d_whole_ ?d_pairs_ ?d_state_ ?d_tidy_ ?d_split_calls_ ?d_answer_ ?aN ?lN ?cN ?kN
    (case aC => k_is)
    (case xL => k_is)
    (case sa => k_is)
    (case ga => k_is)
    (case gg => k_is)
    (case nb => k_is)
    (case a0 => k_is)
    (case t0 => k_is)
    (case l0 => k_is)
    (case c0 => k_is)
    (case kC => k_is)
    (case eC => k_is)
    (case tC => k_is)
    (case hC => k_is)
    (case iC => k_is)
    (case sC => first | rfl | k_is)
    (case aH => k_is)
    (case pg => k_is)
    (case hd => k_is)
    (case po => k_is)
    (case sH => k_is)
    (case mk => k_is)
    (case kH => k_is)
    (case a1 => k_is)
    (case i1 => k_is)
    (case l1 => k_is)
    (case c1 => k_is)
    (case k1 => k_is)
    (case nA => k_is)
    (case nN => k_is)
    (case nS_ => k_is)
    (case nT => k_is)
    (case nAt => k_is)
    (case nK => k_is)
    (case c_EVERYTHING => k_is)
    (case c_NOTHING => k_is)
    (case c_NAMED => k_is)
    (case c_BOTH => k_is)
    (case c_EITHER => k_is)
    (case c_NOT => k_is)
    (case c_SOME => k_is)
    (case c_ALL => k_is)
    (case c_WORDS => k_is)
    (case c_NAMES => k_is)
    (case c_ROLES => k_is)
    (case c_NO_CONCEPT => k_is)
    (case c_MOST_ATOMS => k_is)
    (case c_MOST_AXIOMS => k_is)
    (case c_MOST_THINGS => k_is)
    (case c_MOST_SAID => k_is)
    (case c_MOST_TIES => k_is)
    (case c_NOT_SO => k_is)
    (case c_NONE_SUCH => k_is)
    (case c_NO_MODEL => k_is)
    (case c_NO_ROOM => k_is)
    (case b_len => k_is)
    (case b_range => k_is)
    (case b_all => k_is)
    (case b_any => k_is)
    (case b_int => k_is)
    (case b_list => k_is)
    (case b_zip => k_is)
    (case b_enumerate => k_is)
    (case eD => k_is)
    (case eS => k_is)
    (case eR => k_is)
    (case lD => k_is)
    (case lS => k_is)
    (case lR => k_is)
    (case g_0 => k_is)
    (case g_1 => k_is)
    (case g_2 => k_is)
    (case g_3 => k_is)
    (case g_4 => k_is)
    (case g_5 => k_is)
    (case g_6 => k_is)
    (case g_7 => k_is)
    (case g_8 => k_is)
    (case g_9 => k_is)
    (case g_10 => k_is)
    (case g_11 => k_is)
    (case g_12 => k_is)
    (case g_13 => k_is)
    (case d_number_below_ => (refine' KC.topDef ?a ?l ?c ?k; (case a => k_is); (case l => k_is); (case c => k_is); (case k => k_is)))
    (case d_concept_from_ => (refine' KC.topDef ?a ?l ?c ?k; (case a => k_is); (case l => k_is); (case c => k_is); (case k => k_is)))
    (case d_concepts_in_ => (refine' KC.topDef ?a ?l ?c ?k; (case a => k_is); (case l => k_is); (case c => k_is); (case k => k_is)))
    (case d_is_modal_ => (refine' KC.topDef ?a ?l ?c ?k; (case a => k_is); (case l => k_is); (case c => k_is); (case k => k_is)))
    (case d_is_atom_ => (refine' KC.topDef ?a ?l ?c ?k; (case a => k_is); (case l => k_is); (case c => k_is); (case k => k_is)))
    (case d_parts_of_ => (refine' KC.topDef ?a ?l ?c ?k; (case a => k_is); (case l => k_is); (case c => k_is); (case k => k_is)))
    (case d_atoms_in_ => (refine' KC.topDef ?a ?l ?c ?k; (case a => k_is); (case l => k_is); (case c => k_is); (case k => k_is)))
    (case d_with_atoms_ => (refine' KC.topDef ?a ?l ?c ?k; (case a => k_is); (case l => k_is); (case c => k_is); (case k => k_is)))
    (case d_holds_ => (refine' KC.topDef ?a ?l ?c ?k; (case a => k_is); (case l => k_is); (case c => k_is); (case k => k_is)))
    (case d_insides_ => (refine' KC.topDef ?a ?l ?c ?k; (case a => k_is); (case l => k_is); (case c => k_is); (case k => k_is)))
    (case d_fits_ => (refine' KC.topDef ?a ?l ?c ?k; (case a => k_is); (case l => k_is); (case c => k_is); (case k => k_is)))
    (case d_is_met_ => (refine' KC.topDef ?a ?l ?c ?k; (case a => k_is); (case l => k_is); (case c => k_is); (case k => k_is)))
    (case d_is_borne_ => (refine' KC.topDef ?a ?l ?c ?k; (case a => k_is); (case l => k_is); (case c => k_is); (case k => k_is)))
    (case d_all_kinds_ => (refine' KC.topDef ?a ?l ?c ?k; (case a => k_is); (case l => k_is); (case c => k_is); (case k => k_is)))
    (case d_keeps_ => (refine' KC.topDef ?a ?l ?c ?k; (case a => k_is); (case l => k_is); (case c => k_is); (case k => k_is)))
    (case d_borne_ones_ => (refine' KC.topDef ?a ?l ?c ?k; (case a => k_is); (case l => k_is); (case c => k_is); (case k => k_is)))
    (case d_kinds_there_ => (refine' KC.topDef ?a ?l ?c ?k; (case a => k_is); (case l => k_is); (case c => k_is); (case k => k_is)))
    (case d_begin_anew_ => (refine' KC.topDef ?a ?l ?c ?k; (case a => k_is); (case l => k_is); (case c => k_is); (case k => k_is)))
    (case d_reckon_ => (refine' KC.topDef ?a ?l ?c ?k; (case a => k_is); (case l => k_is); (case c => k_is); (case k => k_is)))
    (case d_bring_ => (refine' KC.topDef ?a ?l ?c ?k; (case a => k_is); (case l => k_is); (case c => k_is); (case k => k_is)))
    (case d_needed_atoms_ => (refine' KC.topDef ?a ?l ?c ?k; (case a => k_is); (case l => k_is); (case c => k_is); (case k => k_is)))
    (case d_falls_under_ => (refine' KC.topDef ?a ?l ?c ?k; (case a => k_is); (case l => k_is); (case c => k_is); (case k => k_is)))
    (case d_is_pair_ => (refine' KC.topDef ?a ?l ?c ?k; (case a => k_is); (case l => k_is); (case c => k_is); (case k => k_is)))
    (case d_pairs_of_ => (refine' KC.topDef ?a ?l ?c ?k; (case a => k_is); (case l => k_is); (case c => k_is); (case k => k_is)))
    (case d_is_so_ => (refine' KC.topDef ?a ?l ?c ?k; (case a => k_is); (case l => k_is); (case c => k_is); (case k => k_is)))
    (case d_are_tied_ => (refine' KC.topDef ?a ?l ?c ?k; (case a => k_is); (case l => k_is); (case c => k_is); (case k => k_is)))
    (case d_placings_ => (refine' KC.topDef ?a ?l ?c ?k; (case a => k_is); (case l => k_is); (case c => k_is); (case k => k_is)))
    (case d_is_whole_ => (refine' KC.topDef ?a ?l ?c ?k; (case a => k_is); (case l => k_is); (case c => k_is); (case k => k_is)))
    (case d_surely_ => (refine' KC.topDef ?a ?l ?c ?k; (case a => k_is); (case l => k_is); (case c => k_is); (case k => k_is)))
    (case d_look_thing_ => (refine' KC.topDef ?a ?l ?c ?k; (case a => k_is); (case l => k_is); (case c => k_is); (case k => k_is)))
    (case d_look_room_ => (refine' KC.topDef ?a ?l ?c ?k; (case a => k_is); (case l => k_is); (case c => k_is); (case k => k_is)))
    (case d_without_ => (refine' KC.topDef ?a ?l ?c ?k; (case a => k_is); (case l => k_is); (case c => k_is); (case k => k_is)))
    (case d_changed_ => (refine' KC.topDef ?a ?l ?c ?k; (case a => k_is); (case l => k_is); (case c => k_is); (case k => k_is)))
    (case d_begins_ => (refine' KC.topDef ?a ?l ?c ?k; (case a => k_is); (case l => k_is); (case c => k_is); (case k => k_is)))
    (case d_line_ => (refine' KC.topDef ?a ?l ?c ?k; (case a => k_is); (case l => k_is); (case c => k_is); (case k => k_is)))
    (case d_drop_ => (refine' KC.topDef ?a ?l ?c ?k; (case a => k_is); (case l => k_is); (case c => k_is); (case k => k_is)))
    (case d_thing_ => (refine' KC.topDef ?a ?l ?c ?k; (case a => k_is); (case l => k_is); (case c => k_is); (case k => k_is)))
    (case d_says_ => (refine' KC.topDef ?a ?l ?c ?k; (case a => k_is); (case l => k_is); (case c => k_is); (case k => k_is)))
    (case d_unsay_ => (refine' KC.topDef ?a ?l ?c ?k; (case a => k_is); (case l => k_is); (case c => k_is); (case k => k_is)))
    (case d_tie_ => (refine' KC.topDef ?a ?l ?c ?k; (case a => k_is); (case l => k_is); (case c => k_is); (case k => k_is)))
    (case d_untie_ => (refine' KC.topDef ?a ?l ?c ?k; (case a => k_is); (case l => k_is); (case c => k_is); (case k => k_is)))
    (case d_under_ => (refine' KC.topDef ?a ?l ?c ?k; (case a => k_is); (case l => k_is); (case c => k_is); (case k => k_is)))
    (case d_is_surely_ => (refine' KC.topDef ?a ?l ?c ?k; (case a => k_is); (case l => k_is); (case c => k_is); (case k => k_is)))
    (case d_whole_ => (refine' KC.topDef ?a ?l ?c ?k; (case a => k_is); (case l => k_is); (case c => k_is); (case k => k_is)))
    (case d_pairs_ => (refine' KC.topDef ?a ?l ?c ?k; (case a => k_is); (case l => k_is); (case c => k_is); (case k => k_is)))
    (case d_state_ => (refine' KC.topDef ?a ?l ?c ?k; (case a => k_is); (case l => k_is); (case c => k_is); (case k => k_is)))
    (case d_tidy_ => (refine' KC.topDef ?a ?l ?c ?k; (case a => k_is); (case l => k_is); (case c => k_is); (case k => k_is)))
    (case d_split_calls_ => (refine' KC.topDef ?a ?l ?c ?k; (case a => k_is); (case l => k_is); (case c => k_is); (case k => k_is)))
    (case d_answer_ => (refine' KC.topDef ?a ?l ?c ?k; (case a => k_is); (case l => k_is); (case c => k_is); (case k => k_is)))
    (case aN => k_is)
    (case lN => k_is)
    (case cN => k_is)
    (case kN => k_is)
  case S =>
    intro K H xs a hO hwi hask hx
    cases hx with
    | cons h1 h2 =>
      cases h2
      cases h1 with
      | lst hs ha =>
        have e := L2.ints_dw a.1 _ ha
        subst e
        exact ⟨_, a.1, rfl, hs, hask, fun H' p hp => .lst (L2.SqL.of hp) (L2.dw_ints _)⟩
