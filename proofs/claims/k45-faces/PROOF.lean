import PyProof.Rows.All
import HandS.ForMost
import HandS.Deep
import HandS.Conv
import HandS.Style
import HandS.Rev
import HandS.IsInst
import HandS.Codes
import KE.SortData
import KE.KIndexOf
import PyProof.TupleOfSeq
import PyProof.Transfer
import PySem.Challenge.RW_trellis_k45_faces
section
set_option linter.all false
namespace FM
/-! The plain law: orbits of a permutation of the arrows, and the mirror. Core Lean alone. -/
section gen
variable {α : Type} [DecidableEq α]

theorem least_of {P : Nat → Prop} : ∀ n, P n → ∃ m, m ≤ n ∧ P m ∧ ∀ j, j < m → ¬ P j := by
  intro n
  induction n using Nat.strongRecOn with
  | _ n ih =>
    intro h
    by_cases q : ∃ j, j < n ∧ P j
    · obtain ⟨j, hj, pj⟩ := q
      obtain ⟨m, h1, h2, h3⟩ := ih j hj pj
      exact ⟨m, by omega, h2, h3⟩
    · exact ⟨n, Nat.le_refl _, h, fun j hj pj => q ⟨j, hj, pj⟩⟩

theorem len_le_of_sub : ∀ (l A : List α), l.Nodup → (∀ x ∈ l, x ∈ A) → l.length ≤ A.length
  | [], _, _, _ => Nat.zero_le _
  | x :: t, A, hn, hs => by
    have hx : x ∈ A := hs x List.mem_cons_self
    obtain ⟨hxt, ht⟩ := List.nodup_cons.mp hn
    have ih := len_le_of_sub t (A.erase x) ht fun y hy => by
      have hy' : y ∈ A := hs y (List.mem_cons_of_mem _ hy)
      have hne : y ≠ x := fun e => hxt (e ▸ hy)
      exact (List.mem_erase_of_ne hne).mpr hy'
    rw [List.length_erase_of_mem hx] at ih
    have : 0 < A.length := List.length_pos_of_mem hx
    simp only [List.length_cons]
    omega

/-- f applied i times -/
def it (f : α → α) : Nat → α → α
  | 0, x => x
  | i + 1, x => it f i (f x)
theorem it_out (f : α → α) : ∀ (i : Nat) (x : α), it f (i + 1) x = f (it f i x)
  | 0, _ => rfl
  | i + 1, x => it_out f i (f x)
theorem it_add (f : α → α) : ∀ (i j : Nat) (x : α), it f (i + j) x = it f i (it f j x)
  | 0, j, x => by rw [Nat.zero_add]; rfl
  | i + 1, j, x => by
    rw [show i + 1 + j = (i + j) + 1 by omega, it_out f (i + j) x, it_add f i j x, it_out f i (it f j x)]

/-- f turns the list A round in itself -/
structure Pm (A : List α) (f : α → α) : Prop where
  maps : ∀ x ∈ A, f x ∈ A
  inj : ∀ x ∈ A, ∀ y ∈ A, f x = f y → x = y
  nd : A.Nodup
theorem Pm.it_mem {A : List α} {f : α → α} (p : Pm A f) : ∀ (i : Nat) {x : α}, x ∈ A → it f i x ∈ A
  | 0, _, h => h
  | i + 1, _, h => p.it_mem i (p.maps _ h)
theorem Pm.it_inj {A : List α} {f : α → α} (p : Pm A f) : ∀ (i : Nat) {x y : α}, x ∈ A → y ∈ A → it f i x = it f i y → x = y
  | 0, _, _, _, _, e => e
  | i + 1, x, y, hx, hy, e => p.inj x hx y hy (p.it_inj i (p.maps _ hx) (p.maps _ hy) e)

def IsPer (f : α → α) (a : α) (p : Nat) : Prop := 1 ≤ p ∧ it f p a = a ∧ ∀ j, 1 ≤ j → j < p → it f j a ≠ a
theorem Pm.has_per {A : List α} {f : α → α} (p : Pm A f) {a : α} (ha : a ∈ A) : ∃ m, m ≤ A.length ∧ IsPer f a m := by
  have ex : ∃ m, 1 ≤ m ∧ m ≤ A.length ∧ it f m a = a := by
    apply Classical.byContradiction
    intro hno
    have hne : ∀ m, 1 ≤ m → m ≤ A.length → it f m a ≠ a := fun m h1 h2 e => hno ⟨m, h1, h2, e⟩
    have nd : ((List.range (A.length + 1)).map fun i => it f i a).Nodup := by
      rw [List.Nodup, List.pairwise_map]
      have hlt : (List.range (A.length + 1)).Pairwise fun a b => a < b ∧ b < A.length + 1 := by
        have h1 := @List.pairwise_lt_range (A.length + 1)
        refine (List.Pairwise.and_mem.mp h1).imp ?_
        intro x y h
        exact ⟨h.2.2, List.mem_range.mp h.2.1⟩
      refine hlt.imp ?_
      intro i j h e
      have e2 : it f j a = it f i (it f (j - i) a) := by
        rw [← it_add]
        congr 1
        omega
      rw [e2] at e
      have e3 := p.it_inj i ha (p.it_mem _ ha) e
      exact hne (j - i) (by omega) (by omega) e3.symm
    have := len_le_of_sub _ A nd fun x hx => by
      obtain ⟨i, _, rfl⟩ := List.mem_map.mp hx
      exact p.it_mem i ha
    rw [List.length_map, List.length_range] at this
    omega
  obtain ⟨m, h1, h2, h3⟩ := ex
  obtain ⟨k, k1, k2, k3⟩ := least_of (P := fun m => 1 ≤ m ∧ it f m a = a) m ⟨h1, h3⟩
  exact ⟨k, by omega, k2.1, k2.2, fun j j1 j2 e => k3 j j2 ⟨j1, e⟩⟩

open Classical in
noncomputable def per (f : α → α) (a : α) : Nat := if h : ∃ m, IsPer f a m then h.choose else 1
theorem per_is {f : α → α} {a : α} (h : ∃ m, IsPer f a m) : IsPer f a (per f a) := by
  unfold per
  rw [dif_pos h]
  exact h.choose_spec
theorem IsPer.uniq {f : α → α} {a : α} {p q : Nat} (h : IsPer f a p) (h' : IsPer f a q) : p = q := by
  rcases Nat.lt_trichotomy p q with l | e | l
  · exact absurd h.2.1 (h'.2.2 p h.1 l)
  · exact e
  · exact absurd h'.2.1 (h.2.2 q h'.1 l)
theorem Pm.per_ok {A : List α} {f : α → α} (p : Pm A f) {a : α} (ha : a ∈ A) : IsPer f a (per f a) ∧ per f a ≤ A.length := by
  obtain ⟨m, h1, h2⟩ := p.has_per ha
  have h3 := per_is ⟨m, h2⟩
  refine ⟨h3, ?_⟩
  rw [h3.uniq h2]
  exact h1

/-- the walk so far: i + 1 places -/
def pre (f : α → α) (a : α) (k : Nat) : List α := (List.range k).map fun i => it f i a
theorem pre_length (f : α → α) (a : α) (k : Nat) : (pre f a k).length = k := by unfold pre; rw [List.length_map, List.length_range]
theorem pre_succ (f : α → α) (a : α) (k : Nat) : pre f a (k + 1) = pre f a k ++ [it f k a] := by
  unfold pre
  rw [List.range_succ, List.map_append]
  rfl
theorem pre_get (f : α → α) (a : α) {k i : Nat} (h : i < k) : (pre f a k)[i]? = some (it f i a) := by
  unfold pre
  rw [List.getElem?_map, List.getElem?_range h]
  rfl
/-- the whole walk -/
noncomputable def orb (f : α → α) (a : α) : List α := pre f a (per f a)

theorem it_mul {f : α → α} {a : α} {p : Nat} (h : it f p a = a) : ∀ k, it f (k * p) a = a
  | 0 => by rw [Nat.zero_mul]; rfl
  | k + 1 => by rw [Nat.succ_mul, it_add, h]; exact it_mul h k
theorem it_mod {f : α → α} {a : α} {p : Nat} (h : it f p a = a) (i : Nat) : it f i a = it f (i % p) a := by
  have e : i = i % p + (i / p) * p := by
    have := Nat.mod_add_div i p
    rw [Nat.mul_comm]
    omega
  rw [show it f i a = it f (i % p + (i / p) * p) a by rw [← e], it_add, it_mul h]

section pm
variable {A : List α} {f : α → α}
theorem Pm.mem_orb (p : Pm A f) {a : α} (ha : a ∈ A) {x : α} : x ∈ orb f a ↔ ∃ i, x = it f i a := by
  obtain ⟨⟨h1, h2, h3⟩, _⟩ := p.per_ok ha
  unfold orb pre
  rw [List.mem_map]
  constructor
  · rintro ⟨i, _, e⟩
    exact ⟨i, e.symm⟩
  · rintro ⟨i, e⟩
    refine ⟨i % per f a, List.mem_range.mpr (Nat.mod_lt _ h1), ?_⟩
    rw [e, ← it_mod h2]
theorem Pm.orb_sub (p : Pm A f) {a : α} (ha : a ∈ A) : ∀ x ∈ orb f a, x ∈ A := fun x hx => by
  obtain ⟨i, e⟩ := (p.mem_orb ha).mp hx
  rw [e]
  exact p.it_mem i ha
theorem Pm.self_orb (p : Pm A f) {a : α} (ha : a ∈ A) : a ∈ orb f a := (p.mem_orb ha).mpr ⟨0, rfl⟩
theorem Pm.orb_nd (p : Pm A f) {a : α} (ha : a ∈ A) : (orb f a).Nodup := by
  obtain ⟨⟨h1, h2, h3⟩, _⟩ := p.per_ok ha
  unfold orb pre
  rw [List.Nodup, List.pairwise_map]
  have hlt : (List.range (per f a)).Pairwise fun i j => i < j ∧ j < per f a := by
    have h1 := @List.pairwise_lt_range (per f a)
    refine (List.Pairwise.and_mem.mp h1).imp ?_
    intro x y h
    exact ⟨h.2.2, List.mem_range.mp h.2.1⟩
  refine hlt.imp ?_
  intro i j h e
  have e2 : it f j a = it f i (it f (j - i) a) := by
    rw [← it_add]
    congr 1
    omega
  rw [e2] at e
  exact h3 (j - i) (by omega) (by omega) (p.it_inj i ha (p.it_mem _ ha) e).symm
theorem Pm.orb_len (p : Pm A f) {a : α} (ha : a ∈ A) : (orb f a).length ≤ A.length := by
  unfold orb
  rw [pre_length]
  exact (p.per_ok ha).2
theorem Pm.back (p : Pm A f) {a x : α} (ha : a ∈ A) (h : ∃ i, x = it f i a) : ∃ i, a = it f i x := by
  obtain ⟨i, e⟩ := h
  obtain ⟨⟨h1, h2, h3⟩, _⟩ := p.per_ok ha
  refine ⟨i * per f a - i, ?_⟩
  have hle : i ≤ i * per f a := Nat.le_mul_of_pos_right i h1
  rw [e, ← it_add, Nat.sub_add_cancel hle, it_mul h2]
theorem Pm.orb_perm (p : Pm A f) {a x : α} (ha : a ∈ A) (h : x ∈ orb f a) : (orb f x).Perm (orb f a) := by
  have hx : x ∈ A := p.orb_sub ha x h
  rw [List.perm_ext_iff_of_nodup (p.orb_nd hx) (p.orb_nd ha)]
  intro y
  rw [p.mem_orb hx, p.mem_orb ha]
  have hf := (p.mem_orb ha).mp h
  constructor
  · rintro ⟨i, e⟩
    obtain ⟨j, e'⟩ := hf
    exact ⟨i + j, by rw [e, e', it_add]⟩
  · rintro ⟨i, e⟩
    obtain ⟨j, e'⟩ := p.back ha hf
    exact ⟨i + j, by rw [it_add, ← e', e]⟩
end pm

/-- the walks, one after another -/
noncomputable def off (f : α → α) (a : α) (l : List α) : List α := l.filter fun x => decide (x ∉ orb f a)
noncomputable def fc (f : α → α) : List α → List (List α)
  | [] => []
  | a :: l => orb f a :: fc f (off f a l)
termination_by l => l.length
decreasing_by
  simp only [List.length_cons]
  exact Nat.lt_succ_of_le (List.length_filter_le _ _)
theorem fc_nil (f : α → α) : fc f [] = [] := by rw [fc]
theorem fc_cons (f : α → α) (a : α) (l : List α) : fc f (a :: l) = orb f a :: fc f (l.filter fun x => decide (x ∉ orb f a)) := by
  rw [fc]
  rfl

section pm
variable {A : List α} {f : α → α}
theorem Pm.filter_head (p : Pm A f) {a : α} {l : List α} (ha : a ∈ A) : ((a :: l).filter fun x => decide (x ∉ orb f a)) = l.filter fun x => decide (x ∉ orb f a) := by
  rw [List.filter_cons]
  rw [if_neg (by simp [p.self_orb ha])]
theorem fc_ind {P : List α → List (List α) → Prop} (h0 : P [] []) (h1 : ∀ a l, P (l.filter fun x => decide (x ∉ orb f a)) (fc f (l.filter fun x => decide (x ∉ orb f a))) → P (a :: l) (fc f (a :: l))) : ∀ (n : Nat) (l : List α), l.length ≤ n → P l (fc f l)
  | _, [], _ => by rw [fc_nil]; exact h0
  | 0, a :: l, h => by simp at h
  | n + 1, a :: l, h => h1 a l (fc_ind h0 h1 n _ (by
      have := List.length_filter_le (fun x => decide (x ∉ orb f a)) l
      simp only [List.length_cons] at h
      omega))
theorem Pm.fc_mem (p : Pm A f) (l : List α) : (∀ x ∈ l, x ∈ A) → ∀ w ∈ fc f l, ∃ a ∈ l, w = orb f a := by
  refine fc_ind (f := f) (P := fun l L => (∀ x ∈ l, x ∈ A) → ∀ w ∈ L, ∃ a ∈ l, w = orb f a) ?_ ?_ l.length l (Nat.le_refl _)
  · intro _ w hw
    cases hw
  · intro a l ih hs w hw
    rw [fc_cons] at hw
    rcases List.mem_cons.mp hw with e | hw
    · exact ⟨a, List.mem_cons_self, e⟩
    · obtain ⟨b, hb, e⟩ := ih (fun x hx => hs x (List.mem_cons_of_mem _ (List.mem_filter.mp hx).1)) w hw
      exact ⟨b, List.mem_cons_of_mem _ (List.mem_filter.mp hb).1, e⟩
theorem Pm.fc_cover (p : Pm A f) (l : List α) : (∀ x ∈ l, x ∈ A) → ∀ x ∈ l, ∃ w ∈ fc f l, x ∈ w := by
  refine fc_ind (f := f) (P := fun l L => (∀ x ∈ l, x ∈ A) → ∀ x ∈ l, ∃ w ∈ L, x ∈ w) ?_ ?_ l.length l (Nat.le_refl _)
  · intro _ w hw
    cases hw
  · intro a l ih hs x hx
    rw [fc_cons]
    have ha := hs a List.mem_cons_self
    by_cases q : x ∈ orb f a
    · exact ⟨_, List.mem_cons_self, q⟩
    · rcases List.mem_cons.mp hx with e | hx
      · exact absurd (by rw [e]; exact p.self_orb ha) q
      · obtain ⟨w, hw, h⟩ := ih (fun x hx => hs x (List.mem_cons_of_mem _ (List.mem_filter.mp hx).1)) x (List.mem_filter.mpr ⟨hx, by simpa using q⟩)
        exact ⟨w, List.mem_cons_of_mem _ hw, h⟩
theorem Pm.fc_len (p : Pm A f) (l : List α) : (fc f l).length ≤ l.length := by
  refine fc_ind (f := f) (P := fun l L => L.length ≤ l.length) ?_ ?_ l.length l (Nat.le_refl _)
  · exact Nat.le_refl _
  · intro a l ih
    rw [fc_cons, List.length_cons, List.length_cons]
    have := List.length_filter_le (fun x => decide (x ∉ orb f a)) l
    omega
/-- a function of walks that tells them apart by their items makes a list without repetitions -/
theorem Pm.fc_nodup {β : Type} (p : Pm A f) (S : List α → β) (hS : ∀ a ∈ A, ∀ b ∈ A, S (orb f a) = S (orb f b) → b ∈ orb f a) (l : List α) : (∀ x ∈ l, x ∈ A) → ((fc f l).map S).Nodup := by
  refine fc_ind (f := f) (P := fun l L => (∀ x ∈ l, x ∈ A) → (L.map S).Nodup) ?_ ?_ l.length l (Nat.le_refl _)
  · intro _
    exact List.nodup_nil
  · intro a l ih hs
    rw [fc_cons, List.map_cons, List.nodup_cons]
    have ha := hs a List.mem_cons_self
    have hs' : ∀ x ∈ l.filter (fun x => decide (x ∉ orb f a)), x ∈ A := fun x hx => hs x (List.mem_cons_of_mem _ (List.mem_filter.mp hx).1)
    refine ⟨fun hm => ?_, ih hs'⟩
    obtain ⟨w, hw, e⟩ := List.mem_map.mp hm
    obtain ⟨b, hb, rfl⟩ := p.fc_mem _ hs' w hw
    have hbn : b ∉ orb f a := by simpa using (List.mem_filter.mp hb).2
    exact hbn (hS a ha b (hs' b hb) e.symm)
end pm

/-! ### sorted lists -/
structure Tot (le : α → α → Bool) : Prop where
  tot : ∀ a b, (le a b || le b a) = true
  tr : ∀ a b c, le a b = true → le b c = true → le a c = true
  anti : ∀ a b, le a b = true → le b a = true → a = b
theorem Tot.perm_eq {le : α → α → Bool} (T : Tot le) {l m : List α} (h : l.Perm m) : l.mergeSort le = m.mergeSort le :=
  List.Perm.eq_of_pairwise (le := fun a b => le a b = true) (fun a b _ _ h1 h2 => T.anti a b h1 h2) (List.pairwise_mergeSort T.tr T.tot l) (List.pairwise_mergeSort T.tr T.tot m)
    ((List.mergeSort_perm l le).trans (h.trans (List.mergeSort_perm m le).symm))

/-! ### the mirror -/
theorem mirror_law {A : List α} {f g sw : α → α} {le : α → α → Bool} {le2 : List α → List α → Bool} (pf : Pm A f) (pg : Pm A g) (T : Tot le) (T2 : Tot le2) (hsw : ∀ x ∈ A, sw x ∈ A) (hss : ∀ x ∈ A, sw (sw x) = x)
    (h1 : ∀ x ∈ A, g (sw (f x)) = sw x) (h2 : ∀ x ∈ A, f (sw (g x)) = sw x) :
    ((fc g A).map fun w => w.mergeSort le).mergeSort le2 = ((fc f A).map fun w => (w.map sw).mergeSort le).mergeSort le2 := by
  have turn : ∀ {f g : α → α}, Pm A f → Pm A g → (∀ x ∈ A, g (sw (f x)) = sw x) → ∀ i x, x ∈ A → it g i (sw (it f i x)) = sw x := by
    intro f g pf pg h i
    induction i with
    | zero => intro x _; rfl
    | succ i ih =>
      intro x hx
      rw [it_out g, show it f (i + 1) x = it f i (f x) from rfl, ih (f x) (pf.maps x hx), h x hx]
  have mem1 : ∀ {f g : α → α}, Pm A f → Pm A g → (∀ x ∈ A, g (sw (f x)) = sw x) → ∀ x ∈ A, ∀ y ∈ orb f x, sw y ∈ orb g (sw x) := by
    intro f g pf pg h x hx y hy
    obtain ⟨i, e⟩ := (pf.mem_orb hx).mp hy
    have hyA : y ∈ A := pf.orb_sub hx y hy
    have e2 := turn pf pg h i x hx
    rw [← e] at e2
    exact (pg.mem_orb (hsw x hx)).mpr (pg.back (hsw y hyA) ⟨i, e2.symm⟩)
  have perm : ∀ x ∈ A, ((orb f x).map sw).Perm (orb g (sw x)) := by
    intro x hx
    have nd : ((orb f x).map sw).Nodup := by
      rw [List.Nodup, List.pairwise_map]
      have hh : (orb f x).Pairwise fun a b => a ≠ b := pf.orb_nd hx
      refine (List.Pairwise.and_mem.mp hh).imp ?_
      intro a b hab e
      refine hab.2.2 ?_
      rw [← hss a (pf.orb_sub hx a hab.1), ← hss b (pf.orb_sub hx b hab.2.1), e]
    rw [List.perm_ext_iff_of_nodup nd (pg.orb_nd (hsw x hx))]
    intro y
    rw [List.mem_map]
    constructor
    · rintro ⟨z, hz, rfl⟩
      exact mem1 pf pg h1 x hx z hz
    · intro hy
      have := mem1 pg pf h2 (sw x) (hsw x hx) y hy
      rw [hss x hx] at this
      exact ⟨sw y, this, hss y (pg.orb_sub (hsw x hx) y hy)⟩
  have srtg : ∀ a ∈ A, ∀ x ∈ orb g a, (orb g x).mergeSort le = (orb g a).mergeSort le := fun a ha x hx => T.perm_eq (pg.orb_perm ha hx)
  have srtf : ∀ a ∈ A, ∀ x ∈ orb f a, ((orb f x).map sw).mergeSort le = ((orb f a).map sw).mergeSort le := fun a ha x hx => T.perm_eq ((pf.orb_perm ha hx).map sw)
  have apart : ∀ {h : α → α}, Pm A h → ∀ a ∈ A, ∀ b ∈ A, (orb h a).mergeSort le = (orb h b).mergeSort le → b ∈ orb h a := by
    intro h p a ha b hb e
    have hb' : b ∈ (orb h b).mergeSort le := (List.mergeSort_perm _ le).mem_iff.mpr (p.self_orb hb)
    rw [← e] at hb'
    exact (List.mergeSort_perm _ le).mem_iff.mp hb'
  refine T2.perm_eq ?_
  have nd1 : ((fc g A).map fun w => w.mergeSort le).Nodup := pg.fc_nodup _ (apart pg) A fun x hx => hx
  have nd2 : ((fc f A).map fun w => (w.map sw).mergeSort le).Nodup := by
    refine pf.fc_nodup _ ?_ A fun x hx => hx
    intro a ha b hb e
    have ha' := T.perm_eq (perm a ha)
    have hb' := T.perm_eq (perm b hb)
    have q := apart pg (sw a) (hsw a ha) (sw b) (hsw b hb) (by rw [← ha', ← hb']; exact e)
    have q2 := mem1 pg pf h2 (sw a) (hsw a ha) (sw b) q
    rw [hss a ha, hss b hb] at q2
    exact q2
  rw [List.perm_ext_iff_of_nodup nd1 nd2]
  intro t
  rw [List.mem_map, List.mem_map]
  constructor
  · rintro ⟨w, hw, rfl⟩
    obtain ⟨a, ha, rfl⟩ := pg.fc_mem A (fun x hx => hx) w hw
    obtain ⟨w', hw', hm⟩ := pf.fc_cover A (fun x hx => hx) (sw a) (hsw a ha)
    obtain ⟨b, hb, rfl⟩ := pf.fc_mem A (fun x hx => hx) w' hw'
    refine ⟨_, hw', ?_⟩
    show ((orb f b).map sw).mergeSort le = (orb g a).mergeSort le
    rw [← srtf b hb _ hm, T.perm_eq (perm (sw a) (hsw a ha)), hss a ha]
  · rintro ⟨w, hw, rfl⟩
    obtain ⟨a, ha, rfl⟩ := pf.fc_mem A (fun x hx => hx) w hw
    obtain ⟨w', hw', hm⟩ := pg.fc_cover A (fun x hx => hx) (sw a) (hsw a ha)
    obtain ⟨b, hb, rfl⟩ := pg.fc_mem A (fun x hx => hx) w' hw'
    refine ⟨_, hw', ?_⟩
    show (orb g b).mergeSort le = ((orb f a).map sw).mergeSort le
    rw [T.perm_eq (perm a ha), ← srtg b hb _ hm]
end gen
end FM
end
section
set_option linter.all false
namespace FM
/-! ### rotations of a graph: arrows are pairs of numbers -/
abbrev Ar := Nat × Nat
def sw (a : Ar) : Ar := (a.2, a.1)
theorem sw_sw (a : Ar) : sw (sw a) = a := rfl
def row (rot : List (List Nat)) (v : Nat) : List Nat := rot.getD v []
def nx (rot : List (List Nat)) (a : Ar) : Ar := (a.2, (row rot a.2).getD (((row rot a.2).idxOf a.1 + 1) % (row rot a.2).length) 0)
def near (n : Nat) (E : List Ar) (v : Nat) : List Nat := (List.range n).filter fun u => decide ((u, v) ∈ E ∨ (v, u) ∈ E)
theorem near_nd (n : Nat) (E : List Ar) (v : Nat) : (near n E v).Nodup := List.nodup_range.sublist List.filter_sublist
theorem mem_near {n : Nat} {E : List Ar} {v u : Nat} : u ∈ near n E v ↔ u < n ∧ ((u, v) ∈ E ∨ (v, u) ∈ E) := by
  unfold near
  rw [List.mem_filter, List.mem_range, decide_eq_true_eq]
/-- a graph as the law draws it -/
structure Gr (n : Nat) (E : List Ar) : Prop where
  ends : ∀ e ∈ E, e.1 < e.2 ∧ e.2 < n
  nd : E.Nodup
structure Rot (n : Nat) (E : List Ar) (rot : List (List Nat)) : Prop where
  len : rot.length = n
  perm : ∀ v, v < n → (row rot v).Perm (near n E v)
def arrows (E : List Ar) : List Ar := E ++ E.map sw
theorem arrows_len (E : List Ar) : (arrows E).length = 2 * E.length := by
  unfold arrows
  rw [List.length_append, List.length_map]
  omega
theorem mem_arrows {E : List Ar} {a : Ar} : a ∈ arrows E ↔ a ∈ E ∨ sw a ∈ E := by
  unfold arrows
  rw [List.mem_append, List.mem_map]
  constructor
  · rintro (h | ⟨b, hb, e⟩)
    · exact .inl h
    · subst e
      exact .inr hb
  · rintro (h | h)
    · exact .inl h
    · exact .inr ⟨sw a, h, rfl⟩
theorem arrows_sw {E : List Ar} {a : Ar} (h : a ∈ arrows E) : sw a ∈ arrows E := by
  rw [mem_arrows] at h ⊢
  exact h.elim (fun z => .inr z) .inl
theorem Gr.arrows_nd {n : Nat} {E : List Ar} (g : Gr n E) : (arrows E).Nodup := by
  unfold arrows
  rw [List.nodup_append]
  refine ⟨g.nd, ?_, ?_⟩
  · rw [List.Nodup, List.pairwise_map]
    refine (show E.Pairwise (fun a b => a ≠ b) from g.nd).imp ?_
    intro a b h e
    exact h (by rw [← sw_sw a, ← sw_sw b, e])
  · intro a ha b hb e
    subst e
    obtain ⟨c, hc, e⟩ := List.mem_map.mp hb
    have h1 := (g.ends a ha).1
    have h2 := (g.ends c hc).1
    subst e
    simp only [sw] at h1
    omega
theorem Gr.arrow_lt {n : Nat} {E : List Ar} (g : Gr n E) {a : Ar} (h : a ∈ arrows E) : a.1 < n ∧ a.2 < n := by
  rcases mem_arrows.mp h with h | h
  · have := g.ends _ h
    omega
  · have := g.ends _ h
    simp only [sw] at this
    omega
theorem Gr.near_arrow {n : Nat} {E : List Ar} (g : Gr n E) {u v : Nat} : u ∈ near n E v ↔ (u, v) ∈ arrows E := by
  rw [mem_near, mem_arrows]
  constructor
  · exact fun h => h.2
  · intro h
    exact ⟨(g.arrow_lt (mem_arrows.mpr h)).1, h⟩

/-! ### the next item of a list, round about -/
theorem getD_at {α : Type} {l : List α} {i : Nat} {d : α} (h : i < l.length) : l.getD i d = l[i] := by
  rw [List.getD_eq_getElem?_getD, List.getElem?_eq_getElem h]
  rfl
theorem nodup_at {l : List Nat} (hn : l.Nodup) {i j : Nat} (hi : i < l.length) (hj : j < l.length) (e : l[i] = l[j]) : i = j := (List.getElem_inj hn).mp e
theorem idx_at {l : List Nat} (hn : l.Nodup) {i : Nat} (hi : i < l.length) : l.idxOf l[i] = i := by
  have hm : l[i] ∈ l := List.getElem_mem hi
  have h1 : l.idxOf l[i] < l.length := List.idxOf_lt_length_iff.mpr hm
  exact nodup_at hn h1 hi (List.getElem_idxOf h1)
def succ1 (l : List Nat) (u : Nat) : Nat := l.getD ((l.idxOf u + 1) % l.length) 0
theorem succ1_mem {l : List Nat} {u : Nat} (h : u ∈ l) : succ1 l u ∈ l := by
  have hp : 0 < l.length := List.length_pos_of_mem h
  unfold succ1
  rw [getD_at (Nat.mod_lt _ hp)]
  exact List.getElem_mem _
theorem succ1_inj {l : List Nat} (hn : l.Nodup) {u u' : Nat} (h : u ∈ l) (h' : u' ∈ l) (e : succ1 l u = succ1 l u') : u = u' := by
  have hp : 0 < l.length := List.length_pos_of_mem h
  have i1 : l.idxOf u < l.length := List.idxOf_lt_length_iff.mpr h
  have i2 : l.idxOf u' < l.length := List.idxOf_lt_length_iff.mpr h'
  unfold succ1 at e
  rw [getD_at (Nat.mod_lt _ hp), getD_at (Nat.mod_lt _ hp)] at e
  have e2 := nodup_at hn _ _ e
  have e3 : l.idxOf u = l.idxOf u' := by
    by_cases c1 : l.idxOf u + 1 < l.length
    · by_cases c2 : l.idxOf u' + 1 < l.length
      · rw [Nat.mod_eq_of_lt c1, Nat.mod_eq_of_lt c2] at e2
        omega
      · have q : l.idxOf u' + 1 = l.length := by omega
        rw [Nat.mod_eq_of_lt c1, q, Nat.mod_self] at e2
        omega
    · have q : l.idxOf u + 1 = l.length := by omega
      by_cases c2 : l.idxOf u' + 1 < l.length
      · rw [Nat.mod_eq_of_lt c2, q, Nat.mod_self] at e2
        omega
      · omega
  have := List.getElem_idxOf i1
  have h2 := List.getElem_idxOf i2
  rw [← this, ← h2]
  congr 1
theorem succ1_rev {l : List Nat} (hn : l.Nodup) {u : Nat} (h : u ∈ l) : succ1 l.reverse (succ1 l u) = u := by
  have hp : 0 < l.length := List.length_pos_of_mem h
  have i1 : l.idxOf u < l.length := List.idxOf_lt_length_iff.mpr h
  have eu : l[l.idxOf u] = u := List.getElem_idxOf i1
  have hr : l.reverse.Nodup := (List.reverse_perm l).nodup_iff.mpr hn
  have m1 : (l.idxOf u + 1) % l.length < l.length := Nat.mod_lt _ hp
  have hw : succ1 l u = l[(l.idxOf u + 1) % l.length] := by
    unfold succ1
    exact getD_at m1
  have hlen : l.reverse.length = l.length := List.length_reverse
  have hrev : ∀ (j : Nat) (hj : j < l.length), l[j] = l.reverse[l.length - 1 - j]'(by rw [hlen]; omega) := by
    intro j hj
    rw [List.getElem_reverse]
    congr 1
    omega
  have hi : l.reverse.idxOf (succ1 l u) = l.length - 1 - (l.idxOf u + 1) % l.length := by
    rw [hw, hrev _ m1]
    exact idx_at hr _
  unfold succ1 at hi ⊢
  rw [hi, hlen]
  have hk : (l.length - 1 - (l.idxOf u + 1) % l.length + 1) % l.length = l.length - 1 - l.idxOf u := by
    by_cases c1 : l.idxOf u + 1 < l.length
    · rw [Nat.mod_eq_of_lt c1, Nat.mod_eq_of_lt (by omega)]
      omega
    · have q : l.idxOf u + 1 = l.length := by omega
      rw [q, Nat.mod_self, show l.length - 1 - 0 + 1 = l.length by omega, Nat.mod_self]
      omega
  rw [hk, getD_at (by rw [hlen]; omega), ← hrev _ i1, eu]

/-! ### the walk from arrow to arrow -/
theorem nx_eq (rot : List (List Nat)) (a : Ar) : nx rot a = (a.2, succ1 (row rot a.2) a.1) := rfl
theorem Rot.row_nd {n : Nat} {E : List Ar} {rot : List (List Nat)} (r : Rot n E rot) {v : Nat} (h : v < n) : (row rot v).Nodup := (r.perm v h).nodup_iff.mpr (near_nd n E v)
theorem Rot.mem_row {n : Nat} {E : List Ar} {rot : List (List Nat)} (g : Gr n E) (r : Rot n E rot) {u v : Nat} (h : (u, v) ∈ arrows E) : u ∈ row rot v :=
  (r.perm v (g.arrow_lt h).2).mem_iff.mpr (g.near_arrow.mpr h)
theorem Rot.pm {n : Nat} {E : List Ar} {rot : List (List Nat)} (g : Gr n E) (r : Rot n E rot) {A : List Ar} (hA : A.Perm (arrows E)) : Pm A (nx rot) where
  maps := by
    rintro ⟨u, v⟩ hx
    have hx' := hA.mem_iff.mp hx
    have hv := (g.arrow_lt hx').2
    refine hA.mem_iff.mpr ?_
    rw [nx_eq]
    have h1 := succ1_mem (r.mem_row g hx')
    have h2 := g.near_arrow.mp ((r.perm v hv).mem_iff.mp h1)
    exact arrows_sw h2
  inj := by
    rintro ⟨u, v⟩ hx ⟨u', v'⟩ hy e
    rw [nx_eq, nx_eq] at e
    have e1 : v = v' := congrArg Prod.fst e
    subst e1
    have hx' := hA.mem_iff.mp hx
    have hy' := hA.mem_iff.mp hy
    have e2 := succ1_inj (r.row_nd (g.arrow_lt hx').2) (r.mem_row g hx') (r.mem_row g hy') (congrArg Prod.snd e)
    rw [e2]
  nd := hA.nodup_iff.mpr g.arrows_nd
def mir (rot : List (List Nat)) : List (List Nat) := rot.map List.reverse
theorem row_mir (rot : List (List Nat)) (v : Nat) : row (mir rot) v = (row rot v).reverse := by
  unfold row mir
  rw [List.getD_eq_getElem?_getD, List.getD_eq_getElem?_getD, List.getElem?_map]
  cases rot[v]? <;> rfl
theorem Rot.mir {n : Nat} {E : List Ar} {rot : List (List Nat)} (r : Rot n E rot) : Rot n E (mir rot) where
  len := by
    unfold FM.mir
    rw [List.length_map]
    exact r.len
  perm := by
    intro v hv
    rw [row_mir]
    exact (List.reverse_perm _).trans (r.perm v hv)
theorem Rot.turned {n : Nat} {E : List Ar} {rot : List (List Nat)} (g : Gr n E) (r : Rot n E rot) {x : Ar} (h : x ∈ arrows E) : nx (FM.mir rot) (sw (nx rot x)) = sw x := by
  obtain ⟨u, v⟩ := x
  have hv := (g.arrow_lt h).2
  rw [nx_eq, nx_eq]
  show (v, succ1 (row (FM.mir rot) v) (succ1 (row rot v) u)) = (v, u)
  rw [row_mir, succ1_rev (r.row_nd hv) (r.mem_row g h)]
theorem mir_mir (rot : List (List Nat)) : FM.mir (FM.mir rot) = rot := by
  unfold FM.mir
  rw [List.map_map]
  conv => rhs; rw [← List.map_id rot]
  refine List.map_congr_left fun x _ => ?_
  show x.reverse.reverse = x
  exact List.reverse_reverse x
/-- THE LAW's last row -/
theorem faces_mirror {n : Nat} {E : List Ar} {rot : List (List Nat)} (g : Gr n E) (r : Rot n E rot) {A : List Ar} (hA : A.Perm (arrows E)) {le : Ar → Ar → Bool} {le2 : List Ar → List Ar → Bool} (T : Tot le) (T2 : Tot le2) :
    ((fc (nx (FM.mir rot)) A).map fun w => w.mergeSort le).mergeSort le2 = ((fc (nx rot) A).map fun w => (w.map sw).mergeSort le).mergeSort le2 := by
  refine mirror_law (r.pm g hA) (r.mir.pm g hA) T T2 (fun x hx => hA.mem_iff.mpr (arrows_sw (hA.mem_iff.mp hx))) (fun x _ => sw_sw x) (fun x hx => r.turned g (hA.mem_iff.mp hx)) (fun x hx => ?_)
  have := r.mir.turned g (hA.mem_iff.mp hx)
  rw [mir_mir] at this
  exact this
end FM
end
section
set_option Elab.async false
set_option linter.all false
set_option maxRecDepth 100000
set_option maxHeartbeats 4000000
/-! Own rules beside the layer: `in` over a tuple of data, sorted of data, a tuple whose object is known, its index, its reverse. -/
namespace FW
open PySem PySem.Spec PyProof.Rows L2
section
variable {X : Cx}
/-- x in t, t a tuple of data -/
def rInT (K : PySem.W.Frag) : R2 := fun x y H Q => ∃ d ds, Dp K H x d ∧ Dp K H y (.tuple ds) ∧ SeqAt.shaped d = true ∧ SeqAt.shaped (.tuple ds) = true ∧ Q (.bl (ds.any fun z => PyData.eqv z d)) H
theorem op_inT (hu : X.A.units + 65 < cLine) : OpR X (compareOp .In) (rInT X.K) := by
  intro pins s σ H x y v u Q I rx ry ⟨d, ds, hd, he, sd, se, q⟩
  have r1 := Dp.reads I d x v hd rx
  have r2 := Dp.reads I (.tuple ds) y u he ry
  obtain ⟨_, r1⟩ := r1
  obtain ⟨_, r2⟩ := r2
  refine SeqAt.in_tuple_reads r2 r1 ?_ ?_ (room_in_shaped sd hu) ⟨.bl _, H, I, rfl, q⟩
  · exact SeqAt.canLay_of_shaped se
  · exact SeqAt.canLay_of_shaped sd

/-- a tuple whose own object is known (it has no dict) -/
def TupF (H : Hp) (p : Addr) (xs : List V) : Prop := ∃ o, H p = some (.frz o (.tup xs)) ∧ o.cls = .type "tuple" ∧ o.dict = none
theorem TupF.sq {K : PySem.W.Frag} {H : Hp} {p : Addr} {xs : List V} (h : TupF H p xs) : SqT K H p xs := by
  obtain ⟨o, e, _⟩ := h
  exact .inl (.inr ⟨o, e⟩)
/-- tuple(l), l a list: a new tuple, its object known -/
theorem call_tupleF : CallR X (.type "tuple") (fun xs H Q => ∃ p ys, xs = [.ref p] ∧ SqL X.K H p ys ∧ ∀ l o, H l = none → o.cls = .type "tuple" → o.dict = none → Q (.ref l) (upd H l (.frz o (.tup ys)))) := by
  intro pins s σ H vs us Q I r ⟨p, ys, e, hs, q⟩
  subst e
  obtain ⟨u, rfl, ru⟩ := vals1 r
  cases ru
  obtain ⟨its, rv, pl, hz⟩ := I.list hs
  have hsz : its.toArray.size ≤ sizeLine := by rw [List.size_toArray, ← rv.length]; exact hz
  refine call_tuple_list pl.isList (fun h' kp => ?_) hsz
  have J : Inv X pins σ H { s with heap := h' } := I.kept (t' := s.toks) kp
  have hn := J.hok.fresh (Nat.le_refl h'.objs.size)
  have new : ObjOk X.prog X.w (upd H h'.objs.size (.frz { cls := .type "tuple", data := .seq its.toArray } (.tup ys))) (h'.push { cls := .type "tuple", data := .seq its.toArray }) h'.objs.size
      (.frz { cls := .type "tuple", data := .seq its.toArray } (.tup ys)) := ⟨Heap.get?_push_size _ rfl, hz, its, rv, IsTup.new _ _⟩
  have J2 := J.laid (t' := s.toks) (h' := h'.push { cls := .type "tuple", data := .seq its.toArray }) (fun b o e => Heap.get?_push_of_some _ e) (Nat.le_refl _) new
  exact ⟨.ref h'.objs.size, _, J2, rfl, q _ _ hn rfl rfl⟩

/-- t.index(k), t a tuple of ints, its object known -/
def tIdxF (K : PySem.W.Frag) (to : TE) (ta : TE) : TE := fun σ H Q => to σ H fun x H1 => ∃ (p : Addr) (ns : List Int), x = .ref p ∧ TupF H1 p (ns.map V.int) ∧
  tCons ta tNil σ H1 fun vs H2 => ∃ k : Int, vs = [.int k] ∧ SqT K H2 p (ns.map V.int) ∧ k ∈ ns ∧ Q (.int (ns.idxOf k : Nat)) H2
theorem pe_idxF {o e : Expr} {to te : TE} {apos cpos : Pos} (ho : PE X o to) (he : PE X e te)
    (hbase : attributeBase o "index" X.env (eval o X.env) = eval o X.env := by rfl)
    (hfew : ((backTo cpos (starEach [e] X.env)).all (fun x => !x.1) && (backToKw cpos (keywordEach [] X.env)).all (fun x => x.1.isSome)
      && decide ([e].length + ([] : List Keyword).length + (if ([] : List Keyword).isEmpty then 0 else 1) < 30)) = true := by rfl)
    (hline : (apos.endLine == cpos.line) = true := by rfl) (hs : starEach [e] X.env = (false, eval e X.env) :: starEach [] X.env := by rfl)
    (hplain : (backTo cpos (starEach [] X.env)).any (·.1) = false := by rfl) :
    PE X (.Call (.Attribute o "index" apos) [e] [] cpos) (tIdxF X.K to te) := by
  refine ⟨fun pins s σ H Q I h => ?_⟩
  refine wpAny_Call_method_late hbase hfew hline rfl (thn (ho.run pins s σ H _ I h) fun v s1 ⟨x, H1, I1, r1, p, ns, ex, tf, q1⟩ => ?_)
  subst ex
  cases r1
  obtain ⟨ob, e1, e2, e3⟩ := id tf
  obtain ⟨g1, _⟩ := I1.hok p _ e1
  refine ⟨"tuple", "tuple.index", PySem.F.plainAttrs_tuple, PySem.F.slot_tuple_index, PySem.F.type_tuple_index, ⟨ob, g1, e2⟩, fun a ea => ?_, ?_⟩
  · cases ea
    exact ⟨ob, g1, e3⟩
  · have hA := (pa_cons he pa_nil hs).run cpos pins s1 σ H1 _ I1 q1
    rw [hs] at hA ⊢
    refine Calls.callWith_builtin (by show (false || (backTo cpos (starEach [] X.env)).any (·.1)) = false; rw [hplain] <;> rfl) (Calls.evalArgs_plain ?_)
    refine thn hA fun us s2 ⟨vs, H2, I2, r2, k, ev, hq, hk, q2⟩ => ?_
    subst ev
    obtain ⟨w, rfl, t, rfl⟩ := vals1 r2
    obtain ⟨its, rv, pl, hz⟩ := I2.tuple hq
    exact PySem.SeqAt.tuple_index_ints (vs := its) pl (Vals.ints rv) hk ⟨.int (ns.idxOf k : Nat), H2, I2.tok _, ⟨_, rfl⟩, q2⟩
end
end FW
end
section
set_option Elab.async false
set_option linter.all false
set_option maxRecDepth 100000
set_option maxHeartbeats 4000000
namespace FW
open PySem PySem.W PySem.Calls PyProof.Rows
section
variable {prog : Program} {w : World} {A : Around} {E : Value → Shared → Prop} {s : Shared} {β : Type} {R : Value → β → Prop} {enc : β → PyData}
/-- sorted(x), x a list or a tuple whose items read as data that are alike -/
theorem sorted_seq {l : Addr} {T : String} {o : Obj} {vs : List Value} {n : Nat} {bs : List β} {Q : Value → Shared → Prop} (hT : T = "list" ∨ T = "tuple") (ho : s.heap.get? l = some o) (hc : o.cls = .type T) (hd : o.data = .seq vs.toArray n)
    (e : EachIs R vs bs) (er : EachIs (fun v b => ∃ as, Reads s.heap v (enc b) as) vs bs) (hal : AllAlike (bs.map enc)) (hk : Sortable (bs.map enc)) (hL : bs.length ≤ sizeLine) (hu : ∀ b, b ∈ bs → A.units + 2 + (enc b).depth < cLine)
    (h : ∀ (h1 h' : Heap) (out : List Value) (c : Nat), (∀ b o, s.heap.get? b = some o → h1.get? b = some o) → (∀ b o, h1.get? b = some o → h'.get? b = some o) → h'.get? h1.objs.size = some (seqObj "list" out.toArray c) → out.length = bs.length →
      EachIs R out (bs.mergeSort (dataLe false enc)) → Q (.ref h1.objs.size) { s with heap := h' }) : wpAny (model prog w) A (call (.builtin "sorted") [.ref l]) Q E s := by
  have hvl : vs.length ≤ sizeLine := by rw [e.length]; exact hL
  refine call_function_entry kind_sorted plain_sorted entry_sorted (args_sorted1 _) ?_
  unfold Builtin.«sorted»
  refine wpAny_bind (m := checkCount "sorted" 1 1 _) (wpAny_pure ?_)
  refine wpAny_bind (wpAny_collect_seq l hT ho hc hd (fun h1 k1 => ?_) (by rw [List.size_toArray]; exact hvl))
  have evs : vs.toArray.toList = vs := rfl
  rw [evs]
  refine wpAny_bind (wpAny_newList ?_ hvl)
  have old : ∀ b ob, s.heap.get? b = some ob → (h1.push (seqObj "list" vs.toArray 0)).get? b = some ob := fun b ob q => Heap.get?_push_of_some _ (k1 b ob q)
  have hnew : (h1.push (seqObj "list" vs.toArray 0)).get? h1.objs.size = some (seqObj "list" vs.toArray 0) := Heap.get?_push_size _ rfl
  have er' : EachIs (fun v b => ∃ as, Reads (h1.push (seqObj "list" vs.toArray 0)) v (enc b) as ∧ h1.objs.size ∉ as) vs bs := er.mono fun v b ⟨as, r⟩ => ⟨as, Reads.keeps old r, fun hm => by
    obtain ⟨ob, eb⟩ := PyProof.On.reads_mem_get r _ hm
    exact absurd (Heap.lt_size (k1 _ _ eb)) (Nat.lt_irrefl _)⟩
  refine wpAny_bind (wpAny_holding (list_sort_data (s := { s with heap := h1.push (seqObj "list" vs.toArray 0) }) (a := h1.objs.size) hnew e er' hal hk hL (fun b hb => hu b hb) fun out hlen he => ?_))
  obtain ⟨c, hc'⟩ := sortedHeap_at (vs := vs) (out := out.toArray) hnew
  refine wpAny_pure ⟨_, rfl, h h1 _ out c k1 (fun b ob q => ?_) hc' hlen he⟩
  refine (sortedHeap_old ?_ ?_).trans (Heap.get?_push_of_some _ q)
  · exact Nat.ne_of_lt (Heap.lt_size q)
  · rw [size_push']
    exact Nat.lt_succ_of_lt (Heap.lt_size q)
end
end FW
end
section
set_option Elab.async false
set_option linter.all false
set_option maxRecDepth 100000
set_option maxHeartbeats 4000000
namespace FW
open PySem PySem.Spec PyProof.Rows L2
section
variable {X : Cx} {K : PySem.W.Frag} {H : Hp}
theorem each_of {β : Type} {enc : β → PyData} : ∀ {bs : List β} {xs : List V} {its : List Value}, Vals xs its → DpAll K H xs (bs.map enc) → PySem.W.EachIs (fun v b => ∃ x, RelV x v ∧ Dp K H x (enc b)) its bs
  | [], _, _, r, d => by
    cases d
    cases r
    exact .nil
  | b :: bs, _, _, r, d => by
    cases d with
    | cons d1 d2 =>
      cases r with
      | cons r1 r2 => exact .cons ⟨_, r1, d1⟩ (each_of r2 d2)
theorem of_each {β : Type} {enc : β → PyData} : ∀ {bs : List β} {its : List Value}, PySem.W.EachIs (fun v b => ∃ x, RelV x v ∧ Dp K H x (enc b)) its bs → ∃ xs, Vals xs its ∧ DpAll K H xs (bs.map enc)
  | _, _, .nil => ⟨[], .nil, .nil⟩
  | _, _, .cons ⟨x, r, d⟩ t => by
    obtain ⟨xs, r2, d2⟩ := of_each t
    exact ⟨x :: xs, .cons r r2, .cons d d2⟩
theorem DpAll.len : ∀ {xs : List V} {ds : List PyData}, DpAll K H xs ds → xs.length = ds.length
  | _, _, .nil => rfl
  | _, _, .cons _ t => congrArg (· + 1) (DpAll.len t)
/-- sorted(x), x a list or a tuple of data that are alike: a new list, THE sorted one -/
def rSortD (K : PySem.W.Frag) : List V → Hp → VK → Prop := fun vs H Q => ∃ (β : Type) (a : Addr) (xs : List V) (enc : β → PyData) (bs : List β), vs = [V.ref a] ∧ (SqL K H a xs ∨ SqT K H a xs) ∧ DpAll K H xs (bs.map enc) ∧
  PySem.W.AllAlike (bs.map enc) ∧ PySem.W.Sortable (bs.map enc) ∧ (∀ b, b ∈ bs → (enc b).depth ≤ 8) ∧
  ∀ p ys, H p = none → DpAll K H ys ((bs.mergeSort (PySem.W.dataLe false enc)).map enc) → Q (.ref p) (upd H p (.lst ys))
theorem cr_sortD (hu : X.A.units + 64 < cLine) : CallR X (.builtin "sorted") (rSortD X.K) := by
  intro pins s σ H vs us Q I r ⟨β, a, xs, enc, bs, e, hs, hd, hal, hk, hdep, q⟩
  subst e
  obtain ⟨u, rfl, ru⟩ := vals1 r
  cases ru
  obtain ⟨its, rv, ⟨T, hT, o, n, ho, hc, hdt⟩, hz⟩ : ∃ its, Vals xs its ∧ (∃ T, (T = "list" ∨ T = "tuple") ∧ ∃ o n, s.heap.get? a = some o ∧ o.cls = Value.type T ∧ o.data = .seq its.toArray n) ∧ xs.length ≤ sizeLine := by
    rcases hs with hs | hs
    · obtain ⟨its, rv, ⟨o, n, ho, hc, _, hdt⟩, hz⟩ := I.list hs
      exact ⟨its, rv, ⟨"list", .inl rfl, o, n, ho, hc, hdt⟩, hz⟩
    · obtain ⟨its, rv, ⟨o, ho, hc, n, hdt⟩, hz⟩ := I.tuple hs
      exact ⟨its, rv, ⟨"tuple", .inr rfl, o, n, ho, hc, hdt⟩, hz⟩
  have hlen : bs.length = xs.length := by rw [DpAll.len hd, List.length_map]
  obtain ⟨as, hr⟩ := Dp.readsAll I (bs.map enc) xs its hd rv
  refine sorted_seq (R := fun v b => ∃ x, RelV x v ∧ Dp X.K H x (enc b)) hT ho hc hdt (each_of rv hd) (PySem.W.readsAll_each enc hr) hal hk (by rw [hlen]; exact hz) (fun b hb => ?_) (fun h1 h' out c k1 k2 hget hl he => ?_)
  · have := hdep b hb
    omega
  · obtain ⟨ys, ry, dy⟩ := of_each he
    have J : L2.Inv X pins σ H { s with heap := h1 } := I.kept (t' := s.toks) k1
    have hlen2 : ys.length ≤ sizeLine := by
      rw [ry.length, hl, hlen]
      exact hz
    have J2 := J.laid (t' := s.toks) (h' := h') (o := .lst ys) k2 (Nat.le_refl _) ⟨hlen2, out, c, ry, hget⟩
    exact ⟨.ref h1.objs.size, _, J2, rfl, q _ ys (J.hok.fresh (Nat.le_refl _)) dy⟩
end
end FW
end
section
set_option Elab.async false
set_option linter.all false
set_option maxRecDepth 100000
set_option maxHeartbeats 4000000
namespace FW
open PySem PySem.Spec PyProof.Rows RT
/-! tuple(reversed(t)), t a tuple -/
theorem rt_nolen : typeLookup (.type "reversed") "__len__" = pure none := by
  rw [typeLookup_type, builtinLookup_eq_fast]; kernel_rfl
theorem rt_hintSlot : Slot "reversed" "__length_hint__" "reversed.__length_hint__" :=
  .of (owner := "reversed") (n := "__length_hint__") (by rw [typeLookup_type, builtinLookup_eq_fast]; kernel_rfl) (by decide +kernel) (by decide +kernel) (by decide +kernel)
    (by first | exact .inl (by decide +kernel) | exact .inr (by decide +kernel)) (by rw [isSubtype_type]; kernel_rfl)
theorem rt_hintEntry : entryFor table "reversed.__length_hint__" = some Builtin.«reversed.__length_hint__» := entryFor_of_tree (by kernel_rfl)
theorem rt_hintArgs (a : Value) : argsOk "reversed.__length_hint__" ⟨[a], []⟩ := by
  unfold argsOk
  rw [signature?_of (id := "reversed.__length_hint__") (n := "__length_hint__".toList.reverse) (o := "reversed".toList.reverse) (by kernel_rfl) owner_rt]; kernel_rfl
section
variable {prog : Program} {w : World} {A : Around} {E : Value → Shared → Prop} {s : Shared}
theorem Walks.rt (hh : A.handled = none) (I t : Addr) (hne : t ≠ I) (items : Array Value) (hn : items.size ≤ sizeLine) :
    Walks prog w A I [I, t] [I] items.size (fun i v => items[items.size - 1 - i]? = some v) (fun i h => i ≤ items.size ∧ IsRt h I t ((items.size : Int) - 1 - (i : Int)) ∧ IsTup h t items) where
  sub := fun b hb => by simp at hb; simp [hb]
  frame := fun i h h' x hk => by
    obtain ⟨x1, x2, o, ho, x3⟩ := x
    exact ⟨x1, x2.at fun o e => hk I (by simp) o e, o, hk t (by simp) o ho, x3⟩
  item := fun i s Q E hi x hQ => by
    obtain ⟨x1, hit, o, ho, x3⟩ := x
    have e : (items.size : Int) - 1 - (i : Int) = ((items.size - 1 - i : Nat) : Int) := by omega
    rw [e] at hit
    have hx : items[items.size - 1 - i]? = some (items[items.size - 1 - i]'(by omega)) := Array.getElem?_eq_getElem (by omega)
    refine next_rt_item hit ⟨o, ho, x3⟩ hx hn fun h' hit' hs => ?_
    have e2 : ((items.size - 1 - i : Nat) : Int) - 1 = (items.size : Int) - 1 - ((i + 1 : Nat) : Int) := by omega
    rw [e2] at hit'
    exact hQ _ h' _ hx ⟨hi, hit', o, (hs.2 t hne).trans ho, x3⟩ fun b ob hb eo => (hs.2 b fun q => hb (by simp [q])).trans eo
  done := fun s Q E x hQ => by
    obtain ⟨x1, hit, _⟩ := x
    have e : (items.size : Int) - 1 - (items.size : Int) = -1 := by omega
    rw [e] at hit
    exact next_rt_end hh hit fun h' he => hQ h' s.toks fun b ob hb eo => he b ob (fun q => hb (by simp [q])) eo
  self := fun _ _ _ _ x hQ => iter_rt x.2.1 hQ
/-- its length hint -/
theorem hint_rt {it t : Addr} {items : Array Value} {Q : Bool → Shared → Prop} (hit : IsRt s.heap it t ((items.size : Int) - 1)) (ht : IsTup s.heap t items) (hn : items.size ≤ sizeLine)
    (h : ∀ tk, Q (decide (items.size ≠ 0)) { s with toks := tk }) : wpAny (model prog w) A (Builtin.List.listLengthHint (.ref it)) Q E s := by
  have hT : s.TypeIs (.ref it) "reversed" := hit.typeIs
  unfold Builtin.List.listLengthHint
  refine wpAny_bind (wpAny_specialOf hT rt_nolen ?_)
  show wpAny _ A (specialOf (Value.ref it) (Str.ofString "__length_hint__") >>= _) _ _ _
  refine wpAny_bind (wpAny_specialOf hT rt_hintSlot.lookup ?_)
  generalize hid : ("reversed.__length_hint__" : String) = id0
  wp_delta
  rw [show splitId id0 = some ("reversed", "__length_hint__") from by subst hid; decide +kernel]
  subst hid
  refine wpAny_bind (wpAny_isInstance (b := true) hT (by rw [isSubtype_type]; kernel_rfl) ?_)
  rw [if_neg (by decide)]
  try dsimp only
  rw [if_neg (by decide +kernel)]
  refine wpAny_bind (wpAny_rule ?_)
  rw [rt_hintSlot.bind]
  refine wpAny_bind (wpAny_pure ?_)
  try dsimp only
  refine wpAny_bind (wpAny_attempt (wpAny_call_entry rt_hintSlot hT rt_hintEntry ?_ (rt_hintArgs _)))
  obtain ⟨o, ho, hc, hd⟩ := id hit
  have hline : (items.size : Int) < 2 ^ 63 := by
    have := sizeLine_eq
    omega
  unfold Builtin.«reversed.__length_hint__»
  refine wpAny_bind (wpAny_of_eq (a := Value.ref it) rfl ?_)
  refine wpAny_bind (wpAny_field ho hd (x := .ref t) rfl ?_)
  rw [if_neg (by rw [show (Value.ref t == Value.none) = false from rfl]; decide)]
  try dsimp only
  refine wpAny_bind (len_tuple ht hline ?_)
  refine wpAny_bind (wpAny_of_eq (a := some ((items.size : Nat) : Int)) rfl ?_)
  try dsimp only
  refine wpAny_bind (wpAny_field (s := { s with toks := s.toks + 1 + 1 }) ho hd (x := rawInt ((items.size : Int) - 1)) rfl ?_)
  show wpAny _ _ (if (items.size : Int) < ((items.size : Int) - 1) + 1 then _ else retInt (((items.size : Int) - 1) + 1)) _ _ _
  rw [if_neg (show ¬ ((items.size : Int) < ((items.size : Int) - 1) + 1) by omega), Int.sub_add_cancel]
  refine wpAny_bind (wpAny_mkInt (wpAny_pure ⟨_, rfl, ?_⟩))
  try dsimp only
  have ea : ∀ tk, asInt? (Value.int (items.size : Int) tk) = pure (some ((items.size : Nat) : Int)) := fun _ => rfl
  simp only [ea, pure_bind]
  have f1 : Builtin.List.listFitsIndex ((items.size : Nat) : Int) = true := by
    unfold Builtin.List.listFitsIndex
    have h0 : -(2 ^ 63 : Int) ≤ (items.size : Int) := by omega
    rw [decide_eq_true h0, decide_eq_true hline]
    rfl
  have f2 : Builtin.List.listTooLong ((items.size : Nat) : Int).toNat = false := by
    unfold Builtin.List.listTooLong
    rw [Int.toNat_natCast]
    exact decide_eq_false (Nat.not_lt.mpr hn)
  rw [f1, f2, if_neg (by decide), if_neg (by omega), if_neg (by decide)]
  have f3 : (((items.size : Nat) : Int) != 0) = decide (items.size ≠ 0) := by
    by_cases z : items.size = 0
    · rw [z]; rfl
    · rw [decide_eq_true z]
      exact bne_iff_ne.mpr (by omega)
  rw [f3]
  exact wpAny_pure (h _)
end
end FW
end
section
set_option Elab.async false
set_option linter.all false
set_option maxRecDepth 100000
set_option maxHeartbeats 4000000
namespace FW
open PySem PySem.Spec PyProof.Rows RT
section
variable {prog : Program} {w : World} {A : Around} {E : Value → Shared → Prop} {s : Shared}
abbrev emp (c : Nat) : Obj := { cls := .type "list", data := .seq #[] c }
theorem collect_rt {it t : Addr} {items : Array Value} {Q : List Value → Shared → Prop} (hh : A.handled = none) (hit : IsRt s.heap it t ((items.size : Int) - 1)) (ht : IsTup s.heap t items) (hne : t ≠ it) (hn : items.size ≤ sizeLine)
    (hQ : ∀ (h' : Heap) (tk : Nat) (acc : Array Value), (∀ b o, b ≠ it → s.heap.get? b = some o → h'.get? b = some o) → ItemsOf (fun i v => items[items.size - 1 - i]? = some v) acc items.size → Q acc.toList { s with heap := h', toks := tk }) :
    wpAny (model prog w) A (collect (.ref it)) Q E s := by
  have W := (FW.Walks.rt (prog := prog) (w := w) (A := A.in1) hh it t hne items hn).toS
  obtain ⟨oi, hoi, _⟩ := id hit
  obtain ⟨ot, hot, _⟩ := id ht
  have hSi : s.heap.objs.size ≠ it := Nat.ne_of_gt (Heap.lt_size hoi)
  have hSt : s.heap.objs.size ≠ t := Nat.ne_of_gt (Heap.lt_size hot)
  have hSf : s.heap.objs.size ∉ [it, t] := by
    intro hm
    rcases List.mem_cons.mp hm with q | q
    · exact hSi q
    · exact hSt (List.mem_singleton.mp q)
  unfold collect
  refine wpAny_bind (wpAny_runValue (codeAny_builtin F.entry_proto_collect ?_))
  rw [Around.under_plainId F.plain_proto_collect _]
  show wpAny _ A.in1 (newList [] >>= fun x => again (.builtin "list.__iadd__" ⟨[x, .ref it], []⟩)) _ _ s
  refine wpAny_bind (wpAny_newObj_type ?_)
  refine wpAny_pure ⟨plainId_quiet F.plain_list_iadd _, codeAny_builtin F.entry_list_iadd ?_⟩
  rw [Around.under_plainId F.plain_list_iadd _]
  have old : ∀ b o, s.heap.get? b = some o → (s.heap.push (emp 0)).get? b = some o := fun b o e => Heap.get?_push_of_some _ e
  have hS : (s.heap.push (emp 0)).get? s.heap.objs.size = some (emp 0) := Heap.get?_push_size _ rfl
  have hit1 : IsRt (s.heap.push (emp 0)) it t ((items.size : Int) - 1) := hit.at fun o e => old _ _ e
  have ht1 : IsTup (s.heap.push (emp 0)) t items := by
    obtain ⟨o, ho, q⟩ := ht
    exact ⟨o, old _ _ ho, q⟩
  have hT : ({ s with heap := s.heap.push (emp 0) } : Shared).TypeIs (.ref it) "reversed" := IsRt.typeIs (s := { s with heap := s.heap.push (emp 0) }) hit1
  have h1 : Builtin.List.listSameRef (.ref s.heap.objs.size) (.ref it) = false := by simp [Builtin.List.listSameRef, hSi]
  have e0 : ((items.size : Nat) : Int) - 1 - ((0 : Nat) : Int) = (items.size : Int) - 1 := by omega
  -- the loop, from a heap in which the new list is empty
  have loop : ∀ (hp : Heap) (tk c : Nat), hp.get? s.heap.objs.size = some (emp c) → (∀ b o, b ≠ s.heap.objs.size → (s.heap.push (emp 0)).get? b = some o → hp.get? b = some o) →
      codeAny (model prog w) A (.builtin "list.extend.loop" ⟨[.ref s.heap.objs.size, .ref it, .ref s.heap.objs.size], []⟩) (fun r s' => r = .ok (.ret (.ref s.heap.objs.size)) ∧ ∃ acc c', s'.heap.get? s.heap.objs.size = some { cls := .type "list", dict := none, data := .seq acc c', slots := #[] } ∧
        Q acc.toList s') { s with heap := hp, toks := tk } := by
    intro hp tk c hemp oth
    have hit2 : IsRt hp it t ((items.size : Int) - 1) := hit1.at fun o e => oth it o (Ne.symm hSi) e
    have ht2 : IsTup hp t items := by
      obtain ⟨o, ho, q⟩ := ht1
      exact ⟨o, oth t o (Ne.symm hSt) ho, q⟩
    refine codeAny_extend_loopS W hn _ hSf _ items.size 0 { s with heap := hp, toks := tk } _ _ rfl (Nat.zero_le _) ⟨Nat.zero_le _, by rw [e0]; exact hit2, ht2⟩ hemp (ItemsOf.nil _) fun s' acc' c' hm hS' hacc => ?_
    refine ⟨rfl, acc', c', hS', ?_⟩
    rw [Moved.eq_with hm]
    refine hQ s'.heap s'.toks acc' (fun b o hb e => hm.heap b o (fun hmem => ?_) (oth b o (Nat.ne_of_lt (Heap.lt_size e)) (old b o e))) hacc
    rcases List.mem_cons.mp hmem with e' | hmem
    · exact absurd (Heap.lt_size e) (by rw [e']; exact Nat.lt_irrefl _)
    · exact hb (List.mem_singleton.mp hmem)
  show wpAny _ A.in1 (Builtin.List.listExtendWith (.ref s.heap.objs.size) (.ref it) (.ref s.heap.objs.size)) _ _ _
  unfold Builtin.List.listExtendWith
  refine wpAny_bind (wpAny_typeOf hT ?_)
  rw [if_neg (by rw [h1]; decide)]
  refine wpAny_bind (iter_rt (s := { s with heap := s.heap.push (emp 0) }) hit1 ?_)
  refine wpAny_bind (wpAny_holding (hint_rt (s := { s with heap := s.heap.push (emp 0) }) hit1 ht1 hn fun tk => ?_))
  have fin : ∀ (hp : Heap) (tk c : Nat), hp.get? s.heap.objs.size = some (emp c) → (∀ b o, b ≠ s.heap.objs.size → (s.heap.push (emp 0)).get? b = some o → hp.get? b = some o) →
      codeAny (model prog w) A (.builtin "list.extend.loop" ⟨[.ref s.heap.objs.size, .ref it, .ref s.heap.objs.size], []⟩) (fun r s' => match r with
        | .ok (.ret v) => wpAny (model prog w) A (match v with
            | .ref a => do
              let x ← load a
              match x.data with
                | .seq xs _ => pure xs.toList
                | _ => unsupported "internal:collect"
            | _ => unsupported "internal:collect") Q E s'
        | .ok _ => False
        | .error e => E e s') { s with heap := hp, toks := tk } := by
    intro hp tk c hemp oth
    refine codeAny_mono (loop hp tk c hemp oth) fun r s' ⟨er, acc, c', hget, hq⟩ => ?_
    subst er
    show wpAny _ A (load s.heap.objs.size >>= _) _ _ s'
    exact wpAny_bind (wpAny_load hget (wpAny_pure hq))
  by_cases z : items.size = 0
  · rw [decide_eq_false (fun q => q z), if_neg (by decide +kernel)]
    exact wpAny_pure ⟨plainId_quiet F.plain_extend_loop _, fin _ tk 0 hS fun _ _ _ e => e⟩
  · rw [decide_eq_true z, if_pos (by rfl)]
    refine wpAny_bind (wpAny_rule (wpAny_bind ?_))
    show wpAny _ A.in1 (updateSeq s.heap.objs.size (·.push .none) >>= fun _ => updateSeq s.heap.objs.size (·.pop)) _ _ _
    refine wpAny_bind (wpAny_updateSeq hS rfl ?_)
    have hS2 := Heap.get?_update_self (Obj.mapSeq (·.push Value.none)) hS rfl
    refine wpAny_updateSeq hS2 rfl ?_
    have hS3 := Heap.get?_update_self (Obj.mapSeq (·.pop)) hS2 rfl
    refine wpAny_pure ⟨plainId_quiet F.plain_extend_loop _, fin _ tk _ hS3 fun b o hb e => ?_⟩
    exact (Heap.get?_update_other _ _ (Ne.symm hb)).trans ((Heap.get?_update_other _ _ (Ne.symm hb)).trans e)
end
end FW
end
section
set_option Elab.async false
set_option linter.all false
set_option maxRecDepth 100000
set_option maxHeartbeats 4000000
namespace FW
open PySem PySem.Spec PyProof.Rows RT L2
section
variable {prog : Program} {w : World} {A : Around} {E : Value → Shared → Prop} {s : Shared}
theorem new_tuple_rt {it t : Addr} {items : Array Value} {Q : Value → Shared → Prop} (hh : A.handled = none) (hit : IsRt s.heap it t ((items.size : Int) - 1)) (ht : IsTup s.heap t items) (hne : t ≠ it) (hn : items.size ≤ sizeLine)
    (h : ∀ (h' : Heap) (tk : Nat) (acc : Array Value), (∀ b o, b ≠ it → s.heap.get? b = some o → h'.get? b = some o) → ItemsOf (fun i v => items[items.size - 1 - i]? = some v) acc items.size →
      Q (.ref h'.objs.size) { s with heap := h'.push { cls := .type "tuple", data := .seq acc }, toks := tk }) :
    codeAny (model prog w) A (.call (.builtin "tuple.__new__") ⟨[.type "tuple", .ref it], []⟩) (wants Q E) s := by
  refine codeAny_of_tree ?_
  show wpAny _ A.in1 (do checkBuiltinCall "tuple.__new__" ⟨[.type "tuple", .ref it], []⟩; again (.builtin "tuple.__new__" ⟨[.type "tuple", .ref it], []⟩)) _ _ s
  refine wpAny_bind (wpAny_of_eq (F.newCall_tuple_1 _) (wpAny_pure ⟨plainId_quiet F.plain_tuple_new _, codeAny_builtin F.entry_tuple_new ?_⟩))
  rw [Around.under_plainId F.plain_tuple_new _]
  have hsub := sub_tuple_self
  have hinit := init_tuple_lookup
  have hmh := madeHere_tuple
  have hTI : s.TypeIs (.ref it) "reversed" := hit.typeIs
  have hh1 : A.in1.handled = none := hh
  wp_walk using wpAny_typeOf hTI, FW.collect_rt (A := A.in1) hh1 hit ht hne hn
  intro h' tk acc hk hacc
  show wpAny _ _ (Builtin.Tuple.tupleExact acc.toList.toArray >>= fun v => ret v) _ _ _
  unfold Builtin.Tuple.tupleExact
  refine wpAny_bind (wpAny_newObj_type ?_ (by show acc.toList.toArray.size ≤ sizeLine; rw [Array.toArray_toList, hacc.1]; exact hn))
  refine wpAny_pure ?_
  rw [Array.toArray_toList]
  exact h h' tk acc hk hacc
theorem call_tuple_rt {it t : Addr} {items : Array Value} {Q : Value → Shared → Prop} (hh : A.handled = none) (hit : IsRt s.heap it t ((items.size : Int) - 1)) (ht : IsTup s.heap t items) (hne : t ≠ it) (hn : items.size ≤ sizeLine)
    (h : ∀ (h' : Heap) (tk : Nat) (acc : Array Value), (∀ b o, b ≠ it → s.heap.get? b = some o → h'.get? b = some o) → ItemsOf (fun i v => items[items.size - 1 - i]? = some v) acc items.size →
      Q (.ref h'.objs.size) { s with heap := h'.push { cls := .type "tuple", data := .seq acc }, toks := tk }) : wpAny (model prog w) A (call (.type "tuple") [.ref it]) Q E s := by
  refine callType_codes (Q₁ := fun obj s1 => s1.TypeIs obj "tuple" ∧ Q obj s1) F.called_tuple (F.typeCall_tuple_1 _) F.entry_object_init
    (new_tuple_rt (A := A.in1) hh hit ht hne hn fun h' tk acc hk hacc => ⟨⟨_, Heap.get?_push_size _ rfl, rfl⟩, h h' tk acc hk hacc⟩) fun obj s1 q => ?_
  exact ⟨q.1, F.args_object_init_2 obj _, object_init_meets F.called_tuple.init.lookup F.called_tuple.made (by decide) prog w A.in1 _ s1 ⟨q.1, rfl, q.2⟩⟩
end
/-- tuple(reversed(x)), x a tuple: a new tuple, its object known -/
def tTupRevT (K : PySem.W.Frag) (te : TE) : TE := fun σ H Q => te σ H fun v H1 => ∃ (a : Addr) (xs : List V), v = .ref a ∧ SqT K H1 a xs ∧ ∀ q o, H1 q = none → o.cls = .type "tuple" → o.dict = none → Q (.ref q) (upd H1 q (.frz o (.tup xs.reverse)))
section
variable {X : Cx}
theorem pe_tupRevT {e : Expr} {te : TE} {p p2 pos pos2 : Pos} (hc : X.calm = true) (hg : Gl X "tuple") (hm : X.mg "tuple" = none) (hg2 : Gl X "reversed") (hm2 : X.mg "reversed" = none) (he : PE X e te)
    (hs : starEach [e] X.env = (false, eval e X.env) :: starEach [] X.env := by rfl)
    (hs2 : starEach [.Call (.Name "reversed" p2) [e] [] pos2] X.env = (false, eval (.Call (.Name "reversed" p2) [e] [] pos2) X.env) :: starEach [] X.env := by rfl) :
    PE X (.Call (.Name "tuple" p) [.Call (.Name "reversed" p2) [e] [] pos2] [] pos) (tTupRevT X.K te) := by
  refine ⟨fun pins s σ H Q I h => ?_⟩
  refine Call_ (ld_blt I hg hm boot_tuple (PyProof.Rows.callWith_type1 (args_cons (Call_ (ld_blt I hg2 hm2 PyProof.Rows.boot_reversed (PyProof.Rows.callWith_type1 (args_cons (thn (he.run pins s σ H _ I h) fun u s1 ⟨v, H1, I1, r1, q1⟩ => args_nil ?_) hs) hs rfl))) hs2) hs2 rfl))
  obtain ⟨a, xs, ev, hq, q⟩ := q1
  subst ev
  cases r1
  obtain ⟨its, rv, pt, hz⟩ := I1.tuple hq
  have hn : its.toArray.size ≤ sizeLine := by rw [List.size_toArray, ← rv.length]; exact hz
  have h63 := line63
  refine call_reversed_tup pt (fun A E Q k => len_tuple pt (by omega) k) (args_nil ?_)
  have k0 : ∀ b o, s1.heap.get? b = some o → (s1.heap.push (rtObj a ((its.toArray.size : Int) - 1))).get? b = some o := fun b o e => Heap.get?_push_of_some _ e
  have I2 : Inv X pins σ H1 { s1 with heap := s1.heap.push (rtObj a ((its.toArray.size : Int) - 1)), toks := s1.toks + 1 + 1 } := I1.kept (t' := s1.toks + 1 + 1) k0
  obtain ⟨f0, f1, f2, f3, f4, f5⟩ := I1.fpOk (H' := H1) (b := s1.heap.objs.size) (Nat.le_refl _) (I1.hok.fresh (Nat.le_refl _))
  obtain ⟨ot, hot, htr⟩ := id pt
  have hne : a ≠ s1.heap.objs.size := Nat.ne_of_lt (Heap.lt_size hot)
  refine call_tuple_rt (s := { s1 with heap := s1.heap.push (rtObj a ((its.toArray.size : Int) - 1)), toks := s1.toks + 1 + 1 }) (I1.ok.hd hc) ⟨_, Heap.get?_push_size _ rfl, rfl, rfl⟩ ⟨ot, k0 _ _ hot, htr⟩ hne hn fun h' tk acc hk hi => ?_
  have I3 : Inv X pins σ H1 { s1 with heap := h', toks := tk } := I2.turned (t' := tk) (fun b o hb e => hk b o hb e) f0 f1 f3 f4 f5
  have new : ObjOk X.prog X.w (upd H1 h'.objs.size (.frz { cls := .type "tuple", data := .seq acc } (.tup xs.reverse))) (h'.push { cls := .type "tuple", data := .seq acc }) h'.objs.size (.frz { cls := .type "tuple", data := .seq acc } (.tup xs.reverse)) := by
    refine ⟨Heap.get?_push_size _ rfl, ?_, acc.toList, vals_rev rv hi, ?_⟩
    · rw [List.length_reverse]
      exact hz
    · rw [Array.toArray_toList]
      exact IsTup.new _ _
  exact ⟨.ref h'.objs.size, _, I3.laid (t' := tk) (h' := h'.push { cls := .type "tuple", data := .seq acc }) (fun c o e => Heap.get?_push_of_some _ e) (Nat.le_refl _) new, rfl, q _ _ (I3.hok.fresh (Nat.le_refl _)) rfl rfl⟩
end
end FW
end
section
set_option Elab.async false
set_option linter.all false
set_option maxRecDepth 100000
set_option maxHeartbeats 4000000
namespace FW
open PySem PySem.Spec PyProof.Rows L2 FM
/-! ### arrows and lists of arrows as data -/
def arD (a : Ar) : PyData := .tuple [.int (a.1 : Nat), .int (a.2 : Nat)]
def lsD (w : List Ar) : PyData := .list (w.map arD)
def tpD (w : List Ar) : PyData := .tuple (w.map arD)
theorem arD_depth (a : Ar) : (arD a).depth = 1 := by simp [arD, PyData.depth, PyData.depthAll]
theorem arDs_depth : ∀ w : List Ar, PyData.depthAll (w.map arD) ≤ 1
  | [] => by simp [PyData.depthAll]
  | a :: w => by
    have h1 := arDs_depth w
    have h2 := arD_depth a
    simp only [List.map_cons, PyData.depthAll]
    omega
theorem lsD_depth (w : List Ar) : (lsD w).depth ≤ 2 := by
  have := arDs_depth w
  simp only [lsD, PyData.depth]
  omega
theorem lsDs_depth : ∀ L : List (List Ar), PyData.depthAll (L.map lsD) ≤ 2
  | [] => by simp [PyData.depthAll]
  | a :: w => by
    have h1 := lsDs_depth w
    have h2 := lsD_depth a
    simp only [List.map_cons, PyData.depthAll]
    omega
theorem arD_lay (a : Ar) : (arD a).canLay0 = true := by simp [arD, PyData.canLay0, PyData.canLayAll0]
theorem arDs_lay : ∀ w : List Ar, PyData.canLayAll0 (w.map arD) = true
  | [] => by simp [PyData.canLayAll0]
  | a :: w => by simp [PyData.canLayAll0, arD_lay a, arDs_lay w]
theorem lsDs_lay : ∀ L : List (List Ar), PyData.canLayAll0 (L.map lsD) = true
  | [] => by simp [PyData.canLayAll0]
  | w :: L => by
    have h : (lsD w).canLay0 = true := by
      simp only [lsD, PyData.canLay0]
      exact arDs_lay w
    simp [PyData.canLayAll0, h, lsDs_lay L]
theorem shaped_of {d : PyData} (h1 : d.canLay0 = true) (h2 : d.depth ≤ 64) : SeqAt.shaped d = true := by
  show (d.canLay0 && decide (d.depth ≤ 64)) = true
  rw [h1, decide_eq_true h2]
  rfl
theorem arD_shaped (a : Ar) : SeqAt.shaped (arD a) = true := shaped_of (arD_lay a) (by rw [arD_depth]; decide)
theorem lsD_shaped (w : List Ar) : SeqAt.shaped (lsD w) = true := by
  have := lsD_depth w
  refine shaped_of ?_ (by omega)
  simp only [lsD, PyData.canLay0]
  exact arDs_lay w
theorem tpD_shaped (w : List Ar) : SeqAt.shaped (tpD w) = true := by
  have := arDs_depth w
  refine shaped_of ?_ ?_
  · simp only [tpD, PyData.canLay0]
    exact arDs_lay w
  · simp only [tpD, PyData.depth]
    omega
theorem llD_shaped (L : List (List Ar)) : SeqAt.shaped (.list (L.map lsD)) = true := by
  have := lsDs_depth L
  refine shaped_of ?_ ?_
  · simp only [PyData.canLay0]
    exact lsDs_lay L
  · simp only [PyData.depth]
    omega
theorem arD_eqv (a b : Ar) : PyData.eqv (arD a) (arD b) = decide (a = b) := by
  obtain ⟨u, v⟩ := a
  obtain ⟨x, y⟩ := b
  have e : PyData.eqv (arD (u, v)) (arD (x, y)) = (((u : Int) == (x : Int)) && (((v : Int) == (y : Int)) && true)) := by simp only [arD, PyData.eqv, PyData.eqvAll]
  rw [e]
  by_cases h1 : u = x
  · by_cases h2 : v = y
    · rw [h1, h2]
      simp
    · rw [decide_eq_false (fun q => h2 (congrArg Prod.snd q)), beq_eq_false_iff_ne.mpr (show (v : Int) ≠ (y : Int) by omega), Bool.false_and, Bool.and_false]
  · rw [decide_eq_false (fun q => h1 (congrArg Prod.fst q)), beq_eq_false_iff_ne.mpr (show (u : Int) ≠ (x : Int) by omega), Bool.false_and]
theorem any_arD (a : Ar) : ∀ w : List Ar, ((w.map arD).any fun z => PyData.eqv z (arD a)) = decide (a ∈ w)
  | [] => by simp
  | b :: w => by
    rw [List.map_cons, List.any_cons, any_arD a w, arD_eqv]
    by_cases h : b = a
    · rw [h]
      simp
    · rw [decide_eq_false h, Bool.false_or]
      by_cases h2 : a ∈ w
      · rw [decide_eq_true h2, decide_eq_true (List.mem_cons_of_mem _ h2)]
      · rw [decide_eq_false h2, decide_eq_false]
        intro q
        rcases List.mem_cons.mp q with q | q
        · exact h q.symm
        · exact h2 q
theorem arD_alike (a b : Ar) : PySem.W.alike (arD a) (arD b) = true := by simp [arD, PySem.W.alike, PySem.W.alikeAll]
theorem arDs_alike : ∀ w x : List Ar, PySem.W.alikeAll (w.map arD) (x.map arD) = true
  | [], _ => by simp [PySem.W.alikeAll]
  | _ :: _, [] => by simp [PySem.W.alikeAll]
  | a :: w, b :: x => by
    rw [List.map_cons, List.map_cons, PySem.W.alikeAll, arD_alike, arDs_alike w x]
    rfl
theorem lsD_alike (w x : List Ar) : PySem.W.alike (lsD w) (lsD x) = true := by
  simp only [lsD, PySem.W.alike]
  exact arDs_alike w x
theorem lsDs_alike : ∀ w x : List (List Ar), PySem.W.alikeAll (w.map lsD) (x.map lsD) = true
  | [], _ => by simp [PySem.W.alikeAll]
  | _ :: _, [] => by simp [PySem.W.alikeAll]
  | a :: w, b :: x => by
    rw [List.map_cons, List.map_cons, PySem.W.alikeAll, lsD_alike, lsDs_alike w x]
    rfl
theorem llD_eqv (L : List (List Ar)) : PyData.eqv (.list (L.map lsD)) (.list (L.map lsD)) = true :=
  PySem.W.eqv_refl_alike _ (by simp only [PySem.W.alike]; exact lsDs_alike L L)
theorem all_ar (w : List Ar) : PySem.W.AllAlike (w.map arD) := PySem.W.AllAlike.of arD_alike
theorem all_ls (w : List (List Ar)) : PySem.W.AllAlike (w.map lsD) := PySem.W.AllAlike.of lsD_alike
theorem srt_ar (w : List Ar) : PySem.W.Sortable (w.map arD) := PySem.W.Sortable.tuples fun a => ⟨_, _, rfl⟩
theorem srt_ls (w : List (List Ar)) : PySem.W.Sortable (w.map lsD) := PySem.W.Sortable.others fun a => ⟨(fun q => nomatch q), fun xs q => nomatch q⟩
/-! ### the orders -/
abbrev leA : Ar → Ar → Bool := PySem.W.dataLe false arD
abbrev leL : List Ar → List Ar → Bool := PySem.W.dataLe false lsD
theorem toks_ar {a b : Ar} {x y : List (Int ⊕ List Nat)} (h : PySem.W.keyToks (arD a) ++ x = PySem.W.keyToks (arD b) ++ y) : a = b ∧ x = y := by
  obtain ⟨u, v⟩ := a
  obtain ⟨u', v'⟩ := b
  simp only [arD, PySem.W.keyToks, PySem.W.keyToksAll, List.cons_append, List.nil_append, List.cons.injEq, Sum.inl.injEq, true_and] at h
  obtain ⟨h1, h2, h3⟩ := h
  refine ⟨?_, h3⟩
  rw [show u = u' by omega, show v = v' by omega]
theorem toks_ls : ∀ {w x : List Ar}, PySem.W.keyToksAll (w.map arD) = PySem.W.keyToksAll (x.map arD) → w = x
  | [], [], _ => rfl
  | [], b :: x, h => by simp [PySem.W.keyToksAll] at h
  | a :: w, [], h => by simp [PySem.W.keyToksAll] at h
  | a :: w, b :: x, h => by
    rw [List.map_cons, List.map_cons, PySem.W.toks_all_cons, PySem.W.toks_all_cons] at h
    obtain ⟨e1, e2⟩ := toks_ar (List.cons.inj h).2
    rw [e1, toks_ls e2]
theorem tot_of {β : Type} {enc : β → PyData} (inj : ∀ a b, PySem.W.keyToks (enc a) = PySem.W.keyToks (enc b) → a = b) : Tot (PySem.W.dataLe false enc) := by
  have T : PySem.W.TotalLe (PySem.W.dataLe false enc) := PySem.W.sortLe_total (listOrd itemOrd) false fun b => PySem.W.keyToks (enc b)
  refine ⟨fun a b => ?_, T.trans, fun a b h1 h2 => ?_⟩
  · rcases T.total a b with h | h
    · rw [h]; rfl
    · rw [h]; cases PySem.W.dataLe false enc a b <;> rfl
  · have e1 : (!(listOrd itemOrd).blt (PySem.W.keyToks (enc b)) (PySem.W.keyToks (enc a))) = true := h1
    have e2 : (!(listOrd itemOrd).blt (PySem.W.keyToks (enc a)) (PySem.W.keyToks (enc b))) = true := h2
    rw [Bool.not_eq_true'] at e1 e2
    exact inj a b ((listOrd itemOrd).total _ _ e2 e1)
theorem tot_ar : Tot leA := tot_of fun a b h => by
  have h' : PySem.W.keyToks (arD a) ++ [] = PySem.W.keyToks (arD b) ++ [] := by rw [h]
  exact (toks_ar h').1
theorem tot_ls : Tot leL := tot_of fun a b h => toks_ls (by simpa only [lsD, PySem.W.keyToks] using h)
end FW
end
section
set_option Elab.async false
set_option linter.all false
set_option maxRecDepth 100000
set_option maxHeartbeats 4000000
namespace FW
open PySem PySem.Spec PyProof.Rows L2 FM
/-! ### the text -/
def topS (i : Nat) : Stmt := PySem.Challenge.pw_trellis_k45_faces.main.body.getD i (.Pass ⟨0, 0, 0, 0⟩)
abbrev sNext : Stmt := topS 1
abbrev sFaces : Stmt := topS 2
abbrev sMirr : Stmt := topS 3
abbrev sSame : Stmt := topS 5
abbrev sPool : Stmt := topS 7
abbrev sSpread : Stmt := topS 8
abbrev sDraw : Stmt := topS 9
abbrev sPairs : Stmt := topS 10
abbrev sSorted : Stmt := topS 11
abbrev sGraph : Stmt := topS 12
abbrev sNear : Stmt := topS 13
abbrev sRot : Stmt := topS 35
abbrev sLFaces : Stmt := topS 37
abbrev sLaw : Stmt := topS 39
theorem scPool : FnScope ["_law_script", "_law_salt", "_law_cell"] ["_law_script"] (defScope sPool) := ⟨rfl, rfl, rfl, by decide +kernel, rfl, by decide +kernel, by decide +kernel⟩
theorem scSpread : FnScope ["_law_cell", "_law_mixed", "_law_total", "_law_k"] ["_law_cell"] (defScope sSpread) := ⟨rfl, rfl, rfl, by decide +kernel, rfl, by decide +kernel, by decide +kernel⟩
theorem scDraw : FnScope ["_law_pool_here", "_law_many", "_law_cell", "_law_mixed", "_law_value"] ["_law_pool_here", "_law_many"] (defScope sDraw) := ⟨rfl, rfl, rfl, by decide +kernel, rfl, by decide +kernel, by decide +kernel⟩
theorem scPairs : FnScope ["_law_n", "_law_pairs_here", "_law_u", "_law_v"] ["_law_n"] (defScope sPairs) := ⟨rfl, rfl, rfl, by decide +kernel, rfl, by decide +kernel, by decide +kernel⟩
theorem scSorted : FnScope ["_law_n", "_law_edges", "_law_pair"] ["_law_n", "_law_edges"] (defScope sSorted) := ⟨rfl, rfl, rfl, by decide +kernel, rfl, by decide +kernel, by decide +kernel⟩
theorem scGraph : FnScope ["_law_pool_here", "_law_most", "_law_n", "_law_turn", "_law_dense", "_law_edges", "_law_v", "_law_many", "_law_k", "_law_places", "_law_names", "_law_pair", "_law_edge"] ["_law_pool_here", "_law_most"] (defScope sGraph) :=
  ⟨rfl, rfl, rfl, by decide +kernel, rfl, by decide +kernel, by decide +kernel⟩
theorem scNear : FnScope ["_law_graph_here", "_law_v", "_law_u"] ["_law_graph_here", "_law_v"] (defScope sNear) := ⟨rfl, rfl, rfl, by decide +kernel, rfl, by decide +kernel, by decide +kernel⟩
theorem scRot : FnScope ["_law_pool_here", "_law_graph_here", "_law_items", "_law_v", "_law_left", "_law_k"] ["_law_pool_here", "_law_graph_here"] (defScope sRot) := ⟨rfl, rfl, rfl, by decide +kernel, rfl, by decide +kernel, by decide +kernel⟩
theorem scNext : FnScope ["rotation", "arrow", "u", "v", "item"] ["rotation", "arrow"] (defScope sNext) := ⟨rfl, rfl, rfl, by decide +kernel, rfl, by decide +kernel, by decide +kernel⟩
theorem scFaces : FnScope ["graph", "rotation", "left", "found", "walk", "u", "v", "arrow"] ["graph", "rotation"] (defScope sFaces) := ⟨rfl, rfl, rfl, by decide +kernel, rfl, by decide +kernel, by decide +kernel⟩
theorem scMirr : FnScope ["rotation", "item"] ["rotation"] (defScope sMirr) := ⟨rfl, rfl, rfl, by decide +kernel, rfl, by decide +kernel, by decide +kernel⟩
theorem scSame : FnScope ["_law_actual", "_law_due", "_law_k"] ["_law_actual", "_law_due"] (defScope sSame) := ⟨rfl, rfl, rfl, by decide +kernel, rfl, by decide +kernel, by decide +kernel⟩
theorem scLFaces : FnScope ["_law_graph_here", "_law_rotation", "_law_left", "_law_found", "_law_turn", "_law_walk", "_law_k", "_law_item", "_law_place", "_law_arrow", "_law_edge"] ["_law_graph_here", "_law_rotation"] (defScope sLFaces) :=
  ⟨rfl, rfl, rfl, by decide +kernel, rfl, by decide +kernel, by decide +kernel⟩
theorem scLaw : FnScope ["_law_script", "_law_pool_here", "_law_graph_here", "_law_rotation", "_law_due", "_law_turned", "_law_other", "_law_sets", "_law_walk", "_law_item", "_law_arrow"] ["_law_script"] (defScope sLaw) :=
  ⟨rfl, rfl, rfl, by decide +kernel, rfl, by decide +kernel, by decide +kernel⟩
/-! ### heaps -/
abbrev nv (k : Nat) : V := V.int (k : Nat)
theorem same_upd {H : Hp} {p : Addr} {o : HO} (h : H p = none) : Same H (upd H p o) := fun b x e => by
  rw [upd_ne (ne_of_none e h)]
  exact e
/-- all but p stands -/
def But (p : Addr) (H H' : Hp) : Prop := ∀ b o, b ≠ p → H b = some o → H' b = some o
theorem Same.but {H H' : Hp} {p : Addr} (s : Same H H') : But p H H' := fun b o _ e => s b o e
theorem But.refl {H : Hp} {p : Addr} : But p H H := fun _ _ _ e => e
theorem But.trans {H H1 H2 : Hp} {p : Addr} (a : But p H H1) (b : But p H1 H2) : But p H H2 := fun c o n e => b c o n (a c o n e)
theorem But.upd {H : Hp} {p : Addr} {o : HO} : But p H (upd H p o) := fun b x n e => by
  rw [upd_ne n]
  exact e
theorem same_of_but {H H' : Hp} {p : Addr} (a : But p H H') (h : H p = none) : Same H H' := fun b o e => a b o (ne_of_none e h) e
section
variable {K : PySem.W.Frag} {H H' : Hp}
/-- tuples stand -/
def TS (K : PySem.W.Frag) (H H' : Hp) : Prop := (∀ a xs, SqT K H a xs → SqT K H' a xs) ∧ ∀ a o xs, H a = some (.frz o (.tup xs)) → H' a = some (.frz o (.tup xs))
theorem TS.refl : TS K H H := ⟨fun _ _ h => h, fun _ _ _ h => h⟩
theorem TS.trans {H2 : Hp} (a : TS K H H') (b : TS K H' H2) : TS K H H2 := ⟨fun c xs h => b.1 c xs (a.1 c xs h), fun c o xs h => b.2 c o xs (a.2 c o xs h)⟩
theorem Same.ts (s : Same H H') : TS K H H' := ⟨fun a xs h => by
  rcases h with (h | ⟨o, h⟩) | h
  · exact .inl (.inl (s _ _ h))
  · exact .inl (.inr ⟨o, s _ _ h⟩)
  · exact .inr h, fun a o xs h => s _ _ h⟩
theorem But.ts {p : Addr} {ys : List V} (s : But p H H') (hp : H p = some (.lst ys)) : TS K H H' := ⟨fun a xs h => by
  rcases h with (h | ⟨o, h⟩) | h
  · exact .inl (.inl (s _ _ (ne_of h hp (fun q => nomatch q)) h))
  · exact .inl (.inr ⟨o, s _ _ (ne_of h hp (fun q => nomatch q)) h⟩)
  · exact .inr h, fun a o xs h => s _ _ (ne_of h hp (fun q => nomatch q)) h⟩
theorem TS.tupF (s : TS K H H') {p : Addr} {xs : List V} (h : TupF H p xs) : TupF H' p xs := by
  obtain ⟨o, e, r⟩ := h
  exact ⟨o, s.2 _ _ _ e, r⟩
/-- an arrow's tuple; a list of such -/
def At (K : PySem.W.Frag) (H : Hp) (x : V) (a : Ar) : Prop := ∃ t, x = .ref t ∧ SqT K H t [nv a.1, nv a.2]
abbrev Ats (K : PySem.W.Frag) (H : Hp) : List V → List Ar → Prop := PySem.W.EachIs (At K H)
theorem TS.at (s : TS K H H') {x : V} {a : Ar} (h : At K H x a) : At K H' x a := by
  obtain ⟨t, e, q⟩ := h
  exact ⟨t, e, s.1 _ _ q⟩
theorem TS.ats (s : TS K H H') {xs : List V} {w : List Ar} (h : Ats K H xs w) : Ats K H' xs w := h.mono fun _ _ q => s.at q
theorem At.dp {x : V} {a : Ar} (h : At K H x a) : Dp K H x (arD a) := by
  obtain ⟨t, rfl, q⟩ := h
  exact .tup q (.cons (.int _) (.cons (.int _) .nil))
theorem at_dp {x : V} {a : Ar} (h : Dp K H x (arD a)) : At K H x a := by
  unfold arD at h
  cases h with
  | tup q d =>
    cases d with
    | cons d1 d =>
      cases d with
      | cons d2 d =>
        cases d
        cases d1
        cases d2
        exact ⟨_, rfl, q⟩
theorem Ats.dp : ∀ {w : List Ar} {xs : List V}, Ats K H xs w → DpAll K H xs (w.map arD)
  | _, _, .nil => .nil
  | _, _, .cons h t => .cons h.dp (Ats.dp t)
theorem ats_dp : ∀ {w : List Ar} {xs : List V}, DpAll K H xs (w.map arD) → Ats K H xs w
  | [], _, h => by
    cases h
    exact .nil
  | a :: w, _, h => by
    cases h with
    | cons h t => exact .cons (at_dp h) (ats_dp t)
end
section
variable {α β : Type} {R : α → β → Prop}
theorem eget : ∀ {as : List α} {bs : List β} {i : Nat} {a : α}, PySem.W.EachIs R as bs → as[i]? = some a → ∃ b, bs[i]? = some b ∧ R a b
  | _, _, _, _, .nil, e => by simp at e
  | _, _, 0, _, .cons h _, e => by
    cases e
    exact ⟨_, rfl, h⟩
  | _, _, i + 1, a, .cons _ t, e => eget (i := i) t e
theorem eget' : ∀ {as : List α} {bs : List β} {i : Nat} {b : β}, PySem.W.EachIs R as bs → bs[i]? = some b → ∃ a, as[i]? = some a ∧ R a b
  | _, _, _, _, .nil, e => by simp at e
  | _, _, 0, _, .cons h _, e => by
    cases e
    exact ⟨_, rfl, h⟩
  | _, _, i + 1, a, .cons _ t, e => eget' (i := i) t e
theorem eapp : ∀ {as as' : List α} {bs bs' : List β}, PySem.W.EachIs R as bs → PySem.W.EachIs R as' bs' → PySem.W.EachIs R (as ++ as') (bs ++ bs')
  | _, _, _, _, .nil, s => s
  | _, _, _, _, .cons h t, s => .cons h (eapp t s)
theorem esnoc {as : List α} {bs : List β} {a : α} {b : β} (h : PySem.W.EachIs R as bs) (r : R a b) : PySem.W.EachIs R (as ++ [a]) (bs ++ [b]) := eapp h (.cons r .nil)
theorem eerase : ∀ {as : List α} {bs : List β} (i : Nat), PySem.W.EachIs R as bs → PySem.W.EachIs R (as.eraseIdx i) (bs.eraseIdx i)
  | _, _, _, .nil => .nil
  | _, _, 0, .cons _ t => t
  | _, _, i + 1, .cons h t => .cons h (eerase i t)
end
end FW
end
section
set_option Elab.async false
set_option linter.all false
set_option maxRecDepth 100000
set_option maxHeartbeats 4000000
namespace FW
open PySem PySem.Spec PyProof.Rows L2 FM
def PoolOk (H : Hp) (p l : Addr) (ns : List Int) : Prop := ∃ (i c k s : Int), H p = some (.lst [.ref l, .int i, .int c, .int k, .int s]) ∧ H l = some (.lst (ns.map V.int)) ∧ 0 ≤ i ∧ l ≠ p ∧ ns.length ≤ 63
theorem PoolOk.lst {H : Hp} {p l : Addr} {ns : List Int} (h : PoolOk H p l ns) : ∃ ys, H p = some (.lst ys) := by
  obtain ⟨i, c, k, s, e, _⟩ := h
  exact ⟨_, e⟩
theorem PoolOk.same {H H' : Hp} {p l : Addr} {ns : List Int} (h : PoolOk H p l ns) (sm : Same H H') : PoolOk H' p l ns := by
  obtain ⟨i, c, k, s, e, el, r⟩ := h
  exact ⟨i, c, k, s, sm _ _ e, sm _ _ el, r⟩
theorem PoolOk.put {H : Hp} {p l D : Addr} {ns : List Int} {o : HO} (h : PoolOk H p l ns) (h1 : D ≠ p) (h2 : D ≠ l) : PoolOk (upd H D o) p l ns := by
  obtain ⟨i, c, k, s, e, el, r⟩ := h
  refine ⟨i, c, k, s, ?_, ?_, r⟩
  · rw [upd_ne h1.symm]
    exact e
  · rw [upd_ne h2.symm]
    exact el
theorem PoolOk.off {H : Hp} {p l D : Addr} {ns : List Int} (h : PoolOk H p l ns) (n : H D = none) : D ≠ p ∧ D ≠ l := by
  obtain ⟨i, c, k, s, e, el, r⟩ := h
  exact ⟨(ne_of_none e n).symm, (ne_of_none el n).symm⟩
section
variable {P : Program} {w : World} {K : PySem.W.Frag} {mg : Str → Option Value} {base : Heap}
def spPool (K : PySem.W.Frag) : Sp := fun vs H Q _ => ∃ (a : Addr) (ns : List Int), vs = [.ref a] ∧ SqL K H a (ns.map V.int) ∧ ns.length ≤ 63 ∧ ∀ H' p l, Same H H' → PoolOk H' p l ns → Q (.ref p) H'
theorem ok_pool {f : Addr} {fd : FuncData} {k : Nat} (F : Fun K "_law_pool" "_law_pool" sPool f fd) (mi : mg "int" = none) (ml : mg "list" = none) : FnOk P w K mg base CX0 (k + 1) f fd ["_law_script"] (spPool K) := by
  refine F.ok scPool (fun vs H Q E h => ?_) (fun cdv A outer s H vs Q E hr h => ?_)
  · obtain ⟨a, ns, rfl, _⟩ := h
    rfl
  · obtain ⟨a, ns, rfl, hS, hlen, q⟩ := h
    refine ⟨_, pss_cons (ps_set (i := 1) scPool.nd rfl (.inl rfl) pe_int)
      (pss_cons (ps_for PassesOwn.never rfl (pi_list (pe_slice sl_list (pv 0) po_none (po_some pe_int))) (pg_name (i := 2) scPool.nd rfl (.inl rfl))
        (pss_one (ps_set (i := 1) scPool.nd rfl (.inl rfl) (pe_op op_mod (pe_callTy call_int1 (by rfl) mi (by decide +kernel) (pa_cons (pe_op op_add (pe_op op_mul (pv 1) pe_int) (pv 2)) pa_nil)) pe_int))))
      (pss_one (ps_ret (pe_lst (pa_cons (pe_callTy call_list_of (by rfl) ml (by decide +kernel) (pa_cons (pv 0) pa_nil)) (pa_cons pe_int (pa_cons pe_int (pa_cons pe_int (pa_cons (pv 1) pa_nil))))))))), ?_⟩
    -- _law_script[:63]
    refine ⟨.ref a, rfl, 63, rfl, a, _, rfl, hS, fun c nc => ?_⟩
    have s1 : Same H (upd H c (.lst (cutV (ns.map V.int) none (some 63)))) := same_upd nc
    have hC : SqL K (upd H c (.lst (cutV (ns.map V.int) none (some 63)))) c (cutV (ns.map V.int) none (some 63)) := .inl (.inl upd_same)
    have hints : ∀ (j : Nat) x, (cutV (ns.map V.int) none (some 63))[j]? = some x → ∃ z, x = V.int z := by
      intro j x hx
      have hm := List.mem_of_getElem? hx
      unfold cutV at hm
      obtain ⟨z, _, e⟩ := List.mem_map.mp (List.mem_of_mem_drop (List.mem_of_mem_take hm))
      exact ⟨z, e.symm⟩
    generalize hHc : upd H c (.lst (cutV (ns.map V.int) none (some 63))) = Hc at s1 hC ⊢
    refine ⟨c, rfl, ⟨_, hC⟩, for_list (xs := cutV (ns.map V.int) none (some 63)) (fun i σ H2 => H2 = Hc ∧ ∃ z y, σ = [some (.ref a), some (.int z), y]) ⟨rfl, 7, none, rfl⟩ (fun i σ H2 _ h => by rw [h.1]; exact hC) ?_ ?_⟩
    · rintro i x σ H2 hx ⟨rfl, z, y, rfl⟩
      obtain ⟨v, rfl⟩ := hints i x hx
      refine ⟨_, rfl, _, _, rfl, rfl, .inr ⟨by decide, by decide⟩, .int v, rfl, _, _, rfl, rfl, .inl ⟨_, rfl, ?_⟩⟩
      exact ⟨_, _, rfl, rfl, (by show (0 : Int) < 1000003; decide), rfl, _, _, rfl⟩
    · rintro σ H2 ⟨rfl, z, y, rfl⟩
      -- [list(_law_script), 0, 0, 0, _law_salt]
      refine ⟨.ref a, rfl, a, _, rfl, .inl (s1.seq hS), fun l nl => ?_⟩
      refine ⟨_, rfl, (by show 5 ≤ sizeLine; decide), fun p np => ?_⟩
      have s2 : Same H2 (upd H2 l (.lst (ns.map V.int))) := same_upd nl
      have s3 : Same (upd H2 l (.lst (ns.map V.int))) (upd (upd H2 l (.lst (ns.map V.int))) p (.lst [.ref l, .int 0, .int 0, .int 0, .int z])) := same_upd np
      refine q _ p l (s1.trans (s2.trans s3)) ⟨0, 0, 0, z, upd_same, ?_, by decide, ?_, hlen⟩
      · exact s3 _ _ upd_same
      · intro e
        rw [← e, upd_same] at np
        cases np
end
end FW
end
section
set_option Elab.async false
set_option linter.all false
set_option maxRecDepth 100000
set_option maxHeartbeats 4000000
namespace FW
open PySem PySem.Spec PyProof.Rows L2 FM
section
variable {P : Program} {w : World} {K : PySem.W.Frag} {mg : Str → Option Value} {base : Heap}
def spSpread : Sp := fun vs H Q _ => ∃ i : Int, vs = [.int i] ∧ ∀ j : Int, Q (.int j) H
theorem ok_spread {f : Addr} {fd : FuncData} {k : Nat} (F : Fun K "_law_spread" "_law_spread" sSpread f fd) (mi : mg "int" = none) (mr : mg "range" = none) : FnOk P w K mg base CX0 (k + 1) f fd ["_law_cell"] spSpread := by
  refine F.ok scSpread (fun vs H Q E h => ?_) (fun cdv A outer s H vs Q E hr h => ?_)
  · obtain ⟨i, rfl, _⟩ := h
    rfl
  · obtain ⟨i, rfl, q⟩ := h
    have nd := scSpread.nd
    refine ⟨_, pss_cons (ps_set (i := 1) nd rfl (.inl rfl) (pe_op op_mod (pe_callTy call_int1 (by rfl) mi (by decide +kernel) (pa_cons (pv 0) pa_nil)) pe_int))
      (pss_cons (ps_set (i := 2) nd rfl (.inl rfl) pe_int)
      (pss_cons (ps_for PassesOwn.never rfl (pi_range1 (by rfl) mr (pa_cons pe_int pa_nil)) (pg_name (i := 3) nd rfl (.inl rfl))
        (pss_cons (ps_set (i := 1) nd rfl (.inl rfl) (pe_op op_mod (pe_callTy call_int1 (by rfl) mi (by decide +kernel) (pa_cons (pe_op op_add (pe_op op_add (pe_op op_mul (pv 1) pe_int) pe_int) (pv 3)) pa_nil)) pe_int))
        (pss_one (ps_set (i := 2) nd rfl (.inl rfl) (pe_op op_add (pe_op op_mul (pv 2) pe_int) (pv 1))))))
      (pss_one (ps_ret (pv 2))))), ?_⟩
    refine ⟨.int i, rfl, .inl ⟨i, rfl, i, 2147483647, rfl, rfl, (by show (0 : Int) < 2147483647; decide), ?_⟩⟩
    refine ⟨4, rfl, by decide, by decide, for_range (n := 4) (fun _ σ H2 => H2 = H ∧ ∃ a b y, σ = [some (.int i), some (.int a), some (.int b), y]) ⟨rfl, _, _, _, rfl⟩ ?_ ?_⟩
    · rintro j σ H2 _ ⟨rfl, a, b, y, rfl⟩
      refine ⟨.int a, rfl, a, 48271, rfl, rfl, .inr ⟨by decide, by decide⟩, a * 48271, 12345, rfl, rfl, _, rfl, _, _, rfl, rfl, .inl ⟨_, rfl, _, 2147483647, rfl, rfl, (by show (0 : Int) < 2147483647; decide), ?_⟩⟩
      exact ⟨_, rfl, b, 2147483647, rfl, rfl, .inr ⟨by decide, by decide⟩, _, rfl, _, _, rfl, rfl, rfl, _, _, _, rfl⟩
    · rintro σ H2 ⟨rfl, a, b, y, rfl⟩
      exact ⟨_, rfl, q b⟩
end
end FW
end
section
set_option Elab.async false
set_option linter.all false
set_option maxRecDepth 100000
set_option maxHeartbeats 4000000
namespace FW
open PySem PySem.Spec PyProof.Rows L2 FM
def PoolIs (H : Hp) (p l : Addr) (ns : List Int) (i c k s : Int) : Prop := H p = some (.lst [.ref l, .int i, .int c, .int k, .int s]) ∧ H l = some (.lst (ns.map V.int)) ∧ l ≠ p
theorem PoolIs.set {H : Hp} {p l : Addr} {ns : List Int} {i c k s : Int} (h : PoolIs H p l ns i c k s) (i' c' k' s' : Int) : PoolIs (upd H p (.lst [.ref l, .int i', .int c', .int k', .int s'])) p l ns i' c' k' s' := by
  obtain ⟨_, h2, h3⟩ := h
  refine ⟨upd_same, ?_, h3⟩
  rw [upd_ne h3]
  exact h2
section
variable {P : Program} {w : World} {K : PySem.W.Frag} {mg : Str → Option Value} {base : Heap}
def spDraw : Sp := fun vs H Q _ => ∃ (p l : Addr) (ns : List Int) (m : Int), vs = [.ref p, .int m] ∧ PoolOk H p l ns ∧ 0 < m ∧ m < 1000 ∧ ∀ H' r, But p H H' → PoolOk H' p l ns → 0 ≤ r → r < m → Q (.int r) H'
theorem ok_draw {f fS : Addr} {fd fdS : FuncData} {k : Nat} (F : Fun K "_law_draw" "_law_draw" sDraw f fd) (FS : Fun K "_law_spread" "_law_spread" sSpread fS fdS) (bS : Binds K fdS ["_law_cell"] []) (gS : mg "_law_spread" = some (.ref fS))
    (mi : mg "int" = none) (ml : mg "len" = none) (mr : mg "range" = none) : FnOk P w K mg base CX0 (k + 2) f fd ["_law_pool_here", "_law_many"] spDraw := by
  have GS : FnOk P w K mg base CX0 (k + 1) fS fdS ["_law_cell"] spSpread := ok_spread FS mi mr
  refine F.ok scDraw (fun vs H Q E h => ?_) (fun cdv A outer s H vs Q E hr h => ?_)
  · obtain ⟨p, l, ns, m, rfl, _⟩ := h
    rfl
  · obtain ⟨p, l, ns, m, rfl, ⟨i, c, n, sa, hp, hl, hi, hne, hlen⟩, m0, m1, q⟩ := h
    have nd := scDraw.nd
    refine ⟨_, C8.pss_cut (ps_if (PW.pt (pw_and (pt_cmpR op_le (pe_ix ix_list (pv 0) pe_int (fun _ _ => rfl)) pe_int (nomark _))
          (pw_and1 (pt_cmpR op_lt (pe_ix ix_list (pv 0) pe_int (fun _ _ => rfl)) (pe_callB call_len_seq (by rfl) ml PySem.boot_len (pa_cons (pe_ix ix_list (pv 0) pe_int (fun _ _ => rfl)) pa_nil)) (nomark _)))))
        (pss_cons (ps_set (i := 2) nd rfl (.inl rfl) (pe_ix ix_list (pe_ix ix_list (pv 0) pe_int (fun _ _ => rfl)) (pe_ix ix_list (pv 0) pe_int (fun _ _ => rfl)) (fun _ _ => rfl)))
        (pss_cons (ps_asg (pe_op op_add (pe_ix ix_list (pv 0) pe_int (fun _ _ => rfl)) pe_int) (pg_sub (pv 0) pe_int set_list))
        (pss_cons (ps_asg (pv 2) (pg_sub (pv 0) pe_int set_list))
        (pss_one (ps_if (pt_cmpR op_lt (pv 2) pe_int (nomark _)) (pss_one (ps_asg (pe_call GS hr (by rfl) gS FS.kp bS .nil pass0 (pa_cons (pv 2) pa_nil)) (pg_sub (pv 0) pe_int set_list))) pss_nil)))))
        pss_nil)
      (pss_cons (ps_asg (pe_op op_add (pe_ix ix_list (pv 0) pe_int (fun _ _ => rfl)) pe_int) (pg_sub (pv 0) pe_int set_list))
      (pss_cons (ps_if (pt_cmpR op_le (pe_ix ix_list (pv 0) pe_int (fun _ _ => rfl)) pe_int (nomark _))
        (pss_cons (ps_set (i := 3) nd rfl (.inl rfl) (pe_op op_mod (pe_callTy call_int1 (by rfl) mi (by decide +kernel)
            (pa_cons (pe_op op_add (pe_op op_add (pe_op op_mul (pe_ix ix_list (pv 0) pe_int (fun _ _ => rfl)) pe_int) (pe_op op_mul (pe_ix ix_list (pv 0) pe_int (fun _ _ => rfl)) pe_int)) pe_int) pa_nil)) pe_int))
        (pss_cons (ps_set (i := 3) nd rfl (.inl rfl) (pe_op op_mod (pe_callTy call_int1 (by rfl) mi (by decide +kernel) (pa_cons (pe_op op_add (pe_op op_mul (pv 3) pe_int) (pe_ix ix_list (pv 0) pe_int (fun _ _ => rfl))) pa_nil)) pe_int))
        (pss_one (ps_ret (pe_op op_mod (pe_op op_fdiv (pv 3) pe_int) (pv 1))))))
        pss_nil)
      (pss_cons (ps_set (i := 4) nd rfl (.inl rfl) (pe_op op_mod (pe_callTy call_int1 (by rfl) mi (by decide +kernel) (pa_cons (pe_ix ix_list (pv 0) pe_int (fun _ _ => rfl)) pa_nil)) (pv 1)))
      (pss_cons (ps_asg (pe_op op_fdiv (pe_ix ix_list (pv 0) pe_int (fun _ _ => rfl)) (pv 1)) (pg_sub (pv 0) pe_int set_list))
      (pss_one (ps_ret (pv 4))))))), ?_⟩
    have px : ∀ {H2 : Hp} {i c n sa : Int}, PoolIs H2 p l ns i c n sa → SqL K H2 p [.ref l, .int i, .int c, .int n, .int sa] := fun h => SqL.of h.1
    have I0 : PoolIs H p l ns i c n sa := ⟨hp, hl, hne⟩
    refine ⟨fun σ' H' => ∃ i' c' y, σ' = [some (.ref p), some (.int m), y, none, none] ∧ But p H H' ∧ PoolIs H' p l ns i' c' n sa ∧ 0 ≤ i', ?_, ?_⟩
    · -- the first if
      refine ⟨.ref p, rfl, p, _, 2, .int c, rfl, rfl, px I0, atI_nat (j := 2) rfl, c, 0, rfl, rfl, _, rfl, ?_⟩
      have no : ∃ i' c' y, [some (V.ref p), some (.int m), none, none, none] = [some (.ref p), some (.int m), y, none, none] ∧ But p H H ∧ PoolIs H p l ns i' c' n sa ∧ 0 ≤ i' := ⟨i, c, none, rfl, But.refl, I0, hi⟩
      refine ite2 (fun _ => ?_) (fun _ => iteF no)
      refine ⟨.ref p, rfl, p, _, 1, .int i, rfl, rfl, px I0, atI_nat (j := 1) rfl, .ref p, rfl, p, _, 0, .ref l, rfl, rfl, px I0, atI_nat (j := 0) rfl, l, _, rfl, .inl (SqL.of hl), i, _, rfl, rfl, _, rfl, ?_⟩
      refine ite2 (fun hlt => ?_) (fun _ => no)
      have hlt' : i < (ns.length : Int) := by
        have := of_decide_eq_true hlt
        rw [List.length_map] at this
        exact this
      obtain ⟨j, rfl⟩ : ∃ j : Nat, i = (j : Int) := ⟨i.toNat, by omega⟩
      have hj : j < ns.length := by omega
      have hg : (ns.map V.int)[j]? = some (.int ns[j]) := by
        rw [List.getElem?_map, List.getElem?_eq_getElem hj]
        rfl
      -- cell
      refine ⟨.ref p, rfl, p, _, 0, .ref l, rfl, rfl, px I0, atI_nat (j := 0) rfl, .ref p, rfl, p, _, 1, .int j, rfl, rfl, px I0, atI_nat (j := 1) rfl, l, _, (j : Int), .int ns[j], rfl, rfl, SqL.of hl, atI_nat hg, ?_⟩
      -- pool[1] = pool[1] + 1
      refine ⟨.ref p, rfl, p, _, 1, .int j, rfl, rfl, px I0, atI_nat (j := 1) rfl, (j : Int), 1, rfl, rfl, .ref p, rfl, p, _, 1, 1, rfl, rfl, hp, rfl, ?_⟩
      have I1 := I0.set ((j : Int) + 1) c n sa
      -- pool[2] = cell
      refine ⟨.int ns[j], rfl, .ref p, rfl, p, _, 2, 2, rfl, rfl, I1.1, rfl, ?_⟩
      have I2 := I1.set ((j : Int) + 1) ns[j] n sa
      have B2 : But p H (upd (upd H p (.lst [.ref l, .int ((j : Int) + 1), .int c, .int n, .int sa])) p (.lst [.ref l, .int ((j : Int) + 1), .int ns[j], .int n, .int sa])) := But.upd.trans But.upd
      refine ⟨.int ns[j], rfl, ns[j], 1000000000000000000, rfl, rfl, _, rfl, ite2 (fun _ => ?_) (fun _ => ?_)⟩
      · refine ⟨.int ns[j], rfl, ns[j], rfl, fun z => ?_⟩
        refine ⟨.ref p, rfl, p, _, 2, 2, rfl, rfl, I2.1, rfl, ?_⟩
        exact ⟨(j : Int) + 1, z, _, rfl, B2.trans But.upd, I2.set ((j : Int) + 1) z n sa, by omega⟩
      · exact ⟨(j : Int) + 1, ns[j], _, rfl, B2, I2, by omega⟩
    · rintro σ H1 ⟨i1, c1, y, rfl, B1, I1, hi1⟩
      -- pool[3] = pool[3] + 1
      refine ⟨.ref p, rfl, p, _, 3, .int n, rfl, rfl, px I1, atI_nat (j := 3) rfl, n, 1, rfl, rfl, .ref p, rfl, p, _, 3, 3, rfl, rfl, I1.1, rfl, ?_⟩
      have I2 := I1.set i1 c1 (n + 1) sa
      have B2 := B1.trans (But.upd (o := .lst [.ref l, .int i1, .int c1, .int (n + 1), .int sa]))
      refine ⟨.ref p, rfl, p, _, 2, .int c1, rfl, rfl, px I2, atI_nat (j := 2) rfl, c1, 0, rfl, rfl, _, rfl, ite2 (fun _ => ?_) (fun _ => ?_)⟩
      · refine ⟨.ref p, rfl, p, _, 4, .int sa, rfl, rfl, px I2, atI_nat (j := 4) rfl, sa, 48271, rfl, rfl, .inr ⟨by decide, by decide⟩, .ref p, rfl, p, _, 3, .int (n + 1), rfl, rfl, px I2, atI_nat (j := 3) rfl, n + 1, 69621, rfl, rfl, .inr ⟨by decide, by decide⟩, ?_⟩
        refine ⟨_, _, rfl, rfl, _, 1, rfl, rfl, .inl ⟨_, rfl, _, 2147483647, rfl, rfl, (by show (0 : Int) < 2147483647; decide), ?_⟩⟩
        refine ⟨_, rfl, _, 16807, rfl, rfl, .inr ⟨by decide, by decide⟩, .ref p, rfl, p, _, 3, .int (n + 1), rfl, rfl, px I2, atI_nat (j := 3) rfl, _, n + 1, rfl, rfl, .inl ⟨_, rfl, _, 2147483629, rfl, rfl, (by show (0 : Int) < 2147483629; decide), ?_⟩⟩
        refine ⟨_, rfl, _, 5, rfl, rfl, ⟨by decide, by decide⟩, .int m, rfl, _, m, rfl, rfl, m0, ?_⟩
        exact q _ _ B2 ⟨i1, c1, n + 1, sa, I2.1, I2.2.1, hi1, hne, hlen⟩ (Int.emod_nonneg _ (by omega)) (Int.emod_lt_of_pos _ m0)
      · refine ⟨.ref p, rfl, p, _, 2, .int c1, rfl, rfl, px I2, atI_nat (j := 2) rfl, .inl ⟨c1, rfl, .int m, rfl, c1, m, rfl, rfl, m0, ?_⟩⟩
        refine ⟨.ref p, rfl, p, _, 2, .int c1, rfl, rfl, px I2, atI_nat (j := 2) rfl, .int m, rfl, c1, m, rfl, rfl, ⟨m0, by omega⟩, .ref p, rfl, p, _, 2, 2, rfl, rfl, I2.1, rfl, ?_⟩
        have I3 := I2.set i1 (c1 / m) (n + 1) sa
        refine ⟨_, rfl, ?_⟩
        exact q _ _ (B2.trans But.upd) ⟨i1, c1 / m, n + 1, sa, I3.1, I3.2.1, hi1, hne, hlen⟩ (Int.emod_nonneg _ (by omega)) (Int.emod_lt_of_pos _ m0)
end
end FW
end
section
set_option Elab.async false
set_option linter.all false
set_option maxRecDepth 100000
set_option maxHeartbeats 4000000
namespace FW
open PySem PySem.Spec PyProof.Rows L2 FM
structure PI (n i : Nat) (w : List Ar) : Prop where
  ends : ∀ e ∈ w, e.1 < e.2 ∧ e.2 < n ∧ e.1 < i
  nd : w.Nodup
  len : w.length ≤ 7 * i
theorem PI.next {n i : Nat} {w : List Ar} (h : PI n i w) (hn : n ≤ 7) : PI n (i + 1) (w ++ (List.range (n - (i + 1))).map fun j => (i, i + 1 + j)) where
  ends := by
    intro e he
    rcases List.mem_append.mp he with he | he
    · have := h.ends e he
      omega
    · obtain ⟨j, hj, rfl⟩ := List.mem_map.mp he
      have := List.mem_range.mp hj
      exact ⟨by show i < i + 1 + j; omega, by show i + 1 + j < n; omega, by show i < i + 1; omega⟩
  nd := by
    rw [List.nodup_append]
    refine ⟨h.nd, ?_, ?_⟩
    · rw [List.Nodup, List.pairwise_map]
      refine (List.pairwise_lt_range (n := n - (i + 1))).imp ?_
      intro a b hab e
      have e2 : i + 1 + a = i + 1 + b := congrArg Prod.snd e
      omega
    · intro a ha b hb e
      subst e
      obtain ⟨j, _, e⟩ := List.mem_map.mp hb
      have h1 := (h.ends a ha).2.2
      have e1 : i = a.1 := congrArg Prod.fst e
      omega
  len := by
    have := h.len
    rw [List.length_append, List.length_map, List.length_range]
    omega
/-- a graph of at most seven vertices -/
structure G7 (n : Nat) (E : List Ar) : Prop where
  gr : Gr n E
  len : E.length ≤ 49
theorem PI.g7 {n : Nat} {w : List Ar} (h : PI n n w) (hn : n ≤ 7) : G7 n w := ⟨⟨fun e he => ⟨(h.ends e he).1, (h.ends e he).2.1⟩, h.nd⟩, by
  have := h.len
  omega⟩
theorem G7.sub {n : Nat} {E E' : List Ar} (g : G7 n E) (s : E'.Sublist E) : G7 n E' := ⟨⟨fun e he => g.gr.ends e (s.mem he), g.gr.nd.sublist s⟩, Nat.le_trans s.length_le g.len⟩
section
variable {P : Program} {w : World} {K : PySem.W.Frag} {mg : Str → Option Value} {base : Heap}
def spPairs (K : PySem.W.Frag) : Sp := fun vs H Q _ => ∃ n : Nat, vs = [nv n] ∧ n ≤ 7 ∧ ∀ H' l xs E, Same H H' → H l = none → H' l = some (.lst xs) → Ats K H' xs E → G7 n E → Q (.ref l) H'
theorem ok_pairs {f : Addr} {fd : FuncData} {k : Nat} (F : Fun K "_law_pairs" "_law_pairs" sPairs f fd) (mr : mg "range" = none) : FnOk P w K mg base CX0 (k + 1) f fd ["_law_n"] (spPairs K) := by
  refine F.ok scPairs (fun vs H Q E h => ?_) (fun cdv A outer s H vs Q E hr h => ?_)
  · obtain ⟨n, rfl, _⟩ := h
    rfl
  · obtain ⟨n, rfl, hn, q⟩ := h
    have nd := scPairs.nd
    refine ⟨_, pss_cons (ps_set (i := 1) nd rfl (.inl rfl) (pe_lst pa_nil))
      (pss_cons (ps_for PassesOwn.never rfl (pi_range1 (by rfl) mr (pa_cons (pv 0) pa_nil)) (pg_name (i := 2) nd rfl (.inr rfl))
        (pss_one (ps_set (i := 1) nd rfl (.inl rfl) (pe_op op_cat (pv 1) (pe_lc (own := [("_law_v", 3)]) (g := gName 3) (tt := tYes) (by rfl) nd (pi_range2 (by rfl) mr (pa_cons (pe_op op_add (pv 2) pe_int) (pa_cons (pv 0) pa_nil)))
          (blkOk_by (own := [("_law_v", 3)]) (N := ["_law_n", "_law_pairs_here", "_law_u", "_law_v"]) (sc := defScope sPairs) (by decide +kernel)) (fun _ _ _ _ _ => pg_name (i := 3) nd rfl (Or.inl rfl)) (fun _ _ _ _ _ => pts_nil) (fun _ _ _ _ _ => pe_tup (pa_cons (pv 2) (pa_cons (pv 3) pa_nil))))))))
      (pss_one (ps_ret (pv 1)))), ?_⟩
    refine ⟨Nat.zero_le _, fun l0 nl0 => ?_⟩
    have s0 : Same H (upd H l0 (.lst [])) := same_upd nl0
    refine ⟨nv n, rfl, (n : Int), rfl, by omega, by omega, for_range (n := ((n : Int)).toNat) (fun i σ H2 => ∃ l xs ws y, σ = [some (nv n), some (.ref l), y, none] ∧ Same H H2 ∧ H l = none ∧ H2 l = some (.lst xs) ∧ Ats K H2 xs ws ∧ PI n i ws)
      ⟨l0, [], [], none, rfl, s0, nl0, upd_same, .nil, ⟨(fun e he => by cases he), List.nodup_nil, Nat.le_refl _⟩⟩ ?_ ?_⟩
    · rintro i σ H2 hi ⟨l, xs, ws, y, rfl, sm, nl, el, ha, pi⟩
      have hin : i < n := by omega
      -- l + [..]
      refine ⟨.ref l, rfl, _, rfl, _, 1, rfl, rfl, nv n, rfl, (0 : Int) + (i : Nat) + 1, (n : Int), rfl, ⟨by omega, by omega, by omega, by omega⟩, fun D nD => ?_⟩
      have hneD : l ≠ D := ne_of_none el nD
      refine lc_range (lo := (0 : Int) + (i : Nat) + 1) (n := ((n : Int) - ((0 : Int) + (i : Nat) + 1)).toNat) (fun j H3 => ∃ ys, Same H2 H3 ∧ H3 D = some (.lst ys) ∧ Ats K H3 ys ((List.range j).map fun m => (i, i + 1 + m))) ⟨[], same_upd nD, upd_same, .nil⟩ ?_ ?_
      · rintro j H3 hj ⟨ys, s3, eD, hy⟩
        refine ⟨rfl, _, rfl, _, rfl, (by show 2 ≤ sizeLine; decide), fun p np => ?_⟩
        have hlen : ys.length = j := by rw [hy.length, List.length_map, List.length_range]
        have hpD : D ≠ p := ne_of_none eD np
        have s4 : Same H3 (upd H3 p (.tup [.int ((0 : Int) + (i : Nat)), .int ((0 : Int) + (i : Nat) + 1 + (j : Nat))])) := same_upd np
        refine ⟨ys, ?_, ?_, ys ++ [.ref p], ?_, upd_same, ?_⟩
        · rw [upd_ne hpD]
          exact eD
        · rw [hlen]
          exact small1000 (by omega)
        · intro b o e
          rw [upd_ne (ne_of_none e nD)]
          exact s4 _ _ (s3 _ _ e)
        · rw [List.range_succ, List.map_append]
          have tsD : TS K (upd H3 p (.tup [.int ((0 : Int) + (i : Nat)), .int ((0 : Int) + (i : Nat) + 1 + (j : Nat))])) (upd (upd H3 p (.tup [.int ((0 : Int) + (i : Nat)), .int ((0 : Int) + (i : Nat) + 1 + (j : Nat))])) D (.lst (ys ++ [.ref p]))) :=
            (But.upd (p := D)).ts (ys := ys) (by rw [upd_ne hpD]; exact eD)
          refine esnoc (tsD.ats ((Same.ts s4).ats hy)) (tsD.at ⟨p, rfl, SqT.of ?_⟩)
          rw [upd_same]
          have e1 : (0 : Int) + (i : Nat) = ((i : Nat) : Int) := by omega
          have e2 : (0 : Int) + (i : Nat) + 1 + (j : Nat) = ((i + 1 + j : Nat) : Int) := by omega
          rw [e1]
          rw [e1] at e2
          rw [e2]
      · rintro H3 ⟨ys, s3, eD, hy⟩
        have hm : ((n : Int) - ((0 : Int) + (i : Nat) + 1)).toNat = n - (i + 1) := by omega
        rw [hm] at hy
        have hx := (Same.ts s3).ats ha
        have hl1 := hx.length
        have hl2 := hy.length
        have hl3 := pi.len
        rw [List.length_map, List.length_range] at hl2
        refine ⟨l, D, xs, ys, rfl, rfl, s3 _ _ el, eD, ?_, fun p np => ?_⟩
        · exact Nat.le_of_lt (small1000 (by omega))
        · have s5 : Same H3 (upd H3 p (.lst (xs ++ ys))) := same_upd np
          exact ⟨p, xs ++ ys, _, _, rfl, sm.trans (s3.trans s5), (sm.trans s3).free np, upd_same, (Same.ts s5).ats (eapp hx hy), pi.next hn⟩
    · rintro σ H2 ⟨l, xs, ws, y, rfl, sm, nl, el, ha, pi⟩
      have hm : ((n : Int)).toNat = n := by omega
      rw [hm] at pi
      exact ⟨.ref l, rfl, q H2 l xs ws sm nl el ha (pi.g7 hn)⟩
end
end FW
end
section
set_option Elab.async false
set_option linter.all false
set_option maxRecDepth 100000
set_option maxHeartbeats 4000000
namespace FW
open PySem PySem.Spec PyProof.Rows L2 FM
theorem hu65 {A : Around} {k : Nat} (hr : Room k A) : A.units + 65 < cLine := by
  have := hr.un
  omega
section
variable {P : Program} {w : World} {K : PySem.W.Frag} {mg : Str → Option Value} {base : Heap}
def GraphAt (K : PySem.W.Frag) (H : Hp) (g : Addr) (n : Nat) (E : List Ar) : Prop := ∃ te xs, SqT K H g [nv n, .ref te] ∧ SqT K H te xs ∧ Ats K H xs E
theorem TS.graph {H H' : Hp} (s : TS K H H') {g : Addr} {n : Nat} {E : List Ar} (h : GraphAt K H g n E) : GraphAt K H' g n E := by
  obtain ⟨te, xs, h1, h2, h3⟩ := h
  exact ⟨te, xs, s.1 _ _ h1, s.1 _ _ h2, s.ats h3⟩
theorem range_int (n : Nat) : ((n : Int)).toNat = n := Int.toNat_natCast n
theorem zero_add_int (i : Nat) : (0 : Int) + (i : Nat) = ((i : Nat) : Int) := Int.zero_add _

/-- pair in edges or (pair[1], pair[0]) in edges, over data -/
theorem in_tpl {Q : V → Hp → Prop} {H : Hp} {x : V} {a : Ar} {te : Addr} {xs : List V} {E : List Ar} (h1 : At K H x a) (h2 : SqT K H te xs) (h3 : Ats K H xs E) (q : Q (.bl (decide (a ∈ E))) H) : rInT K x (.ref te) H Q := by
  refine ⟨arD a, E.map arD, h1.dp, .tup h2 h3.dp, arD_shaped a, tpD_shaped E, ?_⟩
  rw [any_arD]
  exact q
theorem in_lst {Q : V → Hp → Prop} {H : Hp} {x : V} {a : Ar} {te : Addr} {xs : List V} {E : List Ar} (h1 : At K H x a) (h2 : SqL K H te xs) (h3 : Ats K H xs E) (q : Q (.bl (decide (a ∈ E))) H) : rInD K x (.ref te) H Q := by
  refine ⟨arD a, E.map arD, h1.dp, .lst h2 h3.dp, arD_shaped a, lsD_shaped E, ?_⟩
  rw [any_arD]
  exact q
theorem notin_lst {Q : V → Hp → Prop} {H : Hp} {x : V} {a : Ar} {te : Addr} {xs : List V} {E : List Ar} (h1 : At K H x a) (h2 : SqL K H te xs) (h3 : Ats K H xs E) (q : Q (.bl (!decide (a ∈ E))) H) : rNotInD K x (.ref te) H Q := by
  refine ⟨arD a, E.map arD, h1.dp, .lst h2 h3.dp, arD_shaped a, lsD_shaped E, ?_⟩
  rw [any_arD]
  exact q
theorem at_new {H : Hp} {p : Addr} {a : Ar} : At K (upd H p (.tup [nv a.1, nv a.2])) (.ref p) a := ⟨p, rfl, SqT.of upd_same⟩

def spNear (K : PySem.W.Frag) : Sp := fun vs H Q _ => ∃ (g : Addr) (n v : Nat) (E : List Ar), vs = [.ref g, nv v] ∧ n ≤ 7 ∧ GraphAt K H g n E ∧
  ∀ H' l, Same H H' → H l = none → H' l = some (.lst ((near n E v).map nv)) → Q (.ref l) H'
theorem ok_near {f : Addr} {fd : FuncData} {k : Nat} (F : Fun K "_law_near" "_law_near" sNear f fd) (mr : mg "range" = none) : FnOk P w K mg base CX0 (k + 1) f fd ["_law_graph_here", "_law_v"] (spNear K) := by
  refine F.ok scNear (fun vs H Q E h => ?_) (fun cdv A outer s H vs Q E hr h => ?_)
  · obtain ⟨g, n, v, Es, rfl, _⟩ := h
    rfl
  · obtain ⟨g, n, v, Es, rfl, hn, hG, q⟩ := h
    have nd := scNear.nd
    have hu := hu65 hr
    refine ⟨_, pss_one (ps_ret (pe_lc (own := [("_law_u", 2)]) (g := gName 2) (by rfl) nd (pi_range1 (by rfl) mr (pa_cons (pe_ix ix_tup (pv 0) pe_int (fun _ _ => rfl)) pa_nil))
      (blkOk_by (own := [("_law_u", 2)]) (N := ["_law_graph_here", "_law_v", "_law_u"]) (sc := defScope sNear) (by decide +kernel)) (fun _ _ _ _ _ => pg_name (i := 2) nd rfl (Or.inl rfl))
      (fun _ _ _ _ _ => pts_one (PW.pt (pw_or (pt_cmpR (r := rInT K) (op_inT hu) (pe_tup (pa_cons (pv 2) (pa_cons (pv 1) pa_nil))) (pe_ix (r := rIxT K) ix_tup (pv 0) pe_int (fun _ _ => rfl)) (by rfl))
        (pw_or1 (pt_cmpR (r := rInT K) (op_inT hu) (pe_tup (pa_cons (pv 1) (pa_cons (pv 2) pa_nil))) (pe_ix (r := rIxT K) ix_tup (pv 0) pe_int (fun _ _ => rfl)) (by rfl)))))) (fun _ _ _ _ _ => pv 2))), ?_⟩
    obtain ⟨te, xs, h1, h2, h3⟩ := id hG
    refine ⟨.ref g, rfl, g, _, 0, nv n, rfl, rfl, h1, atI_nat (j := 0) rfl, (n : Int), rfl, by omega, by omega, fun D nD => ?_⟩
    rw [range_int]
    refine lc_range (lo := 0) (n := n) (fun i H2 => Same H H2 ∧ H2 D = some (.lst (((List.range i).filter fun u => decide ((u, v) ∈ Es ∨ (v, u) ∈ Es)).map nv))) ⟨same_upd nD, upd_same⟩ ?_ ?_
    · rintro i H2 hi ⟨sm, eD⟩
      rw [zero_add_int]
      refine ⟨rfl, ?_⟩
      -- what is to be shown behind the test
      have yes : ∀ H3, Same H2 H3 → ((i, v) ∈ Es ∨ (v, i) ∈ Es) → ∃ acc, H3 D = some (.lst acc) ∧ acc.length < sizeLine ∧ (Same H (upd H3 D (.lst (acc ++ [nv i]))) ∧
          upd H3 D (.lst (acc ++ [nv i])) D = some (.lst (((List.range (i + 1)).filter fun u => decide ((u, v) ∈ Es ∨ (v, u) ∈ Es)).map nv))) := by
        intro H3 s3 hm
        refine ⟨_, s3 _ _ eD, ?_, ?_, ?_⟩
        · rw [List.length_map]
          have := List.length_filter_le (fun u => decide ((u, v) ∈ Es ∨ (v, u) ∈ Es)) (List.range i)
          rw [List.length_range] at this
          exact small1000 (by omega)
        · intro b o e
          rw [upd_ne (ne_of_none e nD)]
          exact s3 _ _ (sm _ _ e)
        · rw [upd_same, List.range_succ, List.filter_append, List.map_append, List.filter_cons, if_pos (by simpa using hm)]
          rfl
      have no : ∀ H3, Same H2 H3 → ¬ ((i, v) ∈ Es ∨ (v, i) ∈ Es) → Same H H3 ∧ H3 D = some (.lst (((List.range (i + 1)).filter fun u => decide ((u, v) ∈ Es ∨ (v, u) ∈ Es)).map nv)) := by
        intro H3 s3 hm
        refine ⟨sm.trans s3, ?_⟩
        rw [s3 _ _ eD, List.range_succ, List.filter_append, List.filter_cons, if_neg (by simpa using hm), List.filter_nil, List.append_nil]
      -- (u, v) in graph[1]
      refine ⟨nv i, rfl, nv v, rfl, (by show 2 ≤ sizeLine; decide), fun p np => ?_⟩
      have s4 : Same H2 (upd H2 p (.tup [nv i, nv v])) := same_upd np
      have t4 := Same.ts (K := K) (sm.trans s4)
      refine ⟨.ref g, rfl, g, _, 1, .ref te, rfl, rfl, t4.1 _ _ h1, atI_nat (j := 1) rfl, ?_⟩
      refine in_tpl (a := (i, v)) (at_new (a := (i, v))) (t4.1 _ _ h2) (t4.ats h3) ⟨_, rfl, ?_⟩
      refine ite2 (fun hm => ?_) (fun hm => ?_)
      · obtain ⟨acc, r1, r2, r3⟩ := yes _ s4 (.inl (of_decide_eq_true hm))
        exact ⟨nv i, rfl, acc, r1, r2, r3⟩
      · refine ⟨nv v, rfl, nv i, rfl, (by show 2 ≤ sizeLine; decide), fun p2 np2 => ?_⟩
        have s5 : Same (upd H2 p (.tup [nv i, nv v])) (upd (upd H2 p (.tup [nv i, nv v])) p2 (.tup [nv v, nv i])) := same_upd np2
        have t5 := t4.trans (Same.ts s5)
        refine ⟨.ref g, rfl, g, _, 1, .ref te, rfl, rfl, t5.1 _ _ h1, atI_nat (j := 1) rfl, ?_⟩
        refine in_tpl (a := (v, i)) (at_new (a := (v, i))) (t5.1 _ _ h2) (t5.ats h3) ⟨_, rfl, ?_⟩
        refine ite2 (fun hm2 => ?_) (fun hm2 => ?_)
        · obtain ⟨acc, r1, r2, r3⟩ := yes _ (s4.trans s5) (.inr (of_decide_eq_true hm2))
          exact ⟨nv i, rfl, acc, r1, r2, r3⟩
        · refine no _ (s4.trans s5) ?_
          rintro (h | h)
          · exact hm (decide_eq_true h)
          · exact hm2 (decide_eq_true h)
    · rintro H2 ⟨sm, eD⟩
      exact q H2 D sm nD eD
end
end FW
end
section
set_option Elab.async false
set_option linter.all false
set_option maxRecDepth 100000
set_option maxHeartbeats 4000000
namespace FW
open PySem PySem.Spec PyProof.Rows L2 FM
section
variable {P : Program} {w : World} {K : PySem.W.Frag} {mg : Str → Option Value} {base : Heap}
theorem take_next {α : Type} {l : List α} {i : Nat} {x : α} (h : l[i]? = some x) : l.take (i + 1) = l.take i ++ [x] := by
  rw [List.take_add_one, h]
  rfl
def spSorted (K : PySem.W.Frag) : Sp := fun vs H Q _ => ∃ (l : Addr) (n : Nat) (ys : List V) (es : List Ar), vs = [nv n, .ref l] ∧ n ≤ 7 ∧ SqL K H l ys ∧ Ats K H ys es ∧
  ∀ H' g E, Same H H' → GraphAt K H' g n E → G7 n E → Q (.ref g) H'
theorem ok_sorted {f fP : Addr} {fd fdP : FuncData} {k : Nat} (F : Fun K "_law_sorted_graph" "_law_sorted_graph" sSorted f fd) (FP : Fun K "_law_pairs" "_law_pairs" sPairs fP fdP) (bP : Binds K fdP ["_law_n"] []) (gP : mg "_law_pairs" = some (.ref fP))
    (mr : mg "range" = none) (mt : mg "tuple" = none) : FnOk P w K mg base CX0 (k + 2) f fd ["_law_n", "_law_edges"] (spSorted K) := by
  have GP : FnOk P w K mg base CX0 (k + 1) fP fdP ["_law_n"] (spPairs K) := ok_pairs FP mr
  refine F.ok scSorted (fun vs H Q E h => ?_) (fun cdv A outer s H vs Q E hr h => ?_)
  · obtain ⟨l, n, ys, es, rfl, _⟩ := h
    rfl
  · obtain ⟨l, n, ys, es, rfl, hn, hl, he, q⟩ := h
    have nd := scSorted.nd
    have hu := hu65 hr
    refine ⟨_, pss_one (ps_ret (pe_tup (pa_cons (pv 0) (pa_cons (pe_callTy call_tuple_of (by rfl) mt (by decide +kernel) (pa_cons (pe_lc (own := [("_law_pair", 2)]) (g := gName 2) (by rfl) nd
        (pi_list (pe_call GP hr (by rfl) gP FP.kp bP .nil pass0 (pa_cons (pv 0) pa_nil)))
      (blkOk_by (own := [("_law_pair", 2)]) (N := ["_law_n", "_law_edges", "_law_pair"]) (sc := defScope sSorted) (by decide +kernel)) (fun _ _ _ _ _ => pg_name (i := 2) nd rfl (Or.inl rfl))
      (fun _ _ _ _ _ => pts_one (PW.pt (pw_or (pt_cmpR (r := rInD K) (op_inD hu) (pv 2) (pv 1) (by rfl))
        (pw_or1 (pt_cmpR (r := rInD K) (op_inD hu) (pe_tup (pa_cons (pe_ix (r := rIxT K) ix_tup (pv 2) pe_int (fun _ _ => rfl)) (pa_cons (pe_ix (r := rIxT K) ix_tup (pv 2) pe_int (fun _ _ => rfl)) pa_nil))) (pv 1) (by rfl)))))) (fun _ _ _ _ _ => pv 2)) pa_nil)) pa_nil)))), ?_⟩
    refine ⟨nv n, rfl, nv n, rfl, n, rfl, hn, fun H1 lp xs Ep s1 nlp elp ha g7 => ?_⟩
    refine ⟨lp, rfl, ⟨xs, SqL.of elp⟩, fun D nD => ?_⟩
    have t1 := Same.ts (K := K) s1
    refine lc_list (K := K) (a := lp) (xs := xs) (fun i H2 => ∃ zs Ez, Same H1 H2 ∧ H2 D = some (.lst zs) ∧ Ats K H2 zs Ez ∧ Ez.Sublist (Ep.take i)) ⟨[], [], same_upd nD, upd_same, .nil, List.nil_sublist _⟩
      (fun i H2 _ h => ?_) ?_ ?_
    · obtain ⟨_, _, s2, _⟩ := h
      exact SqL.of (s2 _ _ elp)
    · rintro i x H2 hx ⟨zs, Ez, s2, eD, hz, hsub⟩
      have t2 := Same.ts (K := K) s2
      obtain ⟨e, he', hxe⟩ := eget (t2.ats ha) hx
      have hlz : zs.length ≤ 49 := by
        rw [hz.length]
        have h1 := hsub.length_le
        have h2 := g7.len
        rw [List.length_take] at h1
        omega
      have yes : ∀ H3, Same H2 H3 → ∃ acc, H3 D = some (.lst acc) ∧ acc.length < sizeLine ∧ ∃ zs Ez, Same H1 (upd H3 D (.lst (acc ++ [x]))) ∧ upd H3 D (.lst (acc ++ [x])) D = some (.lst zs) ∧ Ats K (upd H3 D (.lst (acc ++ [x]))) zs Ez ∧ Ez.Sublist (Ep.take (i + 1)) := by
        intro H3 s3
        have tD : TS K H3 (upd H3 D (.lst (zs ++ [x]))) := (But.upd (p := D)).ts (s3 _ _ eD)
        have t3 := (Same.ts (K := K) s3).trans tD
        refine ⟨zs, s3 _ _ eD, small1000 (by omega), zs ++ [x], Ez ++ [e], ?_, upd_same, esnoc (t3.ats hz) (t3.at hxe), ?_⟩
        · intro b o q
          rw [upd_ne (ne_of_none q nD)]
          exact s3 _ _ (s2 _ _ q)
        · rw [take_next he']
          exact hsub.append (List.Sublist.refl _)
      have no : ∀ H3, Same H2 H3 → ∃ zs Ez, Same H1 H3 ∧ H3 D = some (.lst zs) ∧ Ats K H3 zs Ez ∧ Ez.Sublist (Ep.take (i + 1)) := fun H3 s3 =>
        ⟨zs, Ez, s2.trans s3, s3 _ _ eD, (Same.ts s3).ats hz, by
          rw [take_next he']
          exact hsub.trans (List.sublist_append_left _ _)⟩
      obtain ⟨tx, rfl, htx⟩ := id hxe
      have t12 := t1.trans t2
      have hl2 : SqL K H2 l ys := (s1.trans s2).seq hl
      refine ⟨rfl, .ref tx, rfl, .ref l, rfl, in_lst hxe hl2 (t12.ats he) ⟨_, rfl, ite2 (fun _ => ?_) (fun _ => ?_)⟩⟩
      · obtain ⟨acc, r1, r2, r3⟩ := yes H2 (Same.refl _)
        exact ⟨.ref tx, rfl, acc, r1, r2, r3⟩
      · refine ⟨.ref tx, rfl, tx, _, 1, nv e.2, rfl, rfl, htx, atI_nat (j := 1) rfl, .ref tx, rfl, tx, _, 0, nv e.1, rfl, rfl, htx, atI_nat (j := 0) rfl, (by show 2 ≤ sizeLine; decide), fun p np => ?_⟩
        have s4 : Same H2 (upd H2 p (.tup [nv e.2, nv e.1])) := same_upd np
        refine ⟨.ref l, rfl, in_lst (a := (e.2, e.1)) (at_new (a := (e.2, e.1))) (s4.seq hl2) ((t12.trans (Same.ts s4)).ats he) ⟨_, rfl, ite2 (fun _ => ?_) (fun _ => ?_)⟩⟩
        · obtain ⟨acc, r1, r2, r3⟩ := yes _ s4
          exact ⟨.ref tx, rfl, acc, r1, r2, r3⟩
        · exact no _ s4
    · rintro H2 ⟨zs, Ez, s2, eD, hz, hsub⟩
      refine ⟨D, zs, rfl, .inl ⟨SqL.of eD, fun t nt => ?_⟩⟩
      have s3 : Same H2 (upd H2 t (.tup zs)) := same_upd nt
      refine ⟨(by show 2 ≤ sizeLine; decide), fun g ng => ?_⟩
      have s4 : Same (upd H2 t (.tup zs)) (upd (upd H2 t (.tup zs)) g (.tup [nv n, .ref t])) := same_upd ng
      refine q _ g Ez (s1.trans (s2.trans (s3.trans s4))) ⟨t, zs, SqT.of upd_same, SqT.of (s4 _ _ upd_same), ((Same.ts s3).trans (Same.ts s4)).ats hz⟩ (g7.sub (hsub.trans (List.take_sublist _ _)))
end
end FW
end
section
set_option Elab.async false
set_option linter.all false
set_option maxRecDepth 100000
set_option maxHeartbeats 4000000
namespace FW
open PySem PySem.Spec PyProof.Rows L2 FM
/-- a method of a built-in type within a block: the written part told -/
theorem pe_bmK {X : Cx} {K : PySem.W.Frag} {T id : String} {name : Str} {r : V → List V → Hp → VK → Prop} {o e : Expr} {es : List Expr} {to : TE} {t : TA} {apos cpos : Pos} (hK : X.K = K) (pa : PlainAttrs T) (slot : Slot T name id) (hty : typeOf (.builtin id) = pure (.type "method_descriptor"))
    (hm : MtR X id r) (ho : PE X o to) (ha : PA X (e :: es) t) (hbase : attributeBase o name X.env (eval o X.env) = eval o X.env := by rfl)
    (hfew : ((backTo cpos (starEach (e :: es) X.env)).all (fun x => !x.1) && (backToKw cpos (keywordEach [] X.env)).all (fun x => x.1.isSome)
      && decide ((e :: es).length + ([] : List Keyword).length + (if ([] : List Keyword).isEmpty then 0 else 1) < 30)) = true := by rfl)
    (hline : (apos.endLine == cpos.line) = true := by rfl) (hs : starEach (e :: es) X.env = (false, eval e X.env) :: starEach es X.env := by rfl) (hplain : (backTo cpos (starEach es X.env)).any (·.1) = false := by rfl) :
    PE X (.Call (.Attribute o name apos) (e :: es) [] cpos) (tBM K T r to t) := by
  subst hK
  exact pe_bm pa slot hty hm ho ha hbase hfew hline hs hplain
section
variable {P : Program} {w : World} {K : PySem.W.Frag} {mg : Str → Option Value} {base : Heap}
def EdgesAt (K : PySem.W.Frag) (H : Hp) (l : Addr) (n m : Nat) (es : List Ar) : Prop := ∃ xs, H l = some (.lst xs) ∧ Ats K H xs es ∧ (∀ e ∈ es, e.1 < n ∧ e.2 < n) ∧ es.length ≤ m
theorem at_new' {H : Hp} {p : Addr} {x y : V} {a : Ar} (hx : x = nv a.1) (hy : y = nv a.2) : At K (upd H p (.tup [x, y])) (.ref p) a := by
  rw [hx, hy]
  exact at_new
theorem nat_of {r : Int} (h : 0 ≤ r) : ∃ m : Nat, r = (m : Int) := ⟨r.toNat, by omega⟩
theorem EdgesAt.but {H H' : Hp} {l p : Addr} {n m : Nat} {es : List Ar} (h : EdgesAt K H l n m es) (b : But p H H') (hne : l ≠ p) (hp : ∃ ys, H p = some (.lst ys)) : EdgesAt K H' l n m es := by
  obtain ⟨xs, e, a, r⟩ := h
  obtain ⟨ys, hy⟩ := hp
  exact ⟨xs, b _ _ hne e, (b.ts hy).ats a, r⟩
theorem EdgesAt.same {H H' : Hp} {l : Addr} {n m : Nat} {es : List Ar} (h : EdgesAt K H l n m es) (s : Same H H') : EdgesAt K H' l n m es := by
  obtain ⟨xs, e, a, r⟩ := h
  exact ⟨xs, s _ _ e, (Same.ts s).ats a, r⟩
def But2 (p q : Addr) (H H' : Hp) : Prop := ∀ b o, b ≠ p → b ≠ q → H b = some o → H' b = some o
theorem But2.ts {H H' : Hp} {p q : Addr} {ys zs : List V} (s : But2 p q H H') (hp : H p = some (.lst ys)) (hq : H q = some (.lst zs)) : TS K H H' := ⟨fun a xs h => by
  rcases h with (h | ⟨o, h⟩) | h
  · exact .inl (.inl (s _ _ (ne_of h hp (fun q => nomatch q)) (ne_of h hq (fun q => nomatch q)) h))
  · exact .inl (.inr ⟨o, s _ _ (ne_of h hp (fun q => nomatch q)) (ne_of h hq (fun q => nomatch q)) h⟩)
  · exact .inr h, fun a o xs h => s _ _ (ne_of h hp (fun q => nomatch q)) (ne_of h hq (fun q => nomatch q)) h⟩
theorem But.free {H H' : Hp} {p a : Addr} (b : But p H H') (h : H' a = none) (n : a ≠ p) : H a = none := by
  cases e : H a with
  | none => rfl
  | some o =>
    rw [b _ _ n e] at h
    cases h
theorem erase_map {α β : Type} (f : α → β) : ∀ (l : List α) (k : Nat), (l.map f).eraseIdx k = (l.eraseIdx k).map f
  | [], _ => rfl
  | _ :: _, 0 => rfl
  | a :: l, k + 1 => congrArg (f a :: ·) (erase_map f l k)
theorem rgV_nv (n : Nat) : rgV 0 (n : Int) = (List.range n).map nv := by
  unfold rgV
  rw [show ((n : Int) - 0).toNat = n by omega]
  refine List.map_congr_left fun i _ => ?_
  rw [Int.zero_add]
theorem map_get {l : List Nat} {k : Nat} (h : k < l.length) : (l.map nv)[k]? = some (nv l[k]) := by
  rw [List.getElem?_map, List.getElem?_eq_getElem h]
  rfl
def spGraph (K : PySem.W.Frag) : Sp := fun vs H Q _ => ∃ (p l : Addr) (ns : List Int), vs = [.ref p, .int 7] ∧ PoolOk H p l ns ∧ ∀ H' g n E, But p H H' → PoolOk H' p l ns → GraphAt K H' g n E → G7 n E → 1 ≤ n → n ≤ 7 → Q (.ref g) H'
theorem ok_graph {f fD fP fS : Addr} {fd fdD fdP fdS : FuncData} (F : Fun K "_law_graph" "_law_graph" sGraph f fd)
    (FD : Fun K "_law_draw" "_law_draw" sDraw fD fdD) (bD : Binds K fdD ["_law_pool_here", "_law_many"] []) (gD : mg "_law_draw" = some (.ref fD)) (GD : FnOk P w K mg base CX0 2 fD fdD ["_law_pool_here", "_law_many"] spDraw)
    (FP : Fun K "_law_pairs" "_law_pairs" sPairs fP fdP) (bP : Binds K fdP ["_law_n"] []) (gP : mg "_law_pairs" = some (.ref fP)) (GP : FnOk P w K mg base CX0 2 fP fdP ["_law_n"] (spPairs K))
    (FS : Fun K "_law_sorted_graph" "_law_sorted_graph" sSorted fS fdS) (bS : Binds K fdS ["_law_n", "_law_edges"] []) (gS : mg "_law_sorted_graph" = some (.ref fS)) (GS : FnOk P w K mg base CX0 2 fS fdS ["_law_n", "_law_edges"] (spSorted K))
    (mr : mg "range" = none) (mt : mg "tuple" = none) (ml : mg "len" = none) (mls : mg "list" = none) : FnOk P w K mg base CX0 3 f fd ["_law_pool_here", "_law_most"] (spGraph K) := by
  refine F.ok scGraph (fun vs H Q E h => ?_) (fun cdv A outer s H vs Q E hr h => ?_)
  · obtain ⟨p, l, ns, rfl, _⟩ := h
    rfl
  · obtain ⟨p, l, ns, rfl, hpool, q⟩ := h
    have nd := scGraph.nd
    have hu := hu65 hr
    refine ⟨_, C8.pss_cut (ps_set (i := 2) nd rfl (.inl rfl) (pe_op op_add pe_int (pe_call GD hr (by rfl) gD FD.kp bD .nil pass0 (pa_cons (pv 0) (pa_cons (pv 1) pa_nil)))))
      (pss_cons (ps_set (i := 3) nd rfl (.inl rfl) (pe_call GD hr (by rfl) gD FD.kp bD .nil pass0 (pa_cons (pv 0) (pa_cons pe_int pa_nil))))
      (pss_cons (ps_if (pt_cmpR op_lt (pv 3) pe_int (nomark _))
        (pss_cons (ps_set (i := 4) nd rfl (.inr rfl) (pe_ix ix_tup (pe_tup (pa_cons pe_int (pa_cons pe_int (pa_cons pe_int pa_nil)))) (pv 3) (fun _ _ => rfl)))
        (pss_one (ps_ret (pe_tup (pa_cons (pv 2) (pa_cons (pe_callTy call_tuple_of (by rfl) mt (by decide +kernel) (pa_cons (pe_lc (own := [("_law_pair", 11)]) (g := gName 11) (by rfl) nd
            (pi_list (pe_call GP hr (by rfl) gP FP.kp bP .nil pass0 (pa_cons (pv 2) pa_nil)))
            (blkOk_by (own := [("_law_pair", 11)]) (N := ["_law_pool_here", "_law_most", "_law_n", "_law_turn", "_law_dense", "_law_edges", "_law_v", "_law_many", "_law_k", "_law_places", "_law_names", "_law_pair", "_law_edge"]) (sc := defScope sGraph) (by decide +kernel)) (fun _ _ _ _ _ => pg_name (i := 11) nd rfl (Or.inl rfl))
            (fun _ _ _ _ _ => pts_one (pt_cmpR op_lt (pe_call (sp := spDraw) GD hr (by rfl) gD FD.kp bD .nil pass0 (pa_cons (pv 0) (pa_cons pe_int pa_nil))) (pv 4) (nomark _))) (fun _ _ _ _ _ => pv 11)) pa_nil)) pa_nil))))))
        pss_nil)
      (pss_cons (ps_set (i := 5) nd rfl (.inl rfl) (pe_lst pa_nil))
      (pss_cons (ps_for PassesOwn.never rfl (pi_range2 (by rfl) mr (pa_cons pe_int (pa_cons (pv 2) pa_nil))) (pg_name (i := 6) nd rfl (.inl rfl))
        (pss_cons (ps_set (i := 7) nd rfl (.inl rfl) (pe_ix ix_tup (pe_tup (pa_cons pe_int (pa_cons pe_int (pa_cons pe_int pa_nil)))) (pe_op op_sub (pv 3) pe_int) (fun _ _ => rfl)))
        (pss_one (ps_for PassesOwn.never rfl (pi_range1 (by rfl) mr (pa_cons (pv 7) pa_nil)) (pg_name (i := 8) nd rfl (.inl rfl))
          (pss_one (ps_expr (pe_bm PySem.F.plainAttrs_list PySem.F.slot_list_append PySem.F.type_list_append mt_append (pv 5) (pa_cons (pe_tup (pa_cons (pe_call GD hr (by rfl) gD FD.kp bD .nil pass0 (pa_cons (pv 0) (pa_cons (pv 6) pa_nil))) (pa_cons (pv 6) pa_nil))) pa_nil))))))))
      (C8.pss_cut (ps_if (PW.pt (pw_and (pt_cmpR op_eq (pe_call GD hr (by rfl) gD FD.kp bD .nil pass0 (pa_cons (pv 0) (pa_cons pe_int pa_nil))) pe_int (nomark _))
          (pw_and1 (pt_cmpR op_gt (pe_callB call_len_seq (by rfl) ml PySem.boot_len (pa_cons (pv 5) pa_nil)) pe_int (nomark _)))))
        (pss_one (ps_expr (pe_bm PySem.F.plainAttrs_list PySem.F.slot_list_pop PySem.F.type_list_pop mt_popAt (pv 5) (pa_cons (pe_call GD hr (by rfl) gD FD.kp bD .nil pass0 (pa_cons (pv 0) (pa_cons (pe_callB call_len_seq (by rfl) ml PySem.boot_len (pa_cons (pv 5) pa_nil)) pa_nil))) pa_nil))))
        pss_nil)
      (pss_cons (ps_set (i := 9) nd rfl (.inr rfl) (pe_listRg rfl (by rfl) mls (prg_1 (by rfl) mr (pv 2))))
      (pss_cons (ps_set (i := 10) nd rfl (.inr rfl) (pe_lc (own := [("_law_v", 6)]) (g := gName 6) (by rfl) nd (pi_range1 (by rfl) mr (pa_cons (pv 2) pa_nil))
            (blkOk_by (own := [("_law_v", 6)]) (N := ["_law_pool_here", "_law_most", "_law_n", "_law_turn", "_law_dense", "_law_edges", "_law_v", "_law_many", "_law_k", "_law_places", "_law_names", "_law_pair", "_law_edge"]) (sc := defScope sGraph) (by decide +kernel)) (fun _ _ _ _ _ => pg_name (i := 6) nd rfl (Or.inl rfl))
            (fun _ _ _ _ _ => pts_nil) (fun _ _ _ _ _ => pe_bmK (K := K) (r := rPopAt) rfl PySem.F.plainAttrs_list PySem.F.slot_list_pop PySem.F.type_list_pop mt_popAt (pv 9) (pa_cons (pe_call (sp := spDraw) GD hr (by rfl) gD FD.kp bD .nil pass0 (pa_cons (pv 0) (pa_cons (pe_callB (r := fun xs H Q => ∃ p ys, xs = [.ref p] ∧ (SqL K H p ys ∨ SqT K H p ys) ∧ Q (.int ys.length) H) call_len_seq (by rfl) ml PySem.boot_len (pa_cons (pv 9) pa_nil)) pa_nil))) pa_nil))))
      (pss_one (ps_ret (pe_call GS hr (by rfl) gS FS.kp bS .nil pass0 (pa_cons (pv 2) (pa_cons (pe_lc (own := [("_law_edge", 12)]) (g := gName 12) (by rfl) nd (pi_list (pv 5))
            (blkOk_by (own := [("_law_edge", 12)]) (N := ["_law_pool_here", "_law_most", "_law_n", "_law_turn", "_law_dense", "_law_edges", "_law_v", "_law_many", "_law_k", "_law_places", "_law_names", "_law_pair", "_law_edge"]) (sc := defScope sGraph) (by decide +kernel)) (fun _ _ _ _ _ => pg_name (i := 12) nd rfl (Or.inl rfl))
            (fun _ _ _ _ _ => pts_nil) (fun _ _ _ _ _ => pe_tup (pa_cons (pe_ix (r := rIxL K) ix_list (pv 10) (pe_ix (r := rIxT K) ix_tup (pv 12) pe_int (fun _ _ => rfl)) (fun _ _ => rfl)) (pa_cons (pe_ix (r := rIxL K) ix_list (pv 10) (pe_ix (r := rIxT K) ix_tup (pv 12) pe_int (fun _ _ => rfl)) (fun _ _ => rfl)) pa_nil)))) pa_nil)))))))))))), ?_⟩
    refine ⟨fun σ' H' => ∃ n : Nat, 1 ≤ n ∧ n ≤ 7 ∧ σ' = [some (.ref p), some (.int 7), some (nv n), none, none, none, none, none, none, none, none, none, none] ∧ But p H H' ∧ PoolOk H' p l ns, ?_, ?_⟩
    · refine ⟨.ref p, rfl, .int 7, rfl, p, l, ns, 7, rfl, hpool, by decide, by decide, fun H1 r b1 po1 r0 r1 => ?_⟩
      obtain ⟨m, rfl⟩ := nat_of r0
      refine ⟨1, (m : Int), rfl, rfl, 1 + m, by omega, by omega, ?_, b1, po1⟩
      rw [show nv (1 + m) = V.int ((1 : Int) + (m : Nat)) from congrArg V.int (by omega)]
      rfl
    · rintro σ H1 ⟨n, n1, n7, rfl, b1, po1⟩
      refine ⟨.ref p, rfl, p, l, ns, 6, rfl, po1, by decide, by decide, fun H2 tn b2 po2 t0 t1 => ?_⟩
      have b12 := b1.trans b2
      refine ⟨.int tn, rfl, tn, 3, rfl, rfl, _, rfl, ite2 (fun ht => ?_) (fun ht => ?_)⟩
      · have ht' : tn < 3 := of_decide_eq_true ht
        obtain ⟨d, hd⟩ : ∃ d : Int, atI [V.int 2, V.int 4, V.int 6] tn = some (.int d) := by
          have : tn = 0 ∨ tn = 1 ∨ tn = 2 := by omega
          rcases this with rfl | rfl | rfl
          · exact ⟨2, rfl⟩
          · exact ⟨4, rfl⟩
          · exact ⟨6, rfl⟩
        refine ⟨(by show 3 ≤ sizeLine; decide), fun tp ntp => ?_⟩
        refine ⟨.int tn, rfl, tp, _, tn, .int d, rfl, rfl, SqT.of upd_same, hd, ?_⟩
        have s3 : Same H2 (upd H2 tp (.tup [V.int 2, V.int 4, V.int 6])) := same_upd ntp
        refine ⟨nv n, rfl, nv n, rfl, n, rfl, n7, fun H4 lp xs Ep s4 nlp elp ha g7 => ?_⟩
        have po4 : PoolOk H4 p l ns := (po2.same s3).same s4
        have b4 : But p H H4 := b12.trans ((Same.but s3).trans (Same.but s4))
        refine ⟨lp, rfl, ⟨xs, SqL.of elp⟩, fun D nD => ?_⟩
        obtain ⟨yp, hyp⟩ := po4.lst
        obtain ⟨hDp, hDl⟩ := po4.off nD
        have hlp : lp ≠ p := ((po2.same s3).off nlp).1
        refine lc_list (K := K) (a := lp) (xs := xs) (fun i H5 => ∃ zs Ez, But p H4 H5 ∧ PoolOk H5 p l ns ∧ H5 D = some (.lst zs) ∧ Ats K H5 zs Ez ∧ Ez.Sublist (Ep.take i)) ⟨[], [], Same.but (same_upd nD), po4.same (same_upd nD), upd_same, .nil, List.nil_sublist _⟩
          (fun i H5 _ h => ?_) ?_ ?_
        · obtain ⟨_, _, b5, _⟩ := h
          exact SqL.of (b5 _ _ hlp elp)
        · rintro i x H5 hx ⟨zs, Ez, b5, po5, eD, hz, hsub⟩
          obtain ⟨e, he', hxe⟩ := eget ((b5.ts hyp).ats ha) hx
          have hlz : zs.length ≤ 49 := by
            rw [hz.length]
            have h1 := hsub.length_le
            have h2 := g7.len
            rw [List.length_take] at h1
            omega
          obtain ⟨y5, hy5⟩ := po5.lst
          refine ⟨rfl, .ref p, rfl, p, l, ns, 8, rfl, po5, by decide, by decide, fun H6 r b6 po6 r0 r1 => ?_⟩
          have t6 := b6.ts (K := K) hy5
          have eD6 := b6 _ _ hDp eD
          refine ⟨.int d, rfl, r, d, rfl, rfl, _, rfl, ite2 (fun _ => ?_) (fun _ => ?_)⟩
          · have tD : TS K H6 (upd H6 D (.lst (zs ++ [x]))) := (But.upd (p := D)).ts eD6
            refine ⟨x, rfl, zs, eD6, small1000 (by omega), zs ++ [x], Ez ++ [e], ?_, po6.put hDp hDl, upd_same, esnoc ((t6.trans tD).ats hz) ((t6.trans tD).at hxe), ?_⟩
            · intro b o hb q
              rw [upd_ne (ne_of_none q nD)]
              exact b6 _ _ hb (b5 _ _ hb q)
            · rw [take_next he']
              exact hsub.append (List.Sublist.refl _)
          · refine ⟨zs, Ez, b5.trans b6, po6, eD6, t6.ats hz, ?_⟩
            rw [take_next he']
            exact hsub.trans (List.sublist_append_left _ _)
        · rintro H5 ⟨zs, Ez, b5, po5, eD, hz, hsub⟩
          refine ⟨D, zs, rfl, .inl ⟨SqL.of eD, fun t nt => ?_⟩⟩
          have s6 : Same H5 (upd H5 t (.tup zs)) := same_upd nt
          refine ⟨(by show 2 ≤ sizeLine; decide), fun g ng => ?_⟩
          have s7 : Same (upd H5 t (.tup zs)) (upd (upd H5 t (.tup zs)) g (.tup [nv n, .ref t])) := same_upd ng
          have s67 := s6.trans s7
          exact q _ g n Ez (b4.trans (b5.trans (Same.but s67))) (po5.same s67) ⟨t, zs, SqT.of upd_same, SqT.of (s7 _ _ upd_same), (Same.ts s67).ats hz⟩ (g7.sub (hsub.trans (List.take_sublist _ _))) n1 n7
      · have ht' : 3 ≤ tn := by
          have ht2 : ¬ tn < 3 := fun z => ht (decide_eq_true z)
          omega
        refine ⟨Nat.zero_le _, fun le nle => ?_⟩
        obtain ⟨hlp, hll⟩ := po2.off nle
        have Hle : H le = none := b12.free nle hlp
        have s3 : Same H2 (upd H2 le (.lst [])) := same_upd nle
        refine ⟨nv n, rfl, 1, (n : Int), rfl, ⟨by decide, by decide, by omega, by omega⟩, for_range (lo := 1) (n := ((n : Int) - 1).toNat)
          (fun i σ H' => ∃ y6 y7 y8 es, σ = [some (.ref p), some (.int 7), some (nv n), some (.int tn), none, some (.ref le), y6, y7, y8, none, none, none, none] ∧ But p H H' ∧ PoolOk H' p l ns ∧ EdgesAt K H' le n (3 * i) es)
          ⟨none, none, none, [], rfl, b12.trans (Same.but s3), po2.same s3, [], upd_same, .nil, (fun e he => by cases he), Nat.le_refl _⟩ ?_ ?_⟩
        · rintro i σ H3 hi ⟨y6, y7, y8, es, rfl, b3, po3, ha3⟩
          have hin : 1 + i < n := by omega
          obtain ⟨d, hd3, hd⟩ : ∃ d : Nat, d ≤ 3 ∧ atI [V.int 1, V.int 2, V.int 3] (tn - 3) = some (nv d) := by
            have : tn = 3 ∨ tn = 4 ∨ tn = 5 := by omega
            rcases this with rfl | rfl | rfl
            · exact ⟨1, by decide, rfl⟩
            · exact ⟨2, by decide, rfl⟩
            · exact ⟨3, by decide, rfl⟩
          refine ⟨(by show 3 ≤ sizeLine; decide), fun tp ntp => ⟨.int tn, rfl, tn, 3, rfl, rfl, tp, _, tn - 3, nv d, rfl, rfl, SqT.of upd_same, hd, ?_⟩⟩
          have s4 : Same H3 (upd H3 tp (.tup [V.int 1, V.int 2, V.int 3])) := same_upd ntp
          refine ⟨nv d, rfl, (d : Int), rfl, by omega, by omega, for_range (lo := 0) (n := ((d : Int)).toNat)
            (fun j σ H' => ∃ y8 es, σ = [some (.ref p), some (.int 7), some (nv n), some (.int tn), none, some (.ref le), some (.int ((1 : Int) + (i : Nat))), some (nv d), y8, none, none, none, none] ∧ But p H H' ∧ PoolOk H' p l ns ∧ EdgesAt K H' le n (3 * i + j) es)
            ⟨y8, es, rfl, b3.trans (Same.but s4), po3.same s4, ha3.same s4⟩ ?_ ?_⟩
          · rintro j σ H4 hj ⟨y8, es, rfl, b4, po4, xs, exs, hxs, hends, hlen⟩
            refine ⟨.ref le, rfl, .inl ⟨rfl, _, SqL.of exs⟩, .ref p, rfl, .int ((1 : Int) + (i : Nat)), rfl, p, l, ns, (1 : Int) + (i : Nat), rfl, po4, by omega, by omega, fun H5 r b5 po5 r0 r1 => ?_⟩
            obtain ⟨m, rfl⟩ := nat_of r0
            refine ⟨.int ((1 : Int) + (i : Nat)), rfl, (by show 2 ≤ sizeLine; decide), fun t nt => ?_⟩
            have s6 : Same H5 (upd H5 t (.tup [V.int (m : Nat), V.int ((1 : Int) + (i : Nat))])) := same_upd nt
            obtain ⟨yp, hyp⟩ := po4.lst
            have exs5 := b5 _ _ hlp exs
            have exs6 := s6 _ _ exs5
            have hl2 := hxs.length
            refine ⟨le, xs, .ref t, rfl, rfl, exs6, small1000 (by omega), ?_⟩
            have tD : TS K (upd H5 t (.tup [V.int (m : Nat), V.int ((1 : Int) + (i : Nat))])) (upd (upd H5 t (.tup [V.int (m : Nat), V.int ((1 : Int) + (i : Nat))])) le (.lst (xs ++ [.ref t]))) := (But.upd (p := le)).ts exs6
            have hAt : At K (upd H5 t (.tup [V.int (m : Nat), V.int ((1 : Int) + (i : Nat))])) (.ref t) (m, 1 + i) := at_new' rfl (congrArg V.int (by show (1 : Int) + (i : Nat) = ((1 + i : Nat) : Int); omega))
            refine ⟨_, es ++ [(m, 1 + i)], rfl, ?_, ((po5.same s6).put hlp hll), xs ++ [.ref t], upd_same, esnoc (((b5.ts hyp).trans ((Same.ts s6).trans tD)).ats hxs) (tD.at hAt), ?_, ?_⟩
            · intro b o hb e
              rw [upd_ne (ne_of_none e Hle)]
              exact s6 _ _ (b5 _ _ hb (b4 _ _ hb e))
            · intro e he
              rcases List.mem_append.mp he with he | he
              · exact hends e he
              · rw [List.mem_singleton.mp he]
                exact ⟨by show m < n; omega, hin⟩
            · rw [List.length_append, List.length_singleton]
              omega
          · rintro σ H4 ⟨y8, es, rfl, b4, po4, xs, exs, hxs, hends, hlen⟩
            exact ⟨_, _, _, es, rfl, b4, po4, xs, exs, hxs, hends, by omega⟩
        · rintro σ H3 ⟨y6, y7, y8, es, rfl, b3, po3, ha3⟩
          have ha3' : EdgesAt K H3 le n 49 es := by
            obtain ⟨xs, exs, hxs, hends, hlen⟩ := ha3
            exact ⟨xs, exs, hxs, hends, by omega⟩
          refine ⟨fun σ' H' => ∃ es, σ' = [some (.ref p), some (.int 7), some (nv n), some (.int tn), none, some (.ref le), y6, y7, y8, none, none, none, none] ∧ But p H H' ∧ PoolOk H' p l ns ∧ EdgesAt K H' le n 49 es, ?_, ?_⟩
          · refine ⟨.ref p, rfl, p, l, ns, 3, rfl, po3, by decide, by decide, fun H4 r b4 po4 r0 r1 => ⟨rfl, _, rfl, ?_⟩⟩
            have ha4 := ha3'.but b4 hlp po3.lst
            have no : ∃ es, [some (V.ref p), some (.int 7), some (nv n), some (.int tn), none, some (.ref le), y6, y7, y8, none, none, none, none] = [some (.ref p), some (.int 7), some (nv n), some (.int tn), none, some (.ref le), y6, y7, y8, none, none, none, none] ∧ But p H H4 ∧ PoolOk H4 p l ns ∧ EdgesAt K H4 le n 49 es :=
              ⟨es, rfl, b3.trans b4, po4, ha4⟩
            refine ite2 (fun _ => ?_) (fun _ => iteF no)
            obtain ⟨xs, exs, hxs, hends, hlen⟩ := id ha4
            have hl2 := hxs.length
            refine ⟨.ref le, rfl, le, xs, rfl, .inl (SqL.of exs), (xs.length : Int), 0, rfl, rfl, _, rfl, ite2 (fun hpos => ?_) (fun _ => no)⟩
            have hpos' : (0 : Int) < (xs.length : Int) := of_decide_eq_true hpos
            refine ⟨.ref le, rfl, .inl ⟨rfl, _, SqL.of exs⟩, .ref p, rfl, .ref le, rfl, le, xs, rfl, .inl (SqL.of exs), p, l, ns, (xs.length : Int), rfl, po4, hpos', by omega, fun H5 r b5 po5 r0 r1 => ?_⟩
            have exs5 := b5 _ _ hlp exs
            have hk : r.toNat < xs.length := by omega
            refine ⟨le, xs, r, r.toNat, xs[r.toNat], rfl, rfl, exs5, by omega, by omega, seqIndex_of r0 r1, List.getElem?_eq_getElem hk, ?_⟩
            have tD : TS K H5 (upd H5 le (.lst (xs.eraseIdx r.toNat))) := (But.upd (p := le)).ts exs5
            obtain ⟨yp, hyp⟩ := po4.lst
            refine ⟨es.eraseIdx r.toNat, rfl, ?_, po5.put hlp hll, xs.eraseIdx r.toNat, upd_same, eerase _ (((b5.ts hyp).trans tD).ats hxs), fun e he => hends e (List.mem_of_mem_eraseIdx he), ?_⟩
            · intro b o hb e
              rw [upd_ne (ne_of_none e Hle)]
              exact b5 _ _ hb (b4 _ _ hb (b3 _ _ hb e))
            · have := List.length_eraseIdx_le es r.toNat
              omega
          · rintro σ H5 ⟨es, rfl, b5, po5, ha5⟩
            -- places = list(range(n))
            refine ⟨nv n, rfl, (n : Int), rfl, RgOk.of_le (by decide) (by omega) (by decide) (by omega), fun pl npl => ?_⟩
            rw [rgV_nv]
            obtain ⟨hpp, hpL⟩ := po5.off npl
            have s6 : Same H5 (upd H5 pl (.lst ((List.range n).map nv))) := same_upd npl
            have po6 := po5.same s6
            have ha6 := ha5.same s6
            have e6 : (upd H5 pl (.lst ((List.range n).map nv))) pl = some (.lst ((List.range n).map nv)) := upd_same
            have hlepl : le ≠ pl := by
              obtain ⟨xs, exs, _⟩ := ha5
              exact ne_of_none exs npl
            have Hpl : H pl = none := b5.free npl hpp
            have b6 : But p H (upd H5 pl (.lst ((List.range n).map nv))) := b5.trans (Same.but s6)
            generalize upd H5 pl (.lst ((List.range n).map nv)) = H6 at s6 po6 ha6 e6 b6 ⊢
            -- names
            refine ⟨nv n, rfl, (n : Int), rfl, by omega, by omega, fun D nD => ?_⟩
            rw [range_int]
            obtain ⟨hDp, hDl⟩ := po6.off nD
            have hDpl : D ≠ pl := (ne_of_none e6 nD).symm
            have hDle : D ≠ le := by
              obtain ⟨xs, exs, _⟩ := ha6
              exact (ne_of_none exs nD).symm
            refine lc_range (lo := 0) (n := n) (fun i H7 => ∃ ps nms, But2 p pl H6 H7 ∧ PoolOk H7 p l ns ∧ H7 pl = some (.lst (ps.map nv)) ∧ H7 D = some (.lst (nms.map nv)) ∧ ps.length + i = n ∧ nms.length = i)
              ⟨List.range n, [], fun b o _ _ e => same_upd nD _ _ e, po6.put hDp hDl, same_upd nD _ _ e6, upd_same, by rw [List.length_range]; rfl, rfl⟩ ?_ ?_
            · rintro i H7 hi ⟨ps, nms, b7, po7, e7, eD, hps, hnm⟩
              have hlm : (ps.map nv).length = ps.length := List.length_map _
              refine ⟨rfl, .ref pl, rfl, .inl ⟨rfl, _, SqL.of e7⟩, .ref p, rfl, .ref pl, rfl, pl, _, rfl, .inl (SqL.of e7), p, l, ns, _, rfl, po7, ?_, ?_, fun H8 r b8 po8 r0 r1 => ?_⟩
              · rw [hlm]
                omega
              · rw [hlm]
                omega
              have e8 := b8 _ _ hpp e7
              have eD8 := b8 _ _ hDp eD
              rw [hlm] at r1
              have hk : r.toNat < ps.length := by omega
              refine ⟨pl, ps.map nv, r, r.toNat, nv ps[r.toNat], rfl, rfl, e8, by omega, by omega, seqIndex_of r0 (by rw [hlm]; exact r1), map_get hk, ?_⟩
              refine ⟨nms.map nv, ?_, ?_, ps.eraseIdx r.toNat, nms ++ [ps[r.toNat]], ?_, ?_, ?_, ?_, ?_, ?_⟩
              · rw [upd_ne hDpl]
                exact eD8
              · rw [List.length_map]
                exact small1000 (by omega)
              · intro b o h1 h2 e
                rw [upd_ne (ne_of_none e nD), upd_ne h2]
                exact b8 _ _ h1 (b7 _ _ h1 h2 e)
              · exact (po8.put hpp.symm.symm hpL).put hDp hDl
              · rw [upd_ne hDpl.symm, upd_same, erase_map]
              · rw [upd_same, List.map_append]
                rfl
              · rw [List.length_eraseIdx_of_lt hk]
                omega
              · rw [List.length_append, List.length_singleton, hnm]
            · rintro H7 ⟨ps, nms, b7, po7, e7, eD, hps, hnm⟩
              obtain ⟨xs, exs, hxs, hends, hlen⟩ := ha6
              obtain ⟨yp, hyp⟩ := po6.lst
              have t7 : TS K H6 H7 := b7.ts hyp e6
              have exs7 := b7 _ _ hlp hlepl exs
              have hxs7 := t7.ats hxs
              have b67 : But p H H7 := fun b o hb e => b7 _ _ hb (ne_of_none e Hpl) (b6 _ _ hb e)
              -- return sorted_graph(..)
              refine ⟨nv n, rfl, .ref le, rfl, le, rfl, ⟨_, SqL.of exs7⟩, fun D2 nD2 => ?_⟩
              have hDD : D ≠ D2 := ne_of_none eD nD2
              refine lc_list (K := K) (a := le) (xs := xs) (fun i H8 => ∃ zs ez, Same H7 H8 ∧ H8 D2 = some (.lst zs) ∧ Ats K H8 zs ez ∧ zs.length = i) ⟨[], [], same_upd nD2, upd_same, .nil, rfl⟩ (fun i H8 _ h => ?_) ?_ ?_
              · obtain ⟨_, _, s8, _⟩ := h
                exact SqL.of (s8 _ _ exs7)
              · rintro i x H8 hx ⟨zs, ez, s8, eD2, hz, hzl⟩
                have t8 := Same.ts (K := K) s8
                obtain ⟨e, he', tx, rfl, htx⟩ := eget (t8.ats hxs7) hx
                have hee := hends e (List.mem_of_getElem? he')
                have eD8 := s8 _ _ eD
                have hil : i < 50 := by
                  have h1 := (List.getElem?_eq_some_iff.mp he').1
                  omega
                refine ⟨rfl, .ref D, rfl, .ref tx, rfl, tx, _, 0, nv e.1, rfl, rfl, htx, atI_nat (j := 0) rfl, D, _, (e.1 : Int), nv (nms[e.1]'(by omega)), rfl, rfl, SqL.of eD8, atI_nat (map_get _), ?_⟩
                refine ⟨.ref D, rfl, .ref tx, rfl, tx, _, 1, nv e.2, rfl, rfl, htx, atI_nat (j := 1) rfl, D, _, (e.2 : Int), nv (nms[e.2]'(by omega)), rfl, rfl, SqL.of eD8, atI_nat (map_get _), ?_⟩
                refine ⟨(by show 2 ≤ sizeLine; decide), fun t nt => ?_⟩
                have s9 : Same H8 (upd H8 t (.tup [nv (nms[e.1]'(by omega)), nv (nms[e.2]'(by omega))])) := same_upd nt
                have eD29 := s9 _ _ eD2
                have tD : TS K (upd H8 t (.tup [nv (nms[e.1]'(by omega)), nv (nms[e.2]'(by omega))])) (upd (upd H8 t (.tup [nv (nms[e.1]'(by omega)), nv (nms[e.2]'(by omega))])) D2 (.lst (zs ++ [.ref t]))) := (But.upd (p := D2)).ts eD29
                refine ⟨zs, eD29, small1000 (by omega), zs ++ [.ref t], ez ++ [(nms[e.1]'(by omega), nms[e.2]'(by omega))], ?_, upd_same, esnoc (((Same.ts s9).trans tD).ats hz) (tD.at (at_new (a := (nms[e.1]'(by omega), nms[e.2]'(by omega))))), ?_⟩
                · intro b o q
                  rw [upd_ne (ne_of_none q nD2)]
                  exact s9 _ _ (s8 _ _ q)
                · rw [List.length_append, List.length_singleton, hzl]
              · rintro H8 ⟨zs, ez, s8, eD2, hz, hzl⟩
                refine ⟨D2, n, zs, ez, rfl, n7, SqL.of eD2, hz, fun H9 g Eg s9 hG g7 => ?_⟩
                exact q H9 g n Eg (b67.trans (Same.but (s8.trans s9))) (po7.same (s8.trans s9)) hG g7 n1 n7
end
end FW
end
section
set_option Elab.async false
set_option linter.all false
set_option maxRecDepth 100000
set_option maxHeartbeats 4000000
namespace FW
open PySem PySem.Spec PyProof.Rows L2 FM
theorem get_erase : ∀ (l : List Nat) (k : Nat) (h : k < l.length), (l[k] :: l.eraseIdx k).Perm l
  | [], k, h => by simp at h
  | a :: l, 0, h => List.Perm.refl _
  | a :: l, k + 1, h => by
    have hk : k < l.length := Nat.lt_of_succ_lt_succ h
    have ih := get_erase l k hk
    show (l[k] :: a :: l.eraseIdx k).Perm (a :: l)
    exact (List.Perm.swap a l[k] _).trans (ih.cons a)
section
variable {P : Program} {w : World} {K : PySem.W.Frag} {mg : Str → Option Value} {base : Heap}
def RowAt (H : Hp) (x : V) (row : List Nat) : Prop := ∃ a, x = .ref a ∧ TupF H a (row.map nv)
theorem TS.row {H H' : Hp} (s : TS K H H') {x : V} {row : List Nat} (h : RowAt H x row) : RowAt H' x row := by
  obtain ⟨a, e, t⟩ := h
  exact ⟨a, e, s.tupF t⟩
theorem TS.rows {H H' : Hp} (s : TS K H H') {xs : List V} {rows : List (List Nat)} (h : PySem.W.EachIs (RowAt H) xs rows) : PySem.W.EachIs (RowAt H') xs rows := h.mono fun _ _ q => s.row q
def RotAt (K : PySem.W.Frag) (H : Hp) (r : Addr) (rot : List (List Nat)) : Prop := ∃ xs, SqT K H r xs ∧ PySem.W.EachIs (RowAt H) xs rot
theorem TS.rot {H H' : Hp} (s : TS K H H') {r : Addr} {rot : List (List Nat)} (h : RotAt K H r rot) : RotAt K H' r rot := by
  obtain ⟨xs, h1, h2⟩ := h
  exact ⟨xs, s.1 _ _ h1, s.rows h2⟩
def spRot (K : PySem.W.Frag) : Sp := fun vs H Q _ => ∃ (p l : Addr) (ns : List Int) (g : Addr) (n : Nat) (E : List Ar), vs = [.ref p, .ref g] ∧ PoolOk H p l ns ∧ GraphAt K H g n E ∧ n ≤ 7 ∧
  ∀ H' r rot, But p H H' → PoolOk H' p l ns → RotAt K H' r rot → Rot n E rot → Q (.ref r) H'
theorem ok_rot {f fD fN : Addr} {fd fdD fdN : FuncData} (F : Fun K "_law_some_rotation" "_law_some_rotation" sRot f fd)
    (FD : Fun K "_law_draw" "_law_draw" sDraw fD fdD) (bD : Binds K fdD ["_law_pool_here", "_law_many"] []) (gD : mg "_law_draw" = some (.ref fD)) (GD : FnOk P w K mg base CX0 2 fD fdD ["_law_pool_here", "_law_many"] spDraw)
    (FN : Fun K "_law_near" "_law_near" sNear fN fdN) (bN : Binds K fdN ["_law_graph_here", "_law_v"] []) (gN : mg "_law_near" = some (.ref fN)) (GN : FnOk P w K mg base CX0 2 fN fdN ["_law_graph_here", "_law_v"] (spNear K))
    (mr : mg "range" = none) (mt : mg "tuple" = none) (ml : mg "len" = none) : FnOk P w K mg base CX0 3 f fd ["_law_pool_here", "_law_graph_here"] (spRot K) := by
  refine F.ok scRot (fun vs H Q E h => ?_) (fun cdv A outer s H vs Q E hr h => ?_)
  · obtain ⟨p, l, ns, g, n, Es, rfl, _⟩ := h
    rfl
  · obtain ⟨p, l, ns, g, n, Es, rfl, hpool, hG, n7, q⟩ := h
    have nd := scRot.nd
    refine ⟨_, pss_cons (ps_set (i := 2) nd rfl (.inl rfl) (pe_lst pa_nil))
      (pss_cons (ps_for PassesOwn.never rfl (pi_range1 (by rfl) mr (pa_cons (pe_ix ix_tup (pv 1) pe_int (fun _ _ => rfl)) pa_nil)) (pg_name (i := 3) nd rfl (.inl rfl))
        (pss_cons (ps_set (i := 4) nd rfl (.inr rfl) (pe_call GN hr (by rfl) gN FN.kp bN .nil pass0 (pa_cons (pv 1) (pa_cons (pv 3) pa_nil))))
        (pss_one (ps_expr (pe_bm PySem.F.plainAttrs_list PySem.F.slot_list_append PySem.F.type_list_append mt_append (pv 2) (pa_cons (pe_callTy call_tupleF (by rfl) mt (by decide +kernel) (pa_cons
          (pe_lc (own := [("_law_k", 5)]) (g := gName 5) (by rfl) nd (pi_range1 (by rfl) mr (pa_cons (pe_callB call_len_seq (by rfl) ml PySem.boot_len (pa_cons (pv 4) pa_nil)) pa_nil))
            (blkOk_by (own := [("_law_k", 5)]) (N := ["_law_pool_here", "_law_graph_here", "_law_items", "_law_v", "_law_left", "_law_k"]) (sc := defScope sRot) (by decide +kernel)) (fun _ _ _ _ _ => pg_name (i := 5) nd rfl (Or.inl rfl))
            (fun _ _ _ _ _ => pts_nil) (fun _ _ _ _ _ => pe_bmK (K := K) (r := rPopAt) rfl PySem.F.plainAttrs_list PySem.F.slot_list_pop PySem.F.type_list_pop mt_popAt (pv 4) (pa_cons (pe_call (sp := spDraw) GD hr (by rfl) gD FD.kp bD .nil pass0
              (pa_cons (pv 0) (pa_cons (pe_callB (r := fun xs H Q => ∃ p ys, xs = [.ref p] ∧ (SqL K H p ys ∨ SqT K H p ys) ∧ Q (.int ys.length) H) call_len_seq (by rfl) ml PySem.boot_len (pa_cons (pv 4) pa_nil)) pa_nil))) pa_nil))) pa_nil)) pa_nil))))))
      (pss_one (ps_ret (pe_callTy call_tuple_of (by rfl) mt (by decide +kernel) (pa_cons (pv 2) pa_nil))))), ?_⟩
    refine ⟨Nat.zero_le _, fun li nli => ?_⟩
    obtain ⟨hip, hil⟩ := hpool.off nli
    have s1 : Same H (upd H li (.lst [])) := same_upd nli
    obtain ⟨te, gx, hg1, hg2, hg3⟩ := id hG
    refine ⟨.ref g, rfl, g, _, 0, nv n, rfl, rfl, (Same.ts s1).1 _ _ hg1, atI_nat (j := 0) rfl, (n : Int), rfl, by omega, by omega, ?_⟩
    rw [range_int]
    refine for_range (lo := 0) (n := n) (fun i σ H' => ∃ y3 y4 xs rows, σ = [some (.ref p), some (.ref g), some (.ref li), y3, y4, none] ∧ But p H H' ∧ PoolOk H' p l ns ∧ H' li = some (.lst xs) ∧ PySem.W.EachIs (RowAt H') xs rows ∧ rows.length = i ∧
        ∀ (j : Nat) row, rows[j]? = some row → row.Perm (near n Es j)) ⟨none, none, [], [], rfl, Same.but s1, hpool.same s1, upd_same, .nil, rfl, fun j row e => by simp at e⟩ ?_ ?_
    · rintro i σ H2 hi ⟨y3, y4, xs, rows, rfl, b2, po2, eli, hrows, hrl, hperm⟩
      rw [zero_add_int]
      obtain ⟨y0, hy0⟩ := hpool.lst
      have t2 := b2.ts (K := K) hy0
      refine ⟨.ref g, rfl, nv i, rfl, g, n, i, Es, rfl, n7, t2.graph hG, fun H3 al s3 nal eal => ?_⟩
      have po3 := po2.same s3
      obtain ⟨hap, hal⟩ := po2.off nal
      have hali : al ≠ li := (ne_of_none eli nal).symm
      have Hal : H al = none := b2.free nal hap
      refine ⟨.ref li, rfl, .inl ⟨rfl, _, SqL.of (s3 _ _ eli)⟩, .ref al, rfl, al, _, rfl, .inl (SqL.of eal), ?_⟩
      have hnl : ((near n Es i).map nv).length = (near n Es i).length := List.length_map _
      have hn7 : (near n Es i).length ≤ 7 := by
        have := List.length_filter_le (fun u => decide ((u, i) ∈ Es ∨ (i, u) ∈ Es)) (List.range n)
        rw [List.length_range] at this
        exact Nat.le_trans this n7
      rw [hnl]
      refine ⟨_, rfl, by omega, by omega, fun D nD => ?_⟩
      rw [range_int]
      obtain ⟨hDp, hDl⟩ := po3.off nD
      have hDal : D ≠ al := (ne_of_none eal nD).symm
      have hDli : D ≠ li := (ne_of_none (s3 _ _ eli) nD).symm
      refine lc_range (lo := 0) (n := (near n Es i).length) (fun k H4 => ∃ ls acc, But2 p al H3 H4 ∧ PoolOk H4 p l ns ∧ H4 al = some (.lst (ls.map nv)) ∧ H4 D = some (.lst (acc.map nv)) ∧ (acc ++ ls).Perm (near n Es i) ∧ acc.length = k)
        ⟨near n Es i, [], fun b o _ _ e => same_upd nD _ _ e, po3.put hDp hDl, same_upd nD _ _ eal, upd_same, List.Perm.refl _, rfl⟩ ?_ ?_
      · rintro k H4 hk ⟨ls, acc, b4, po4, ea4, eD4, hp4, hac⟩
        have hlm : (ls.map nv).length = ls.length := List.length_map _
        have hsum := hp4.length_eq
        rw [List.length_append] at hsum
        refine ⟨rfl, .ref al, rfl, .inl ⟨rfl, _, SqL.of ea4⟩, .ref p, rfl, .ref al, rfl, al, _, rfl, .inl (SqL.of ea4), p, l, ns, _, rfl, po4, ?_, ?_, fun H5 r b5 po5 r0 r1 => ?_⟩
        · rw [hlm]
          omega
        · rw [hlm]
          omega
        have ea5 := b5 _ _ hap ea4
        have eD5 := b5 _ _ hDp eD4
        rw [hlm] at r1
        have hk2 : r.toNat < ls.length := by omega
        refine ⟨al, ls.map nv, r, r.toNat, nv ls[r.toNat], rfl, rfl, ea5, by omega, by omega, seqIndex_of r0 (by rw [hlm]; exact r1), map_get hk2, ?_⟩
        refine ⟨acc.map nv, ?_, ?_, ls.eraseIdx r.toNat, acc ++ [ls[r.toNat]], ?_, (po5.put hap hal).put hDp hDl, ?_, ?_, ?_, ?_⟩
        · rw [upd_ne hDal]
          exact eD5
        · rw [List.length_map]
          exact small1000 (by omega)
        · intro b o h1 h2 e
          rw [upd_ne (ne_of_none e nD), upd_ne h2]
          exact b5 _ _ h1 (b4 _ _ h1 h2 e)
        · rw [upd_ne hDal.symm, upd_same, erase_map]
        · rw [upd_same, List.map_append]
          rfl
        · rw [List.append_assoc]
          exact ((get_erase ls r.toNat hk2).append_left acc).trans hp4
        · rw [List.length_append, List.length_singleton, hac]
      · rintro H4 ⟨ls, acc, b4, po4, ea4, eD4, hp4, hac⟩
        have hsum := hp4.length_eq
        rw [List.length_append] at hsum
        have els : ls = [] := List.length_eq_zero_iff.mp (by omega)
        subst els
        rw [List.append_nil] at hp4
        refine ⟨D, _, rfl, SqL.of eD4, fun t o nt oc od => ?_⟩
        have s5 : Same H4 (upd H4 t (.frz o (.tup (acc.map nv)))) := same_upd nt
        obtain ⟨y3', hy3⟩ := po3.lst
        have t4 : TS K H3 H4 := b4.ts hy3 eal
        have eli4 := b4 _ _ hip hali.symm (s3 _ _ eli)
        have eli5 := s5 _ _ eli4
        have hrows5 := ((Same.ts s3).trans (t4.trans (Same.ts s5))).rows hrows
        have hxl := hrows.length
        refine ⟨li, xs, .ref t, rfl, rfl, eli5, small1000 (by omega), ?_⟩
        have tD : TS K (upd H4 t (.frz o (.tup (acc.map nv)))) (upd (upd H4 t (.frz o (.tup (acc.map nv)))) li (.lst (xs ++ [.ref t]))) := (But.upd (p := li)).ts eli5
        have hT : RowAt (upd H4 t (.frz o (.tup (acc.map nv)))) (.ref t) acc := ⟨t, rfl, o, upd_same, oc, od⟩
        refine ⟨_, _, xs ++ [.ref t], rows ++ [acc], rfl, ?_, (po4.same s5).put hip hil, upd_same, esnoc (tD.rows hrows5) (tD.row hT), ?_, ?_⟩
        · intro b o hb e
          rw [upd_ne (ne_of_none e nli)]
          exact s5 _ _ (b4 _ _ hb (ne_of_none e Hal) (s3 _ _ (b2 _ _ hb e)))
        · rw [List.length_append, List.length_singleton, hrl]
        · intro j row e
          by_cases hj : j < rows.length
          · rw [List.getElem?_append_left hj] at e
            exact hperm j row e
          · have ej : j = rows.length := by
              have h1 := (List.getElem?_eq_some_iff.mp e).1
              rw [List.length_append, List.length_singleton] at h1
              omega
            subst ej
            rw [List.getElem?_append_right (Nat.le_refl _), Nat.sub_self] at e
            have er : acc = row := Option.some.inj e
            rw [← er, hrl]
            exact hp4
    · rintro σ H2 ⟨y3, y4, xs, rows, rfl, b2, po2, eli, hrows, hrl, hperm⟩
      refine ⟨.ref li, rfl, li, xs, rfl, .inl ⟨SqL.of eli, fun t nt => ?_⟩⟩
      have s3 : Same H2 (upd H2 t (.tup xs)) := same_upd nt
      refine q _ t rows (b2.trans (Same.but s3)) (po2.same s3) ⟨xs, SqT.of upd_same, (Same.ts s3 (K := K)).rows hrows⟩ ⟨hrl, fun v hv => ?_⟩
      have hv' : v < rows.length := by omega
      unfold row
      rw [getD_at hv']
      exact hperm v _ (List.getElem?_eq_getElem hv')
end
end FW
end
section
set_option Elab.async false
set_option linter.all false
set_option maxRecDepth 100000
set_option maxHeartbeats 4000000
namespace FW
open PySem PySem.Spec PyProof.Rows L2 FM
section
variable {P : Program} {w : World} {K : PySem.W.Frag} {mg : Str → Option Value} {base : Heap}
theorem idx_nv (row : List Nat) (u : Nat) : (row.map fun k => ((k : Nat) : Int)).idxOf ((u : Nat) : Int) = row.idxOf u := by
  induction row with
  | nil => rfl
  | cons a l ih =>
    rw [List.map_cons, List.idxOf_cons, List.idxOf_cons, ih]
    by_cases h : a = u
    · rw [h, beq_self_eq_true, beq_self_eq_true]
    · rw [beq_eq_false_iff_ne.mpr h, beq_eq_false_iff_ne.mpr (show (a : Int) ≠ (u : Int) by omega)]
theorem map_nv (row : List Nat) : (row.map fun k => ((k : Nat) : Int)).map V.int = row.map nv := by
  rw [List.map_map]
  rfl
/-- a row of a rotation, read -/
theorem rot_row {H : Hp} {r : Addr} {rot : List (List Nat)} {xs : List V} {v : Nat} (h1 : PySem.W.EachIs (RowAt H) xs rot) (hv : v < rot.length) : ∃ t, xs[v]? = some (.ref t) ∧ TupF H t ((row rot v).map nv) := by
  obtain ⟨x, e, t, rfl, ht⟩ := eget' h1 (List.getElem?_eq_getElem hv)
  refine ⟨t, e, ?_⟩
  unfold row
  rw [getD_at hv]
  exact ht
def spNext (K : PySem.W.Frag) : Sp := fun vs H Q _ => ∃ (r : Addr) (x : V) (n : Nat) (E : List Ar) (rot : List (List Nat)) (a : Ar), vs = [.ref r, x] ∧ RotAt K H r rot ∧ At K H x a ∧ Gr n E ∧ Rot n E rot ∧ n ≤ 7 ∧ a ∈ arrows E ∧
  ∀ H' y, Same H H' → At K H' y (nx rot a) → Q y H'
theorem ok_next {f : Addr} {fd : FuncData} {k : Nat} (F : Fun K "next_arrow" "next_arrow" sNext f fd) (ml : mg "len" = none) : FnOk P w K mg base CX0 (k + 1) f fd ["rotation", "arrow"] (spNext K) := by
  refine F.ok scNext (fun vs H Q E h => ?_) (fun cdv A outer s H vs Q E hr h => ?_)
  · obtain ⟨r, x, n, Es, rot, a, rfl, _⟩ := h
    rfl
  · obtain ⟨r, x, n, Es, rot, ⟨u, v⟩, rfl, hrot, hx, hg, hR, n7, ha, q⟩ := h
    have nd := scNext.nd
    refine ⟨_, pss_cons (ps_asg (pv 1) (pg_tup rfl (pgs_cons (pg_name (i := 2) nd rfl (.inl rfl)) (pgs_cons (pg_name (i := 3) nd rfl (.inl rfl)) pgs_nil))))
      (pss_cons (ps_set (i := 4) nd rfl (.inl rfl) (pe_ix ix_tup (pv 0) (pv 3) (fun _ _ => rfl)))
      (pss_one (ps_ret (pe_tup (pa_cons (pv 3) (pa_cons (pe_ix ix_tup (pv 4) (pe_op op_mod (pe_op op_add (pe_idxF (pv 4) (pv 2)) pe_int) (pe_callB call_len_seq (by rfl) ml PySem.boot_len (pa_cons (pv 4) pa_nil))) (fun _ _ => rfl)) pa_nil)))))), ?_⟩
    obtain ⟨tx, rfl, htx⟩ := id hx
    obtain ⟨xs, hr1, hr2⟩ := id hrot
    obtain ⟨hu, hv⟩ := hg.arrow_lt ha
    have hv2 : v < rot.length := by rw [hR.len]; exact hv
    obtain ⟨t, hxt, ht⟩ := rot_row (r := r) hr2 hv2
    have hmem : u ∈ row rot v := hR.mem_row hg ha
    have hpos : 0 < (row rot v).length := List.length_pos_of_mem hmem
    refine ⟨.ref tx, rfl, tx, _, rfl, htx, rfl, nv u, [nv v], rfl, nv v, [], rfl, rfl, ?_⟩
    refine ⟨.ref r, rfl, nv v, rfl, r, xs, (v : Int), .ref t, rfl, rfl, hr1, atI_nat hxt, ?_⟩
    have hlen : ((row rot v).map nv).length = (row rot v).length := List.length_map _
    have hm : (((row rot v).idxOf u : Nat) : Int) + 1 = (((row rot v).idxOf u + 1 : Nat) : Int) := by omega
    have hlt : ((row rot v).idxOf u + 1) % (row rot v).length < (row rot v).length := Nat.mod_lt _ hpos
    refine ⟨nv v, rfl, .ref t, rfl, .ref t, rfl, t, (row rot v).map fun k => ((k : Nat) : Int), rfl, by rw [map_nv]; exact ht, nv u, rfl, (u : Int), rfl, by rw [map_nv]; exact ht.sq, List.mem_map.mpr ⟨u, hmem, rfl⟩, ?_⟩
    rw [idx_nv]
    refine ⟨_, 1, rfl, rfl, .ref t, rfl, t, _, rfl, .inr ht.sq, _, _, rfl, rfl, (by rw [hlen]; omega), t, _, _, nv (succ1 (row rot v) u), rfl, rfl, ht.sq, ?_, ?_⟩
    · rw [hlen, hm, ← Int.natCast_emod]
      refine atI_nat ?_
      rw [map_get hlt]
      unfold succ1
      rw [getD_at hlt]
    · refine ⟨(by show 2 ≤ sizeLine; decide), fun p np => ?_⟩
      exact q _ _ (same_upd np) (at_new (a := nx rot (u, v)))
end
end FW
end
section
set_option Elab.async false
set_option linter.all false
set_option maxRecDepth 100000
set_option maxHeartbeats 4000000
namespace FW
open PySem PySem.Spec PyProof.Rows L2 FM
theorem hu64 {A : Around} {k : Nat} (hr : Room k A) : A.units + 64 < cLine := hr.units
theorem atI_end {α : Type} {xs : List α} {v : α} (h : xs[xs.length - 1]? = some v) : atI xs (-1) = some v := by
  have hl := (List.getElem?_eq_some_iff.mp h).1
  unfold atI ixN
  rw [if_neg (by decide), if_pos (by omega), show ((-1 : Int) + (xs.length : Int)).toNat = xs.length - 1 by omega]
  exact h
theorem g7_arrows {n : Nat} {E : List Ar} (g : G7 n E) : (arrows E).length ≤ 98 := by
  have := g.len
  rw [arrows_len]
  omega
/-- the arrows in their order -/
def srtA (E : List Ar) : List Ar := (arrows E).mergeSort leA
theorem srtA_perm (E : List Ar) : (srtA E).Perm (arrows E) := List.mergeSort_perm _ _
theorem filter_self {A : List Ar} {f : Ar → Ar} (p : Pm A f) {a : Ar} {l : List Ar} (ha : a ∈ A) : ((a :: l).filter fun x => decide (x ∉ orb f a)) = l.filter fun x => decide (x ∉ orb f a) := by
  rw [List.filter_cons, if_neg (by simp [p.self_orb ha])]
theorem fc_step (f : Ar → Ar) (a : Ar) (l : List Ar) : fc f (a :: l) = orb f a :: fc f (l.filter fun x => decide (x ∉ orb f a)) := by
  rw [fc_cons]
  congr 2
  refine List.filter_congr fun x _ => ?_
  by_cases h : x ∈ orb f a
  · simp [h]
  · simp [h]
section
variable {P : Program} {w : World} {K : PySem.W.Frag} {mg : Str → Option Value} {base : Heap}
def TpAt (K : PySem.W.Frag) (H : Hp) (x : V) (ws : List Ar) : Prop := ∃ t ys, x = .ref t ∧ SqT K H t ys ∧ Ats K H ys ws
theorem TS.tp {H H' : Hp} (s : TS K H H') {x : V} {ws : List Ar} (h : TpAt K H x ws) : TpAt K H' x ws := by
  obtain ⟨t, ys, e, h1, h2⟩ := h
  exact ⟨t, ys, e, s.1 _ _ h1, s.ats h2⟩
theorem TS.tps {H H' : Hp} (s : TS K H H') {xs : List V} {L : List (List Ar)} (h : PySem.W.EachIs (TpAt K H) xs L) : PySem.W.EachIs (TpAt K H') xs L := h.mono fun _ _ q => s.tp q
/-- arrow != walk[0] -/
theorem ne_ar {Q : V → Hp → Prop} {H : Hp} {x y : V} {a b : Ar} (h1 : At K H x a) (h2 : At K H y b) (q : Q (.bl (!decide (a = b))) H) : rNeD K x y H Q := by
  refine ⟨arD a, arD b, h1.dp, h2.dp, arD_shaped a, arD_shaped b, ?_⟩
  rw [arD_eqv]
  exact q
theorem eq_ar {Q : V → Hp → Prop} {H : Hp} {x y : V} {a b : Ar} (h1 : At K H x a) (h2 : At K H y b) (q : Q (.bl (decide (a = b))) H) : rEqD K x y H Q := by
  refine ⟨arD a, arD b, h1.dp, h2.dp, arD_shaped a, arD_shaped b, ?_⟩
  rw [arD_eqv]
  exact q
def spFaces (K : PySem.W.Frag) : Sp := fun vs H Q _ => ∃ (g r : Addr) (n : Nat) (E : List Ar) (rot : List (List Nat)), vs = [.ref g, .ref r] ∧ GraphAt K H g n E ∧ G7 n E ∧ RotAt K H r rot ∧ Rot n E rot ∧ n ≤ 7 ∧
  ∀ H' lf fx, Same H H' → H' lf = some (.lst fx) → PySem.W.EachIs (TpAt K H') fx (fc (nx rot) (srtA E)) → Q (.ref lf) H'
theorem ok_faces {f fN : Addr} {fd fdN : FuncData} (F : Fun K "faces" "faces" sFaces f fd)
    (FN : Fun K "next_arrow" "next_arrow" sNext fN fdN) (bN : Binds K fdN ["rotation", "arrow"] []) (gN : mg "next_arrow" = some (.ref fN)) (GN : FnOk P w K mg base CX0 2 fN fdN ["rotation", "arrow"] (spNext K))
    (mt : mg "tuple" = none) (ml : mg "len" = none) (mls : mg "list" = none) (ms : mg "sorted" = none) : FnOk P w K mg base CX0 3 f fd ["graph", "rotation"] (spFaces K) := by
  refine F.ok scFaces (fun vs H Q E h => ?_) (fun cdv A outer s H vs Q E hr h => ?_)
  · obtain ⟨g, r, n, Es, rot, rfl, _⟩ := h
    rfl
  · obtain ⟨g, r, n, Es, rot, rfl, hG, g7, hrot, hR, n7, q⟩ := h
    have nd := scFaces.nd
    have hu := hu65 hr
    have hu4 := hu64 hr
    refine ⟨_, pss_cons (ps_set (i := 2) nd rfl (.inl rfl) (pe_callB (cr_sortD hu4) (by rfl) ms (by decide +kernel) (pa_cons (pe_op op_cat (pe_callTy call_list_of (by rfl) mls (by decide +kernel) (pa_cons (pe_ix ix_tup (pv 0) pe_int (fun _ _ => rfl)) pa_nil))
        (pe_lc (own := [("u", 5), ("v", 6)]) (g := gTup K 2 (gCons (gName 5) (gCons (gName 6) gNil))) (by rfl) nd (pi_tup (pe_ix ix_tup (pv 0) pe_int (fun _ _ => rfl)))
          (blkOk_by (own := [("u", 5), ("v", 6)]) (N := ["graph", "rotation", "left", "found", "walk", "u", "v", "arrow"]) (sc := defScope sFaces) (by decide +kernel))
          (fun _ _ _ _ _ => pg_tup rfl (pgs_cons (pg_name (i := 5) nd rfl (Or.inl rfl)) (pgs_cons (pg_name (i := 6) nd rfl (Or.inl rfl)) pgs_nil)))
          (fun _ _ _ _ _ => pts_nil) (fun _ _ _ _ _ => pe_tup (pa_cons (pv 6) (pa_cons (pv 5) pa_nil))))) pa_nil)))
      (pss_cons (ps_set (i := 3) nd rfl (.inl rfl) (pe_lst pa_nil))
      (pss_cons (ps_while PassesOwn.never (pt_cmpR op_gt (pe_callB call_len_seq (by rfl) ml PySem.boot_len (pa_cons (pv 2) pa_nil)) pe_int (nomark _))
        (pss_cons (ps_set (i := 4) nd rfl (.inr rfl) (pe_lst (pa_cons (pe_ix ix_list (pv 2) pe_int (fun _ _ => rfl)) pa_nil)))
        (pss_cons (ps_while PassesOwn.never (pt_cmpR (op_neD hu4) (pe_call GN hr (by rfl) gN FN.kp bN .nil pass0 (pa_cons (pv 1) (pa_cons (pe_ix ix_list (pv 4) (pe_un un_neg pe_int) (fun _ _ => rfl)) pa_nil))) (pe_ix ix_list (pv 4) pe_int (fun _ _ => rfl)) (nomark _))
          (pss_one (ps_expr (pe_bm PySem.F.plainAttrs_list PySem.F.slot_list_append PySem.F.type_list_append mt_append (pv 4) (pa_cons (pe_call GN hr (by rfl) gN FN.kp bN .nil pass0 (pa_cons (pv 1) (pa_cons (pe_ix ix_list (pv 4) (pe_un un_neg pe_int) (fun _ _ => rfl)) pa_nil))) pa_nil)))))
        (pss_cons (ps_setLc (i := 2) (own := [("arrow", 7)]) (g := gName 7) rfl nd rfl rfl (sw_true rfl rfl rfl (by decide +kernel)) (pi_list (pv 2))
          (blkOk_by (own := [("arrow", 7)]) (N := ["graph", "rotation", "left", "found", "walk", "u", "v", "arrow"]) (sc := defScope sFaces) (by decide +kernel)) (fun _ _ _ _ _ => pg_name (i := 7) nd rfl (Or.inl rfl))
          (fun _ _ _ _ _ => pts_one (pt_cmpR (r := rNotInD K) (op_notInD hu) (pv 7) (pv 4) (by rfl))) (fun _ _ _ _ _ => pv 7))
        (pss_one (ps_expr (pe_bm PySem.F.plainAttrs_list PySem.F.slot_list_append PySem.F.type_list_append mt_append (pv 3) (pa_cons (pe_callTy call_tuple_of (by rfl) mt (by decide +kernel) (pa_cons (pv 4) pa_nil)) pa_nil))))))))
      (pss_one (ps_ret (pv 3))))), ?_⟩
    obtain ⟨te, xs, hg1, hg2, hg3⟩ := id hG
    have pm : Pm (srtA Es) (nx rot) := hR.pm g7.gr (srtA_perm Es)
    have hlA : (srtA Es).length ≤ 98 := by
      rw [(srtA_perm Es).length_eq]
      exact g7_arrows g7
    have hlE := g7.len
    have hxl := hg3.length
    -- sorted(list(graph[1]) + [(v, u) for u, v in graph[1]])
    refine ⟨.ref g, rfl, g, _, 1, .ref te, rfl, rfl, hg1, atI_nat (j := 1) rfl, te, xs, rfl, .inr hg2, fun l1 nl1 => ?_⟩
    have s1 : Same H (upd H l1 (.lst xs)) := same_upd nl1
    have t1 := Same.ts (K := K) s1
    refine ⟨.ref g, rfl, g, _, 1, .ref te, rfl, rfl, t1.1 _ _ hg1, atI_nat (j := 1) rfl, te, rfl, ⟨xs, t1.1 _ _ hg2⟩, fun D nD => ?_⟩
    refine lc_tup (K := K) (a := te) (xs := xs) (fun i H2 => ∃ zs, Same (upd H l1 (.lst xs)) H2 ∧ H2 D = some (.lst zs) ∧ Ats K H2 zs ((Es.take i).map sw)) ⟨[], same_upd nD, upd_same, .nil⟩ (fun i H2 _ h => ?_) ?_ ?_
    · obtain ⟨_, s2, _⟩ := h
      exact (Same.ts s2).1 _ _ (t1.1 _ _ hg2)
    · rintro i x H2 hx ⟨zs, s2, eD, hz⟩
      have t2 := t1.trans (Same.ts (K := K) s2)
      obtain ⟨⟨u, v⟩, he, tx, rfl, htx⟩ := eget (t2.ats hg3) hx
      refine ⟨tx, _, rfl, htx, rfl, nv u, [nv v], rfl, nv v, [], rfl, rfl, rfl, ?_⟩
      refine ⟨nv v, rfl, nv u, rfl, (by show 2 ≤ sizeLine; decide), fun t nt => ?_⟩
      have s3 : Same H2 (upd H2 t (.tup [nv v, nv u])) := same_upd nt
      have eD3 := s3 _ _ eD
      have tD : TS K (upd H2 t (.tup [nv v, nv u])) (upd (upd H2 t (.tup [nv v, nv u])) D (.lst (zs ++ [.ref t]))) := (But.upd (p := D)).ts eD3
      have hzl := hz.length
      rw [List.length_map, List.length_take] at hzl
      refine ⟨zs, eD3, small1000 (by omega), zs ++ [.ref t], ?_, upd_same, ?_⟩
      · intro b o e
        rw [upd_ne (ne_of_none e nD)]
        exact s3 _ _ (s2 _ _ e)
      · rw [take_next he, List.map_append]
        exact esnoc (((Same.ts s3).trans tD).ats hz) (tD.at (at_new (a := (v, u))))
    · rintro H2 ⟨zs, s2, eD, hz⟩
      have e1 : H2 l1 = some (.lst xs) := s2 _ _ upd_same
      have t2 := t1.trans (Same.ts (K := K) s2)
      have hw : (Es.take xs.length).map sw = Es.map sw := by rw [List.take_of_length_le (by omega)]
      rw [hw] at hz
      have hzl := hz.length
      rw [List.length_map] at hzl
      refine ⟨l1, D, xs, zs, rfl, rfl, e1, eD, Nat.le_of_lt (small1000 (by omega)), fun p np => ?_⟩
      have s3 : Same H2 (upd H2 p (.lst (xs ++ zs))) := same_upd np
      have hA : Ats K (upd H2 p (.lst (xs ++ zs))) (xs ++ zs) (arrows Es) := (Same.ts s3).ats (eapp (t2.ats hg3) hz)
      refine ⟨Ar, p, xs ++ zs, arD, arrows Es, rfl, .inl (SqL.of upd_same), hA.dp, all_ar _, srt_ar _, fun b _ => by rw [arD_depth]; decide, fun ll lx nll dlx => ?_⟩
      have s4 : Same (upd H2 p (.lst (xs ++ zs))) (upd (upd H2 p (.lst (xs ++ zs))) ll (.lst lx)) := same_upd nll
      have hlx := (Same.ts (K := K) s4).ats (ats_dp dlx)
      have ell : (upd (upd H2 p (.lst (xs ++ zs))) ll (.lst lx)) ll = some (.lst lx) := upd_same
      have s14 : Same H (upd (upd H2 p (.lst (xs ++ zs))) ll (.lst lx)) := s1.trans (s2.trans (s3.trans s4))
      generalize upd (upd H2 p (.lst (xs ++ zs))) ll (.lst lx) = H3 at hlx ell s14 ⊢
      refine ⟨Nat.zero_le _, fun lf nlf => ?_⟩
      have s5 : Same H3 (upd H3 lf (.lst [])) := same_upd nlf
      have Hlf : H lf = none := s14.free nlf
      refine ⟨fun m σ H' => ∃ y4 ll lx left fx found, σ = [some (.ref g), some (.ref r), some (.ref ll), some (.ref lf), y4, none, none, none] ∧ Same H H' ∧ ll ≠ lf ∧ H' ll = some (.lst lx) ∧ Ats K H' lx left ∧ H' lf = some (.lst fx) ∧ PySem.W.EachIs (TpAt K H') fx found ∧
          found ++ fc (nx rot) left = fc (nx rot) (srtA Es) ∧ (∀ x ∈ left, x ∈ srtA Es) ∧ left.length ≤ 98 ∧ m = left.length,
        ⟨_, none, ll, lx, srtA Es, [], [], rfl, s14.trans s5, ne_of_none ell nlf, s5 _ _ ell, (Same.ts s5).ats hlx, upd_same, .nil, rfl, fun x hx => hx, hlA, rfl⟩, ?_⟩
      rintro m σ H4 ⟨y4, ll, lx, left, fx, found, rfl, sm, hne, ell, hl4, elf, hf4, hfound, hsub, hleft, rfl⟩
      have t4 := Same.ts (K := K) sm
      have hll := hl4.length
      refine ⟨.ref ll, rfl, ll, lx, rfl, .inl (SqL.of ell), (lx.length : Int), 0, rfl, rfl, _, rfl, ite2 (fun hpos => ?_) (fun hz => ?_)⟩
      · have hpos' : (0 : Int) < (lx.length : Int) := of_decide_eq_true hpos
        obtain ⟨a, l', rfl⟩ : ∃ a l', left = a :: l' := by
          cases left with
          | nil =>
            rw [List.length_nil] at hll
            omega
          | cons a l' => exact ⟨a, l', rfl⟩
        have ha : a ∈ srtA Es := hsub a List.mem_cons_self
        obtain ⟨hper, hperl⟩ := pm.per_ok ha
        obtain ⟨x0, ex0, hx0⟩ := eget' (i := 0) hl4 rfl
        refine ⟨fun σ' H' => ∃ m', m' < (a :: l').length ∧ (∃ y4 ll lx left fx found, σ' = [some (.ref g), some (.ref r), some (.ref ll), some (.ref lf), y4, none, none, none] ∧ Same H H' ∧ ll ≠ lf ∧ H' ll = some (.lst lx) ∧ Ats K H' lx left ∧ H' lf = some (.lst fx) ∧
          PySem.W.EachIs (TpAt K H') fx found ∧ found ++ fc (nx rot) left = fc (nx rot) (srtA Es) ∧ (∀ x ∈ left, x ∈ srtA Es) ∧ left.length ≤ 98 ∧ m' = left.length), fun σ' H' h => h, ?_⟩
        -- walk = [left[0]]
        refine ⟨.ref ll, rfl, ll, lx, 0, x0, rfl, rfl, SqL.of ell, atI_nat ex0, (by show 1 ≤ sizeLine; decide), fun wl nwl => ?_⟩
        have s6 : Same H4 (upd H4 wl (.lst [x0])) := same_upd nwl
        have hwl : wl ≠ ll ∧ wl ≠ lf := ⟨(ne_of_none ell nwl).symm, (ne_of_none elf nwl).symm⟩
        have Hwl : ∀ b o, H4 b = some o → b ≠ wl := fun b o e => ne_of_none e nwl
        refine ⟨fun m σ H' => ∃ i wx, σ = [some (.ref g), some (.ref r), some (.ref ll), some (.ref lf), some (.ref wl), none, none, none] ∧ Same H4 H' ∧ H' wl = some (.lst wx) ∧ Ats K H' wx (pre (nx rot) a (i + 1)) ∧ i < per (nx rot) a ∧ m = per (nx rot) a - (i + 1),
          ⟨_, 0, [x0], rfl, s6, upd_same, .cons ((Same.ts s6).at hx0) .nil, hper.1, rfl⟩, ?_⟩
        rintro m σ H5 ⟨i, wx, rfl, s5', ewl, hwx, hi, rfl⟩
        have t5 := t4.trans (Same.ts (K := K) s5')
        have hwl5 := hwx.length
        rw [pre_length] at hwl5
        have hmem : it (nx rot) i a ∈ arrows Es := (srtA_perm Es).mem_iff.mp (pm.it_mem i ha)
        obtain ⟨xi, exi, hxi⟩ := eget' hwx (pre_get (nx rot) a (Nat.lt_succ_self i))
        have hlast : atI wx (-1) = some xi := atI_end (by rw [hwl5]; exact exi)
        refine ⟨.ref r, rfl, .ref wl, rfl, 1, rfl, wl, wx, -1, xi, rfl, rfl, SqL.of ewl, hlast, r, xi, n, Es, rot, it (nx rot) i a, rfl, t5.rot hrot, hxi, g7.gr, hR, n7, hmem, fun H6 y s7 hy => ?_⟩
        have ewl6 := s7 _ _ ewl
        have hwx6 := (Same.ts (K := K) s7).ats hwx
        have ew0 : (pre (nx rot) a (i + 1))[0]? = some a := by rw [pre_get (nx rot) a (Nat.succ_pos i)] <;> rfl
        obtain ⟨z0, ez0, hz0⟩ := eget' hwx6 ew0
        refine ⟨.ref wl, rfl, wl, wx, 0, z0, rfl, rfl, SqL.of ewl6, atI_nat ez0, ne_ar hy hz0 ⟨_, rfl, ite2 (fun hneq => ?_) (fun heq => ?_)⟩⟩
        · have hnx : nx rot (it (nx rot) i a) ≠ a := by
            intro e
            rw [decide_eq_true e] at hneq
            cases hneq
          have hi1 : i + 1 < per (nx rot) a := by
            apply Nat.lt_of_le_of_ne hi
            intro e
            apply hnx
            rw [← it_out (nx rot) i a, show i + 1 = per (nx rot) a from e]
            exact hper.2.1
          refine ⟨fun σ' H' => ∃ m', m' < per (nx rot) a - (i + 1) ∧ ∃ i wx, σ' = [some (.ref g), some (.ref r), some (.ref ll), some (.ref lf), some (.ref wl), none, none, none] ∧ Same H4 H' ∧ H' wl = some (.lst wx) ∧ Ats K H' wx (pre (nx rot) a (i + 1)) ∧ i < per (nx rot) a ∧ m' = per (nx rot) a - (i + 1), fun σ' H' h => h, ?_⟩
          have t6 := t5.trans (Same.ts (K := K) s7)
          refine ⟨.ref wl, rfl, .inl ⟨rfl, _, SqL.of ewl6⟩, .ref r, rfl, .ref wl, rfl, 1, rfl, wl, wx, -1, xi, rfl, rfl, SqL.of ewl6, hlast, r, xi, n, Es, rot, it (nx rot) i a, rfl, t6.rot hrot, (Same.ts s7).at hxi, g7.gr, hR, n7, hmem, fun H7 y2 s8 hy2 => ?_⟩
          have ewl7 := s8 _ _ ewl6
          refine ⟨wl, wx, y2, rfl, rfl, ewl7, small1000 (by omega), ?_⟩
          have tD : TS K H7 (upd H7 wl (.lst (wx ++ [y2]))) := (But.upd (p := wl)).ts ewl7
          refine ⟨per (nx rot) a - (i + 1 + 1), by omega, i + 1, wx ++ [y2], rfl, ?_, upd_same, ?_, hi1, rfl⟩
          · intro b o e
            rw [upd_ne (Hwl b o e)]
            exact s8 _ _ (s7 _ _ (s5' _ _ e))
          · rw [pre_succ]
            refine esnoc (((Same.ts s8).trans tD).ats hwx6) (tD.at ?_)
            rw [it_out]
            exact hy2
        · have heq' : nx rot (it (nx rot) i a) = a := by
            by_cases e : nx rot (it (nx rot) i a) = a
            · exact e
            · rw [decide_eq_false e] at heq
              exact absurd rfl heq
          have hip : i + 1 = per (nx rot) a := by
            apply Nat.le_antisymm hi
            apply Nat.le_of_not_lt
            intro hlt
            exact hper.2.2 (i + 1) (Nat.succ_pos i) hlt (by rw [it_out]; exact heq')
          have horb : pre (nx rot) a (i + 1) = orb (nx rot) a := by
            unfold orb
            rw [hip]
          rw [horb] at hwx6
          have s46 := s5'.trans s7
          have t46 := Same.ts (K := K) s46
          -- left = [arrow for arrow in left if arrow not in walk]
          refine ⟨.ref ll, rfl, ll, rfl, ⟨lx, SqL.of (s46 _ _ ell)⟩, fun D2 nD2 => ?_⟩
          refine lc_list (K := K) (a := ll) (xs := lx) (fun j H8 => ∃ zs, Same H6 H8 ∧ H8 D2 = some (.lst zs) ∧ Ats K H8 zs (((a :: l').take j).filter fun x => decide (x ∉ orb (nx rot) a))) ⟨[], same_upd nD2, upd_same, .nil⟩ (fun j H8 _ h => ?_) ?_ ?_
          · obtain ⟨_, s8, _⟩ := h
            exact SqL.of (s8 _ _ (s46 _ _ ell))
          · rintro j x H8 hx ⟨zs, s8, eD2, hz⟩
            have t8 := Same.ts (K := K) s8
            obtain ⟨e, he, hxe⟩ := eget ((t46.trans t8).ats hl4) hx
            have hzl := hz.length
            have hfl := List.length_filter_le (fun x => decide (x ∉ orb (nx rot) a)) ((a :: l').take j)
            have htl := List.length_take_le' j (a :: l')
            refine ⟨rfl, x, rfl, .ref wl, rfl, notin_lst hxe (SqL.of (s8 _ _ ewl6)) (t8.ats hwx6) ⟨_, rfl, ?_⟩⟩
            rw [take_next he, List.filter_append]
            by_cases hin : e ∈ orb (nx rot) a
            · rw [decide_eq_true hin]
              refine iteF ⟨zs, s8, eD2, ?_⟩
              rw [List.filter_cons, if_neg (by simp [hin]), List.filter_nil, List.append_nil]
              exact hz
            · rw [decide_eq_false hin]
              have tD : TS K H8 (upd H8 D2 (.lst (zs ++ [x]))) := (But.upd (p := D2)).ts eD2
              refine ⟨x, rfl, zs, eD2, small1000 (by omega), zs ++ [x], ?_, upd_same, ?_⟩
              · intro b o q
                rw [upd_ne (ne_of_none q nD2)]
                exact s8 _ _ q
              · rw [List.filter_cons, if_pos (by simp [hin]), List.filter_nil]
                exact esnoc (tD.ats hz) (tD.at hxe)
          · rintro H8 ⟨zs, s8, eD2, hz⟩
            have hwhole : (a :: l').take lx.length = a :: l' := List.take_of_length_le (by omega)
            rw [hwhole, filter_self pm ha] at hz
            have s48 := s46.trans s8
            have hD2lf : D2 ≠ lf := (ne_of_none (s46 _ _ elf) nD2).symm
            have ewl8 := s8 _ _ ewl6
            refine ⟨.ref lf, rfl, .inl ⟨rfl, _, SqL.of (s48 _ _ elf)⟩, .ref wl, rfl, wl, wx, rfl, .inl ⟨SqL.of ewl8, fun t nt => ?_⟩⟩
            have s9 : Same H8 (upd H8 t (.tup wx)) := same_upd nt
            have elf9 := s9 _ _ (s48 _ _ elf)
            have hfl := hf4.length
            have hfo : found.length ≤ 98 := by
              have h1 := congrArg List.length hfound
              rw [List.length_append] at h1
              have h2 := pm.fc_len (srtA Es)
              omega
            refine ⟨lf, fx, .ref t, rfl, rfl, elf9, small1000 (by omega), ?_⟩
            have tD : TS K (upd H8 t (.tup wx)) (upd (upd H8 t (.tup wx)) lf (.lst (fx ++ [.ref t]))) := (But.upd (p := lf)).ts elf9
            have t89 := (Same.ts (K := K) s9).trans tD
            have hT : TpAt K (upd H8 t (.tup wx)) (.ref t) (orb (nx rot) a) := ⟨t, wx, rfl, SqT.of upd_same, ((Same.ts s8).trans (Same.ts s9)).ats hwx6⟩
            have hfl2 := List.length_filter_le (fun x => decide (x ∉ orb (nx rot) a)) l'
            simp only [List.length_cons] at hleft
            refine ⟨_, ?_, some (.ref wl), D2, zs, l'.filter (fun x => decide (x ∉ orb (nx rot) a)), fx ++ [.ref t], found ++ [orb (nx rot) a], rfl, ?_, hD2lf, ?_, t89.ats hz, upd_same, esnoc (((Same.ts s48).trans t89).tps hf4) (tD.tp hT), ?_, ?_, ?_, rfl⟩
            · simp only [List.length_cons]
              omega
            · intro b o e
              rw [upd_ne (ne_of_none e Hlf)]
              exact s9 _ _ (s48 _ _ (sm _ _ e))
            · rw [upd_ne hD2lf]
              exact s9 _ _ eD2
            · rw [← hfound, fc_step, List.append_assoc]
              rfl
            · intro x hx
              exact hsub x (List.mem_cons_of_mem _ (List.mem_filter.mp hx).1)
            · omega
      · have hnil : left = [] := by
          cases left with
          | nil => rfl
          | cons a l' =>
            exfalso
            apply hz
            rw [hll, List.length_cons]
            exact decide_eq_true (by omega)
        subst hnil
        rw [fc_nil, List.append_nil] at hfound
        subst hfound
        exact ⟨.ref lf, rfl, q H4 lf fx sm elf hf4⟩
end
end FW
end
section
set_option Elab.async false
set_option linter.all false
set_option maxRecDepth 100000
set_option maxHeartbeats 4000000
namespace FW
open PySem PySem.Spec PyProof.Rows L2 FM
theorem succ1_lt {l : List Nat} {u : Nat} (h : l.idxOf u + 1 < l.length) : succ1 l u = l[l.idxOf u + 1] := by
  unfold succ1
  rw [Nat.mod_eq_of_lt h]
  exact getD_at h
theorem succ1_end {l : List Nat} {u : Nat} (hp : 0 < l.length) (h : l.idxOf u + 1 = l.length) : succ1 l u = l[0] := by
  unfold succ1
  rw [h, Nat.mod_self]
  exact getD_at hp
section
variable {P : Program} {w : World} {K : PySem.W.Frag} {mg : Str → Option Value} {base : Heap}
theorem ok_lfaces {f : Addr} {fd : FuncData} {k : Nat} (F : Fun K "_law_faces" "_law_faces" sLFaces f fd)
    (mt : mg "tuple" = none) (ml : mg "len" = none) (mls : mg "list" = none) (ms : mg "sorted" = none) (mr : mg "range" = none) : FnOk P w K mg base CX0 (k + 1) f fd ["_law_graph_here", "_law_rotation"] (spFaces K) := by
  refine F.ok scLFaces (fun vs H Q E h => ?_) (fun cdv A outer s H vs Q E hr h => ?_)
  · obtain ⟨g, r, n, Es, rot, rfl, _⟩ := h
    rfl
  · obtain ⟨g, r, n, Es, rot, rfl, hG, g7, hrot, hR, n7, q⟩ := h
    have nd := scLFaces.nd
    have hu := hu65 hr
    have hu4 := hu64 hr
    refine ⟨_, pss_cons (ps_set (i := 2) nd rfl (.inl rfl) (pe_callB (cr_sortD hu4) (by rfl) ms (by decide +kernel) (pa_cons (pe_op op_cat (pe_callTy call_list_of (by rfl) mls (by decide +kernel) (pa_cons (pe_ix ix_tup (pv 0) pe_int (fun _ _ => rfl)) pa_nil))
        (pe_lc (own := [("_law_edge", 10)]) (g := gName 10) (by rfl) nd (pi_tup (pe_ix ix_tup (pv 0) pe_int (fun _ _ => rfl)))
          (blkOk_by (own := [("_law_edge", 10)]) (N := ["_law_graph_here", "_law_rotation", "_law_left", "_law_found", "_law_turn", "_law_walk", "_law_k", "_law_item", "_law_place", "_law_arrow", "_law_edge"]) (sc := defScope sLFaces) (by decide +kernel))
          (fun _ _ _ _ _ => pg_name (i := 10) nd rfl (Or.inl rfl))
          (fun _ _ _ _ _ => pts_nil) (fun _ _ _ _ _ => pe_tup (pa_cons (pe_ix (r := rIxT K) ix_tup (pv 10) pe_int (fun _ _ => rfl)) (pa_cons (pe_ix (r := rIxT K) ix_tup (pv 10) pe_int (fun _ _ => rfl)) pa_nil))))) pa_nil)))
      (pss_cons (ps_set (i := 3) nd rfl (.inl rfl) (pe_lst pa_nil))
      (pss_cons (ps_for PassesOwn.never rfl (pi_range1 (by rfl) mr (pa_cons (pe_op op_mul pe_int (pe_callB call_len_seq (by rfl) ml PySem.boot_len (pa_cons (pe_ix ix_tup (pv 0) pe_int (fun _ _ => rfl)) pa_nil))) pa_nil)) (pg_name (i := 4) nd rfl (.inl rfl))
        (pss_one (ps_if (pt_cmpR op_gt (pe_callB call_len_seq (by rfl) ml PySem.boot_len (pa_cons (pv 2) pa_nil)) pe_int (nomark _))
          (pss_cons (ps_set (i := 5) nd rfl (.inr rfl) (pe_lst (pa_cons (pe_ix ix_list (pv 2) pe_int (fun _ _ => rfl)) pa_nil)))
          (pss_cons (ps_for PassesOwn.never rfl (pi_range1 (by rfl) mr (pa_cons (pe_op op_mul pe_int (pe_callB call_len_seq (by rfl) ml PySem.boot_len (pa_cons (pe_ix ix_tup (pv 0) pe_int (fun _ _ => rfl)) pa_nil))) pa_nil)) (pg_name (i := 6) nd rfl (.inl rfl))
            (pss_cons (ps_set (i := 7) nd rfl (.inl rfl) (pe_ix ix_tup (pv 1) (pe_ix ix_tup (pe_ix ix_list (pv 5) (pe_un un_neg pe_int) (fun _ _ => rfl)) pe_int (fun _ _ => rfl)) (fun _ _ => rfl)))
            (pss_cons (ps_set (i := 8) nd rfl (.inl rfl) (pe_op op_add (pe_idxF (pv 7) (pe_ix ix_tup (pe_ix ix_list (pv 5) (pe_un un_neg pe_int) (fun _ _ => rfl)) pe_int (fun _ _ => rfl))) pe_int))
            (C8.pss_cut (ps_set (i := 9) nd rfl (.inl rfl) (pe_tup (pa_cons (pe_ix ix_tup (pe_ix ix_list (pv 5) (pe_un un_neg pe_int) (fun _ _ => rfl)) pe_int (fun _ _ => rfl))
                (pa_cons (pe_ifExp (pt_cmpR op_lt (pv 8) (pe_callB call_len_seq (by rfl) ml PySem.boot_len (pa_cons (pv 7) pa_nil)) (nomark _)) (pe_ix ix_tup (pv 7) (pv 8) (fun _ _ => rfl)) (pe_ix ix_tup (pv 7) pe_int (fun _ _ => rfl))) pa_nil))))
            (pss_cons (ps_if (pt_cmpR (op_eqD hu4) (pv 9) (pe_ix ix_list (pv 5) pe_int (fun _ _ => rfl)) (nomark _)) (pss_one ps_break) pss_nil)
            (pss_one (ps_expr (pe_bm PySem.F.plainAttrs_list PySem.F.slot_list_append PySem.F.type_list_append mt_append (pv 5) (pa_cons (pv 9) pa_nil)))))))))
          (pss_cons (ps_setLc (i := 2) (own := [("_law_arrow", 9)]) (g := gName 9) rfl nd rfl rfl (sw_true rfl rfl rfl (by decide +kernel)) (pi_list (pv 2))
            (blkOk_by (own := [("_law_arrow", 9)]) (N := ["_law_graph_here", "_law_rotation", "_law_left", "_law_found", "_law_turn", "_law_walk", "_law_k", "_law_item", "_law_place", "_law_arrow", "_law_edge"]) (sc := defScope sLFaces) (by decide +kernel)) (fun _ _ _ _ _ => pg_name (i := 9) nd rfl (Or.inl rfl))
            (fun _ _ _ _ _ => pts_one (pt_cmpR (r := rNotInD K) (op_notInD hu) (pv 9) (pv 5) (by rfl))) (fun _ _ _ _ _ => pv 9))
          (pss_one (ps_expr (pe_bm PySem.F.plainAttrs_list PySem.F.slot_list_append PySem.F.type_list_append mt_append (pv 3) (pa_cons (pe_callTy call_tuple_of (by rfl) mt (by decide +kernel) (pa_cons (pv 5) pa_nil)) pa_nil)))))))
          pss_nil)))
      (pss_one (ps_ret (pv 3))))), ?_⟩
    obtain ⟨te, xs, hg1, hg2, hg3⟩ := id hG
    have pm : Pm (srtA Es) (nx rot) := hR.pm g7.gr (srtA_perm Es)
    have hlA2 : (srtA Es).length = 2 * Es.length := by
      rw [(srtA_perm Es).length_eq]
      exact arrows_len Es
    have hlE := g7.len
    have hxl := hg3.length
    -- sorted(list(graph[1]) + [(edge[1], edge[0]) for edge in graph[1]])
    refine ⟨.ref g, rfl, g, _, 1, .ref te, rfl, rfl, hg1, atI_nat (j := 1) rfl, te, xs, rfl, .inr hg2, fun l1 nl1 => ?_⟩
    have s1 : Same H (upd H l1 (.lst xs)) := same_upd nl1
    have t1 := Same.ts (K := K) s1
    refine ⟨.ref g, rfl, g, _, 1, .ref te, rfl, rfl, t1.1 _ _ hg1, atI_nat (j := 1) rfl, te, rfl, ⟨xs, t1.1 _ _ hg2⟩, fun D nD => ?_⟩
    refine lc_tup (K := K) (a := te) (xs := xs) (fun i H2 => ∃ zs, Same (upd H l1 (.lst xs)) H2 ∧ H2 D = some (.lst zs) ∧ Ats K H2 zs ((Es.take i).map sw)) ⟨[], same_upd nD, upd_same, .nil⟩ (fun i H2 _ h => ?_) ?_ ?_
    · obtain ⟨_, s2, _⟩ := h
      exact (Same.ts s2).1 _ _ (t1.1 _ _ hg2)
    · rintro i x H2 hx ⟨zs, s2, eD, hz⟩
      have t2 := t1.trans (Same.ts (K := K) s2)
      obtain ⟨⟨u, v⟩, he, tx, rfl, htx⟩ := eget (t2.ats hg3) hx
      refine ⟨rfl, .ref tx, rfl, tx, _, 1, nv v, rfl, rfl, htx, atI_nat (j := 1) rfl, .ref tx, rfl, tx, _, 0, nv u, rfl, rfl, htx, atI_nat (j := 0) rfl, (by show 2 ≤ sizeLine; decide), fun t nt => ?_⟩
      have s3 : Same H2 (upd H2 t (.tup [nv v, nv u])) := same_upd nt
      have eD3 := s3 _ _ eD
      have tD : TS K (upd H2 t (.tup [nv v, nv u])) (upd (upd H2 t (.tup [nv v, nv u])) D (.lst (zs ++ [.ref t]))) := (But.upd (p := D)).ts eD3
      have hzl := hz.length
      rw [List.length_map, List.length_take] at hzl
      refine ⟨zs, eD3, small1000 (by omega), zs ++ [.ref t], ?_, upd_same, ?_⟩
      · intro b o e
        rw [upd_ne (ne_of_none e nD)]
        exact s3 _ _ (s2 _ _ e)
      · rw [take_next he, List.map_append]
        exact esnoc (((Same.ts s3).trans tD).ats hz) (tD.at (at_new (a := (v, u))))
    · rintro H2 ⟨zs, s2, eD, hz⟩
      have e1 : H2 l1 = some (.lst xs) := s2 _ _ upd_same
      have t2 := t1.trans (Same.ts (K := K) s2)
      have hw : (Es.take xs.length).map sw = Es.map sw := by rw [List.take_of_length_le (by omega)]
      rw [hw] at hz
      have hzl := hz.length
      rw [List.length_map] at hzl
      refine ⟨l1, D, xs, zs, rfl, rfl, e1, eD, Nat.le_of_lt (small1000 (by omega)), fun p np => ?_⟩
      have s3 : Same H2 (upd H2 p (.lst (xs ++ zs))) := same_upd np
      have hA : Ats K (upd H2 p (.lst (xs ++ zs))) (xs ++ zs) (arrows Es) := (Same.ts s3).ats (eapp (t2.ats hg3) hz)
      refine ⟨Ar, p, xs ++ zs, arD, arrows Es, rfl, .inl (SqL.of upd_same), hA.dp, all_ar _, srt_ar _, fun b _ => by rw [arD_depth]; decide, fun ll lx nll dlx => ?_⟩
      have s4 : Same (upd H2 p (.lst (xs ++ zs))) (upd (upd H2 p (.lst (xs ++ zs))) ll (.lst lx)) := same_upd nll
      have hlx := (Same.ts (K := K) s4).ats (ats_dp dlx)
      have ell : (upd (upd H2 p (.lst (xs ++ zs))) ll (.lst lx)) ll = some (.lst lx) := upd_same
      have s14 : Same H (upd (upd H2 p (.lst (xs ++ zs))) ll (.lst lx)) := s1.trans (s2.trans (s3.trans s4))
      generalize upd (upd H2 p (.lst (xs ++ zs))) ll (.lst lx) = H3 at hlx ell s14 ⊢
      refine ⟨Nat.zero_le _, fun lf nlf => ?_⟩
      have s5 : Same H3 (upd H3 lf (.lst [])) := same_upd nlf
      have Hlf : H lf = none := s14.free nlf
      have t35 := (Same.ts (K := K) s14).trans (Same.ts s5)
      refine ⟨.ref g, rfl, g, _, 1, .ref te, rfl, rfl, t35.1 _ _ hg1, atI_nat (j := 1) rfl, te, xs, rfl, .inr (t35.1 _ _ hg2), 2, (xs.length : Int), rfl, rfl, .inl ⟨by decide, by decide⟩, ?_⟩
      have hm2 : ((2 : Int) * (xs.length : Nat)).toNat = 2 * Es.length := by omega
      refine ⟨_, rfl, by omega, by omega, ?_⟩
      rw [hm2]
      refine for_range (lo := 0) (n := 2 * Es.length) (fun t σ H' => ∃ y4 y5 y6 y7 y8 y9 ll lx left fx found, σ = [some (.ref g), some (.ref r), some (.ref ll), some (.ref lf), y4, y5, y6, y7, y8, y9, none] ∧ Same H H' ∧ ll ≠ lf ∧ H' ll = some (.lst lx) ∧ Ats K H' lx left ∧ H' lf = some (.lst fx) ∧
          PySem.W.EachIs (TpAt K H') fx found ∧ found ++ fc (nx rot) left = fc (nx rot) (srtA Es) ∧ (∀ x ∈ left, x ∈ srtA Es) ∧ left.length + t ≤ 2 * Es.length)
        ⟨none, none, none, none, none, none, ll, lx, srtA Es, [], [], rfl, s14.trans s5, ne_of_none ell nlf, s5 _ _ ell, (Same.ts s5).ats hlx, upd_same, .nil, rfl, fun x hx => hx, by omega⟩ ?_ ?_
      · rintro t σ H4 ht ⟨y4, y5, y6, y7, y8, y9, ll, lx, left, fx, found, rfl, sm, hne, ell, hl4, elf, hf4, hfound, hsub, hleft⟩
        have t4 := Same.ts (K := K) sm
        have hll := hl4.length
        refine ⟨.ref ll, rfl, ll, lx, rfl, .inl (SqL.of ell), (lx.length : Int), 0, rfl, rfl, _, rfl, ite2 (fun hpos => ?_) (fun hz => ?_)⟩
        · have hpos' : (0 : Int) < (lx.length : Int) := of_decide_eq_true hpos
          obtain ⟨a, l', rfl⟩ : ∃ a l', left = a :: l' := by
            cases left with
            | nil =>
              rw [List.length_nil] at hll
              omega
            | cons a l' => exact ⟨a, l', rfl⟩
          have ha : a ∈ srtA Es := hsub a List.mem_cons_self
          obtain ⟨hper, hperl⟩ := pm.per_ok ha
          obtain ⟨x0, ex0, hx0⟩ := eget' (i := 0) hl4 rfl
          -- walk = [left[0]]
          refine ⟨.ref ll, rfl, ll, lx, 0, x0, rfl, rfl, SqL.of ell, atI_nat ex0, (by show 1 ≤ sizeLine; decide), fun wl nwl => ?_⟩
          have s6 : Same H4 (upd H4 wl (.lst [x0])) := same_upd nwl
          have Hwl : ∀ b o, H4 b = some o → b ≠ wl := fun b o e => ne_of_none e nwl
          have t46 := t4.trans (Same.ts (K := K) s6)
          refine ⟨.ref g, rfl, g, _, 1, .ref te, rfl, rfl, t46.1 _ _ hg1, atI_nat (j := 1) rfl, te, xs, rfl, .inr (t46.1 _ _ hg2), 2, (xs.length : Int), rfl, rfl, .inl ⟨by decide, by decide⟩, ?_⟩
          refine ⟨_, rfl, by omega, by omega, ?_⟩
          rw [hm2]
          refine for_range (lo := 0) (n := 2 * Es.length) (fun i σ H' => ∃ y6 y7 y8 y9 wx, σ = [some (.ref g), some (.ref r), some (.ref ll), some (.ref lf), some (.int ((0 : Int) + (t : Nat))), some (.ref wl), y6, y7, y8, y9, none] ∧ Same H4 H' ∧ H' wl = some (.lst wx) ∧ Ats K H' wx (pre (nx rot) a (i + 1)) ∧ i < per (nx rot) a)
            ⟨_, _, _, _, [x0], rfl, s6, upd_same, .cons ((Same.ts s6).at hx0) .nil, hper.1⟩ ?_ ?_
          · rintro i σ H5 hi2 ⟨y6, y7, y8, y9, wx, rfl, s5', ewl, hwx, hi⟩
            have t5 := t4.trans (Same.ts (K := K) s5')
            have hwl5 := hwx.length
            rw [pre_length] at hwl5
            have hmem : it (nx rot) i a ∈ arrows Es := (srtA_perm Es).mem_iff.mp (pm.it_mem i ha)
            obtain ⟨xi, exi, hxi⟩ := eget' hwx (pre_get (nx rot) a (Nat.lt_succ_self i))
            have hlast : atI wx (-1) = some xi := atI_end (by rw [hwl5]; exact exi)
            have hnxt : it (nx rot) (i + 1) a = nx rot (it (nx rot) i a) := it_out (nx rot) i a
            generalize hb : it (nx rot) i a = b at hmem hxi hnxt
            obtain ⟨u, v⟩ := b
            obtain ⟨tb, rfl, htb⟩ := id hxi
            obtain ⟨rx, hr1, hr2⟩ := id (t5.rot hrot)
            obtain ⟨hu', hv'⟩ := g7.gr.arrow_lt hmem
            have hv2 : v < rot.length := by rw [hR.len]; exact hv'
            obtain ⟨ti, hxt, hti⟩ := rot_row (r := r) hr2 hv2
            have hmu : u ∈ row rot v := hR.mem_row g7.gr hmem
            have hposr : 0 < (row rot v).length := List.length_pos_of_mem hmu
            have hidx : (row rot v).idxOf u < (row rot v).length := List.idxOf_lt_length_iff.mpr hmu
            have hlenr : ((row rot v).map nv).length = (row rot v).length := List.length_map _
            -- item = rotation[walk[-1][1]]
            refine ⟨.ref r, rfl, .ref wl, rfl, 1, rfl, wl, wx, -1, .ref tb, rfl, rfl, SqL.of ewl, hlast, tb, _, 1, nv v, rfl, rfl, htb, atI_nat (j := 1) rfl, r, rx, (v : Int), .ref ti, rfl, rfl, hr1, atI_nat hxt, ?_⟩
            -- place = item.index(walk[-1][0]) + 1
            refine ⟨.ref ti, rfl, ti, (row rot v).map fun k => ((k : Nat) : Int), rfl, by rw [map_nv]; exact hti, .ref wl, rfl, 1, rfl, wl, wx, -1, .ref tb, rfl, rfl, SqL.of ewl, hlast, tb, _, 0, nv u, rfl, rfl, htb, atI_nat (j := 0) rfl, (u : Int), rfl, by rw [map_nv]; exact hti.sq, List.mem_map.mpr ⟨u, hmu, rfl⟩, ?_⟩
            rw [idx_nv]
            refine ⟨_, 1, rfl, rfl, ?_⟩
            -- arrow
            refine ⟨fun σ' H' => ∃ y y8, σ' = [some (.ref g), some (.ref r), some (.ref ll), some (.ref lf), some (.int ((0 : Int) + (t : Nat))), some (.ref wl), some (.int ((0 : Int) + (i : Nat))), some (.ref ti), y8, some y, none] ∧ Same H5 H' ∧ At K H' y (nx rot (u, v)), ?_, ?_⟩
            · refine ⟨.ref wl, rfl, 1, rfl, wl, wx, -1, .ref tb, rfl, rfl, SqL.of ewl, hlast, tb, _, 1, nv v, rfl, rfl, htb, atI_nat (j := 1) rfl, ?_⟩
              refine ⟨_, rfl, .ref ti, rfl, ti, _, rfl, .inr hti.sq, _, _, rfl, rfl, _, rfl, ?_⟩
              have fin : ∀ (z : V), z = nv (succ1 (row rot v) u) → ∀ p, H5 p = none → Same H5 (upd H5 p (.tup [nv v, z])) ∧ At K (upd H5 p (.tup [nv v, z])) (.ref p) (nx rot (u, v)) := by
                intro z hz p np
                exact ⟨same_upd np, at_new' rfl hz⟩
              refine ite2 (fun hlt => ?_) (fun hge => ?_)
              · have hlt' : (row rot v).idxOf u + 1 < (row rot v).length := by
                  have h1 := of_decide_eq_true hlt
                  rw [hlenr] at h1
                  omega
                refine ⟨.ref ti, rfl, _, rfl, ti, _, _, nv (row rot v)[(row rot v).idxOf u + 1], rfl, rfl, hti.sq, at_of (j := (row rot v).idxOf u + 1) (by omega) (map_get hlt'), (by show 2 ≤ sizeLine; decide), fun p np => ?_⟩
                obtain ⟨f1, f2⟩ := fin _ (by rw [succ1_lt hlt']) p np
                exact ⟨.ref p, _, rfl, f1, f2⟩
              · have hge' : (row rot v).idxOf u + 1 = (row rot v).length := by
                  have h1 : ¬ ((((row rot v).idxOf u : Nat) : Int) + 1 < (((row rot v).map nv).length : Int)) := fun z => hge (decide_eq_true z)
                  rw [hlenr] at h1
                  omega
                refine ⟨.ref ti, rfl, ti, _, 0, nv (row rot v)[0], rfl, rfl, hti.sq, atI_nat (j := 0) (map_get hposr), (by show 2 ≤ sizeLine; decide), fun p np => ?_⟩
                obtain ⟨f1, f2⟩ := fin _ (by rw [succ1_end hposr hge']) p np
                exact ⟨.ref p, _, rfl, f1, f2⟩
            · rintro σ H6 ⟨y, y8, rfl, s7, hy⟩
              have ewl6 := s7 _ _ ewl
              have hwx6 := (Same.ts (K := K) s7).ats hwx
              have ew0 : (pre (nx rot) a (i + 1))[0]? = some a := by rw [pre_get (nx rot) a (Nat.succ_pos i)] <;> rfl
              obtain ⟨z0, ez0, hz0⟩ := eget' hwx6 ew0
              refine ⟨y, rfl, .ref wl, rfl, wl, wx, 0, z0, rfl, rfl, SqL.of ewl6, atI_nat ez0, eq_ar hy hz0 ⟨_, rfl, ite2 (fun heq => ?_) (fun hneq => ?_)⟩⟩
              · have heq' : nx rot (u, v) = a := of_decide_eq_true heq
                have hip : i + 1 = per (nx rot) a := by
                  apply Nat.le_antisymm hi
                  apply Nat.le_of_not_lt
                  intro hlt
                  exact hper.2.2 (i + 1) (Nat.succ_pos i) hlt (by rw [hnxt]; exact heq')
                have horb : pre (nx rot) a (i + 1) = orb (nx rot) a := by
                  unfold orb
                  rw [hip]
                rw [horb] at hwx6
                have s46 := s5'.trans s7
                have t46' := Same.ts (K := K) s46
                -- left = [arrow for arrow in left if arrow not in walk]
                refine ⟨.ref ll, rfl, ll, rfl, ⟨lx, SqL.of (s46 _ _ ell)⟩, fun D2 nD2 => ?_⟩
                refine lc_list (K := K) (a := ll) (xs := lx) (fun j H8 => ∃ zs, Same H6 H8 ∧ H8 D2 = some (.lst zs) ∧ Ats K H8 zs (((a :: l').take j).filter fun x => decide (x ∉ orb (nx rot) a))) ⟨[], same_upd nD2, upd_same, .nil⟩ (fun j H8 _ h => ?_) ?_ ?_
                · obtain ⟨_, s8, _⟩ := h
                  exact SqL.of (s8 _ _ (s46 _ _ ell))
                · rintro j x H8 hx ⟨zs, s8, eD2, hz⟩
                  have t8 := Same.ts (K := K) s8
                  obtain ⟨e, he, hxe⟩ := eget ((t46'.trans t8).ats hl4) hx
                  have hzl := hz.length
                  have hfl := List.length_filter_le (fun x => decide (x ∉ orb (nx rot) a)) ((a :: l').take j)
                  have htl := List.length_take_le' j (a :: l')
                  refine ⟨rfl, x, rfl, .ref wl, rfl, notin_lst hxe (SqL.of (s8 _ _ ewl6)) (t8.ats hwx6) ⟨_, rfl, ?_⟩⟩
                  rw [take_next he, List.filter_append]
                  by_cases hin : e ∈ orb (nx rot) a
                  · rw [decide_eq_true hin]
                    refine iteF ⟨zs, s8, eD2, ?_⟩
                    rw [List.filter_cons, if_neg (by simp [hin]), List.filter_nil, List.append_nil]
                    exact hz
                  · rw [decide_eq_false hin]
                    have tD : TS K H8 (upd H8 D2 (.lst (zs ++ [x]))) := (But.upd (p := D2)).ts eD2
                    refine ⟨x, rfl, zs, eD2, small1000 (by omega), zs ++ [x], ?_, upd_same, ?_⟩
                    · intro b o q
                      rw [upd_ne (ne_of_none q nD2)]
                      exact s8 _ _ q
                    · rw [List.filter_cons, if_pos (by simp [hin]), List.filter_nil]
                      exact esnoc (tD.ats hz) (tD.at hxe)
                · rintro H8 ⟨zs, s8, eD2, hz⟩
                  have hwhole : (a :: l').take lx.length = a :: l' := List.take_of_length_le (by omega)
                  rw [hwhole, filter_self pm ha] at hz
                  have s48 := s46.trans s8
                  have hD2lf : D2 ≠ lf := (ne_of_none (s46 _ _ elf) nD2).symm
                  have ewl8 := s8 _ _ ewl6
                  refine ⟨.ref lf, rfl, .inl ⟨rfl, _, SqL.of (s48 _ _ elf)⟩, .ref wl, rfl, wl, wx, rfl, .inl ⟨SqL.of ewl8, fun tt nt => ?_⟩⟩
                  have s9 : Same H8 (upd H8 tt (.tup wx)) := same_upd nt
                  have elf9 := s9 _ _ (s48 _ _ elf)
                  have hfl := hf4.length
                  have hfo : found.length ≤ 98 := by
                    have h1 := congrArg List.length hfound
                    rw [List.length_append] at h1
                    have h2 := pm.fc_len (srtA Es)
                    omega
                  refine ⟨lf, fx, .ref tt, rfl, rfl, elf9, small1000 (by omega), ?_⟩
                  have tD : TS K (upd H8 tt (.tup wx)) (upd (upd H8 tt (.tup wx)) lf (.lst (fx ++ [.ref tt]))) := (But.upd (p := lf)).ts elf9
                  have t89 := (Same.ts (K := K) s9).trans tD
                  have hT : TpAt K (upd H8 tt (.tup wx)) (.ref tt) (orb (nx rot) a) := ⟨tt, wx, rfl, SqT.of upd_same, ((Same.ts s8).trans (Same.ts s9)).ats hwx6⟩
                  have hfl2 := List.length_filter_le (fun x => decide (x ∉ orb (nx rot) a)) l'
                  simp only [List.length_cons] at hleft
                  refine ⟨_, _, _, _, _, _, D2, zs, l'.filter (fun x => decide (x ∉ orb (nx rot) a)), fx ++ [.ref tt], found ++ [orb (nx rot) a], rfl, ?_, hD2lf, ?_, t89.ats hz, upd_same, esnoc (((Same.ts s48).trans t89).tps hf4) (tD.tp hT), ?_, ?_, ?_⟩
                  · intro b o e
                    rw [upd_ne (ne_of_none e Hlf)]
                    exact s9 _ _ (s48 _ _ (sm _ _ e))
                  · rw [upd_ne hD2lf]
                    exact s9 _ _ eD2
                  · rw [← hfound, fc_step, List.append_assoc]
                    rfl
                  · intro x hx
                    exact hsub x (List.mem_cons_of_mem _ (List.mem_filter.mp hx).1)
                  · omega
              · have hneq' : nx rot (u, v) ≠ a := fun e => hneq (decide_eq_true e)
                have hi1 : i + 1 < per (nx rot) a := by
                  apply Nat.lt_of_le_of_ne hi
                  intro e
                  apply hneq'
                  rw [← hnxt, show i + 1 = per (nx rot) a from e]
                  exact hper.2.1
                have tD : TS K H6 (upd H6 wl (.lst (wx ++ [y]))) := (But.upd (p := wl)).ts ewl6
                refine ⟨.ref wl, rfl, .inl ⟨rfl, _, SqL.of ewl6⟩, y, rfl, wl, wx, y, rfl, rfl, ewl6, small1000 (by omega), ?_⟩
                refine ⟨_, _, _, _, wx ++ [y], rfl, ?_, upd_same, ?_, hi1⟩
                · intro b o e
                  rw [upd_ne (Hwl b o e)]
                  exact s7 _ _ (s5' _ _ e)
                · rw [pre_succ, hnxt]
                  exact esnoc (tD.ats hwx6) (tD.at hy)
          · rintro σ H5 ⟨y6, y7, y8, y9, wx, rfl, s5', ewl, hwx, hi⟩
            omega
        · have hnil : left = [] := by
            cases left with
            | nil => rfl
            | cons a l' =>
              exfalso
              apply hz
              rw [hll, List.length_cons]
              exact decide_eq_true (by omega)
          subst hnil
          exact ⟨_, y5, y6, y7, y8, y9, ll, lx, [], fx, found, rfl, sm, hne, ell, hl4, elf, hf4, hfound, hsub, by rw [List.length_nil]; omega⟩
      · rintro σ H4 ⟨y4, y5, y6, y7, y8, y9, ll, lx, left, fx, found, rfl, sm, hne, ell, hl4, elf, hf4, hfound, hsub, hleft⟩
        have hnil : left = [] := List.length_eq_zero_iff.mp (by omega)
        subst hnil
        rw [fc_nil, List.append_nil] at hfound
        subst hfound
        exact ⟨.ref lf, rfl, q H4 lf fx sm elf hf4⟩
end
end FW
end
section
set_option Elab.async false
set_option linter.all false
set_option maxRecDepth 100000
set_option maxHeartbeats 4000000
namespace FW
open PySem PySem.Spec PyProof.Rows L2 FM
section
variable {P : Program} {w : World} {K : PySem.W.Frag} {mg : Str → Option Value} {base : Heap}
def spMirr (K : PySem.W.Frag) : Sp := fun vs H Q _ => ∃ (r : Addr) (rot : List (List Nat)), vs = [.ref r] ∧ RotAt K H r rot ∧ rot.length ≤ 7 ∧ ∀ H' r', Same H H' → RotAt K H' r' (mir rot) → Q (.ref r') H'
theorem ok_mirr {f : Addr} {fd : FuncData} {k : Nat} (F : Fun K "mirrored" "mirrored" sMirr f fd) (mt : mg "tuple" = none) (mrv : mg "reversed" = none) : FnOk P w K mg base CX0 (k + 1) f fd ["rotation"] (spMirr K) := by
  refine F.ok scMirr (fun vs H Q E h => ?_) (fun cdv A outer s H vs Q E hr h => ?_)
  · obtain ⟨r, rot, rfl, _⟩ := h
    rfl
  · obtain ⟨r, rot, rfl, hrot, hlen, q⟩ := h
    have nd := scMirr.nd
    refine ⟨_, pss_one (ps_ret (pe_callTy call_tuple_of (by rfl) mt (by decide +kernel) (pa_cons (pe_lc (own := [("item", 1)]) (g := gName 1) (te := tTupRevT K (tVar 1)) (by rfl) nd (pi_tup (pv 0))
      (blkOk_by (own := [("item", 1)]) (N := ["rotation", "item"]) (sc := defScope sMirr) (by decide +kernel)) (fun _ _ _ _ _ => pg_name (i := 1) nd rfl (Or.inl rfl)) (fun _ _ _ _ _ => pts_nil)
      (fun _ _ _ _ _ => pe_tupRevT rfl (by rfl) mt (by rfl) mrv (pv 1))) pa_nil))), ?_⟩
    obtain ⟨xs, h1, h2⟩ := id hrot
    refine ⟨.ref r, rfl, r, rfl, ⟨xs, h1⟩, fun D nD => ?_⟩
    have hxl := h2.length
    refine lc_tup (K := K) (a := r) (xs := xs) (fun i H2 => ∃ zs, Same H H2 ∧ H2 D = some (.lst zs) ∧ PySem.W.EachIs (RowAt H2) zs ((rot.take i).map List.reverse)) ⟨[], same_upd nD, upd_same, .nil⟩ (fun i H2 _ h => ?_) ?_ ?_
    · obtain ⟨_, s2, _⟩ := h
      exact (Same.ts s2).1 _ _ h1
    · rintro i x H2 hx ⟨zs, s2, eD, hz⟩
      obtain ⟨row, hrow, a, rfl, ha⟩ := eget ((Same.ts (K := K) s2).rows h2) hx
      have hzl := hz.length
      rw [List.length_map, List.length_take] at hzl
      refine ⟨rfl, .ref a, rfl, a, row.map nv, rfl, ha.sq, fun t o nt oc od => ?_⟩
      have s3 : Same H2 (upd H2 t (.frz o (.tup (row.map nv).reverse))) := same_upd nt
      have eD3 := s3 _ _ eD
      have tD : TS K (upd H2 t (.frz o (.tup (row.map nv).reverse))) (upd (upd H2 t (.frz o (.tup (row.map nv).reverse))) D (.lst (zs ++ [.ref t]))) := (But.upd (p := D)).ts eD3
      refine ⟨zs, eD3, small1000 (by omega), zs ++ [.ref t], ?_, upd_same, ?_⟩
      · intro b o' e
        rw [upd_ne (ne_of_none e nD)]
        exact s3 _ _ (s2 _ _ e)
      · rw [take_next hrow, List.map_append]
        refine esnoc (((Same.ts s3).trans tD).rows hz) (tD.row ⟨t, rfl, o, ?_, oc, od⟩)
        rw [upd_same, List.map_reverse]
    · rintro H2 ⟨zs, s2, eD, hz⟩
      have hw : rot.take xs.length = rot := List.take_of_length_le (by omega)
      rw [hw] at hz
      refine ⟨D, zs, rfl, .inl ⟨SqL.of eD, fun t nt => ?_⟩⟩
      have s3 : Same H2 (upd H2 t (.tup zs)) := same_upd nt
      exact q _ t (s2.trans s3) ⟨zs, SqT.of upd_same, (Same.ts (K := K) s3).rows hz⟩
end
end FW
end
section
set_option Elab.async false
set_option linter.all false
set_option maxRecDepth 100000
set_option maxHeartbeats 4000000
namespace FW
open PySem PySem.Spec PyProof.Rows L2 FM
section
variable {P : Program} {w : World} {K : PySem.W.Frag} {mg : Str → Option Value} {base : Heap}
/-- ints, tuples and lists of such, to a depth -/
def TI : Nat → PyData → Prop
  | 0, d => ∃ i, d = .int i
  | k + 1, d => (∃ i, d = .int i) ∨ ∃ ds, (d = .tuple ds ∨ d = .list ds) ∧ ds.length ≤ 1000 ∧ ∀ e ∈ ds, TI k e
theorem sqt_ty {H : Hp} {a : Addr} {xs : List V} (h : SqT K H a xs) : TyX K H (.ref a) (.type "tuple") := by
  rcases h with (h | ⟨o, h⟩) | ⟨o, its, n, h, c, _⟩
  · exact .base (.tup h)
  · exact .fTuple h
  · exact .kTuple h c
theorem sql_ty {H : Hp} {a : Addr} {xs : List V} (h : SqL K H a xs) : TyX K H (.ref a) (.type "list") := by
  rcases h with (h | ⟨o, h⟩) | ⟨o, its, n, h, c, _⟩
  · exact .base (.lst h)
  · exact .base (.frz h)
  · exact .kList h c
theorem dget : ∀ {H : Hp} {xs : List V} {ds : List PyData} {i : Nat} {d : PyData}, DpAll K H xs ds → ds[i]? = some d → ∃ x, xs[i]? = some x ∧ Dp K H x d
  | _, _, _, _, _, .nil, e => by simp at e
  | _, _, _, 0, _, .cons h _, e => by
    cases e
    exact ⟨_, rfl, h⟩
  | _, _, _, i + 1, d, .cons _ t, e => dget (i := i) t e
def spSame (K : PySem.W.Frag) (k : Nat) : Sp := fun vs H Q _ => ∃ (x y : V) (d : PyData), vs = [x, y] ∧ Dp K H x d ∧ Dp K H y d ∧ TI k d ∧ Q (.bl true) H
theorem ok_same {f : Addr} {fd : FuncData} (F : Fun K "_law_same" "_law_same" sSame f fd) (bF : Binds K fd ["_law_actual", "_law_due"] []) (gF : mg "_law_same" = some (.ref f))
    (mt : mg "tuple" = none) (ml : mg "len" = none) (mls : mg "list" = none) (mi : mg "int" = none) (mb : mg "bool" = none) (mis : mg "isinstance" = none) (mr : mg "range" = none) : ∀ k, FnOk P w K mg base CX0 (k + 1) f fd ["_law_actual", "_law_due"] (spSame K k) := by
  intro k
  induction k with
  | zero =>
    refine F.ok scSame (fun vs H Q E h => ?_) (fun cdv A outer s H vs Q E hr h => ?_)
    · obtain ⟨x, y, d, rfl, _⟩ := h
      rfl
    · obtain ⟨x, y, d, rfl, hx, hy, ⟨i, rfl⟩, q⟩ := h
      refine ⟨_, pss_cons (ps_if (PW.pt (pw_or (pt_val (pe_callB call_isi (by rfl) mis (by decide +kernel) (pa_cons (pv 1) (pa_cons (pe_bltn (v := .ty "tuple") (by rfl) mt (by decide +kernel) rfl) pa_nil))))
          (pw_or1 (pt_val (pe_callB call_isi (by rfl) mis (by decide +kernel) (pa_cons (pv 1) (pa_cons (pe_bltn (v := .ty "list") (by rfl) mls (by decide +kernel) rfl) pa_nil))))))) pss_never pss_nil)
        (pss_cons (ps_if (pt_cmpR op_isN (pv 1) pe_non (nomark _)) pss_never pss_nil)
        (pss_cons (ps_if (pt_val (pe_callB call_isi (by rfl) mis (by decide +kernel) (pa_cons (pv 1) (pa_cons (pe_bltn (v := .ty "bool") (by rfl) mb (by decide +kernel) rfl) pa_nil)))) pss_never pss_nil)
        (pss_cons (ps_if (pt_val (pe_callB call_isi (by rfl) mis (by decide +kernel) (pa_cons (pv 1) (pa_cons (pe_bltn (v := .ty "int") (by rfl) mi (by decide +kernel) rfl) pa_nil))))
          (pss_one (ps_ret (pe_and (pe_callB call_isi (by rfl) mis (by decide +kernel) (pa_cons (pv 0) (pa_cons (pe_bltn (v := .ty "int") (by rfl) mi (by decide +kernel) rfl) pa_nil)))
            (pe_and (pe_not (pe_callB call_isi (by rfl) mis (by decide +kernel) (pa_cons (pv 0) (pa_cons (pe_bltn (v := .ty "bool") (by rfl) mb (by decide +kernel) rfl) pa_nil))))
              (pe_one (pe_cmpR op_eq (pv 0) (pv 1) (nomark _))))))) pss_nil)
        pss_never))), ?_⟩
      cases hx
      cases hy
      refine ⟨.int i, rfl, .int i, .ty "tuple", .type "int", .type "tuple", false, rfl, .ty _, .base (.int i), kit_ty (by decide +kernel), false, rfl, ?_⟩
      refine ⟨.int i, rfl, .int i, .ty "list", .type "int", .type "list", false, rfl, .ty _, .base (.int i), kit_ty (by decide +kernel), false, rfl, ?_⟩
      refine ⟨.int i, rfl, rfl, _, rfl, ?_⟩
      refine ⟨.int i, rfl, .int i, .ty "bool", .type "int", .type "bool", false, rfl, .ty _, .base (.int i), kit_ty (by decide +kernel), false, rfl, ?_⟩
      refine ⟨.int i, rfl, .int i, .ty "int", .type "int", .type "int", true, rfl, .ty _, .base (.int i), kit_ty (by decide +kernel), true, rfl, ?_⟩
      refine ⟨.int i, rfl, .int i, .ty "int", .type "int", .type "int", true, rfl, .ty _, .base (.int i), kit_ty (by decide +kernel), true, rfl, ?_⟩
      refine ⟨.int i, rfl, .int i, .ty "bool", .type "int", .type "bool", false, rfl, .ty _, .base (.int i), kit_ty (by decide +kernel), false, rfl, true, rfl, ?_⟩
      refine ⟨.int i, rfl, .int i, rfl, rfl, ?_⟩
      rw [decide_eq_true rfl]
      exact q
  | succ k ih =>
    refine F.ok scSame (fun vs H Q E h => ?_) (fun cdv A outer s H vs Q E hr h => ?_)
    · obtain ⟨x, y, d, rfl, _⟩ := h
      rfl
    · obtain ⟨x, y, d, rfl, hx, hy, hd, q⟩ := h
      have nd := scSame.nd
      refine ⟨_, pss_cons (ps_if (PW.pt (pw_or (pt_val (pe_callB call_isi (by rfl) mis (by decide +kernel) (pa_cons (pv 1) (pa_cons (pe_bltn (v := .ty "tuple") (by rfl) mt (by decide +kernel) rfl) pa_nil))))
          (pw_or1 (pt_val (pe_callB call_isi (by rfl) mis (by decide +kernel) (pa_cons (pv 1) (pa_cons (pe_bltn (v := .ty "list") (by rfl) mls (by decide +kernel) rfl) pa_nil)))))))
          (pss_cons (ps_if (PW.pt (pw_or (pt_cmpR op_ne (pe_callB call_isi (by rfl) mis (by decide +kernel) (pa_cons (pv 1) (pa_cons (pe_bltn (v := .ty "tuple") (by rfl) mt (by decide +kernel) rfl) pa_nil)))
                (pe_callB call_isi (by rfl) mis (by decide +kernel) (pa_cons (pv 0) (pa_cons (pe_bltn (v := .ty "tuple") (by rfl) mt (by decide +kernel) rfl) pa_nil))) (nomark _))
              (pw_or1 (pt_cmpR op_ne (pe_callB call_isi (by rfl) mis (by decide +kernel) (pa_cons (pv 1) (pa_cons (pe_bltn (v := .ty "list") (by rfl) mls (by decide +kernel) rfl) pa_nil)))
                (pe_callB call_isi (by rfl) mis (by decide +kernel) (pa_cons (pv 0) (pa_cons (pe_bltn (v := .ty "list") (by rfl) mls (by decide +kernel) rfl) pa_nil))) (nomark _))))) pss_never pss_nil)
          (pss_cons (ps_if (pt_cmpR op_ne (pe_callB call_len_seq (by rfl) ml PySem.boot_len (pa_cons (pv 0) pa_nil)) (pe_callB call_len_seq (by rfl) ml PySem.boot_len (pa_cons (pv 1) pa_nil)) (nomark _)) pss_never pss_nil)
          (pss_cons (ps_for PassesOwn.never rfl (pi_range1 (by rfl) mr (pa_cons (pe_callB call_len_seq (by rfl) ml PySem.boot_len (pa_cons (pv 1) pa_nil)) pa_nil)) (pg_name (i := 2) nd rfl (.inl rfl))
            (pss_one (ps_if (pt_not (pt_val (pe_call ih hr (by rfl) gF F.kp bF .nil pass0 (pa_cons (pe_ix ix_seq (pv 0) (pv 2) (fun _ _ => rfl)) (pa_cons (pe_ix ix_seq (pv 1) (pv 2) (fun _ _ => rfl)) pa_nil))))) pss_never pss_nil)))
          (pss_one (ps_ret pe_bl))))) pss_nil)
        (pss_cons (ps_if (pt_cmpR op_isN (pv 1) pe_non (nomark _)) pss_never pss_nil)
        (pss_cons (ps_if (pt_val (pe_callB call_isi (by rfl) mis (by decide +kernel) (pa_cons (pv 1) (pa_cons (pe_bltn (v := .ty "bool") (by rfl) mb (by decide +kernel) rfl) pa_nil)))) pss_never pss_nil)
        (pss_cons (ps_if (pt_val (pe_callB call_isi (by rfl) mis (by decide +kernel) (pa_cons (pv 1) (pa_cons (pe_bltn (v := .ty "int") (by rfl) mi (by decide +kernel) rfl) pa_nil))))
          (pss_one (ps_ret (pe_and (pe_callB call_isi (by rfl) mis (by decide +kernel) (pa_cons (pv 0) (pa_cons (pe_bltn (v := .ty "int") (by rfl) mi (by decide +kernel) rfl) pa_nil)))
            (pe_and (pe_not (pe_callB call_isi (by rfl) mis (by decide +kernel) (pa_cons (pv 0) (pa_cons (pe_bltn (v := .ty "bool") (by rfl) mb (by decide +kernel) rfl) pa_nil))))
              (pe_one (pe_cmpR op_eq (pv 0) (pv 1) (nomark _))))))) pss_nil)
        pss_never))), ?_⟩
      rcases hd with ⟨i, rfl⟩ | ⟨ds, rfl | rfl, hl, hall⟩
      · cases hx
        cases hy
        refine ⟨.int i, rfl, .int i, .ty "tuple", .type "int", .type "tuple", false, rfl, .ty _, .base (.int i), kit_ty (by decide +kernel), false, rfl, ?_⟩
        refine ⟨.int i, rfl, .int i, .ty "list", .type "int", .type "list", false, rfl, .ty _, .base (.int i), kit_ty (by decide +kernel), false, rfl, ?_⟩
        refine ⟨.int i, rfl, rfl, _, rfl, ?_⟩
        refine ⟨.int i, rfl, .int i, .ty "bool", .type "int", .type "bool", false, rfl, .ty _, .base (.int i), kit_ty (by decide +kernel), false, rfl, ?_⟩
        refine ⟨.int i, rfl, .int i, .ty "int", .type "int", .type "int", true, rfl, .ty _, .base (.int i), kit_ty (by decide +kernel), true, rfl, ?_⟩
        refine ⟨.int i, rfl, .int i, .ty "int", .type "int", .type "int", true, rfl, .ty _, .base (.int i), kit_ty (by decide +kernel), true, rfl, ?_⟩
        refine ⟨.int i, rfl, .int i, .ty "bool", .type "int", .type "bool", false, rfl, .ty _, .base (.int i), kit_ty (by decide +kernel), false, rfl, true, rfl, ?_⟩
        refine ⟨.int i, rfl, .int i, rfl, rfl, ?_⟩
        rw [decide_eq_true rfl]
        exact q
      · cases hx with
        | @tup a xs _ hsx hdx =>
          cases hy with
          | @tup b ys _ hsy hdy =>
            have l1 := DpAll.len hdx
            have l2 := DpAll.len hdy
            have ka : kitB "tuple" "tuple" = some true := by decide +kernel
            have kb : kitB "tuple" "list" = some false := by decide +kernel
            refine ⟨.ref b, rfl, .ref b, .ty "tuple", .type "tuple", .type "tuple", true, rfl, .ty _, sqt_ty hsy, kit_ty ka, true, rfl, ?_⟩
            refine ⟨.ref b, rfl, .ref b, .ty "tuple", .type "tuple", .type "tuple", true, rfl, .ty _, sqt_ty hsy, kit_ty ka, .ref a, rfl, .ref a, .ty "tuple", .type "tuple", .type "tuple", true, rfl, .ty _, sqt_ty hsx, kit_ty ka, rfl, _, rfl, iteNS rfl ?_⟩
            refine ⟨.ref b, rfl, .ref b, .ty "list", .type "tuple", .type "list", false, rfl, .ty _, sqt_ty hsy, kit_ty kb, .ref a, rfl, .ref a, .ty "list", .type "tuple", .type "list", false, rfl, .ty _, sqt_ty hsx, kit_ty kb, rfl, _, rfl, iteNS rfl ?_⟩
            refine ⟨.ref a, rfl, a, xs, rfl, .inr hsx, .ref b, rfl, b, ys, rfl, .inr hsy, rfl, _, rfl, iteNS (by rw [l1, l2]) ?_⟩
            refine ⟨.ref b, rfl, b, ys, rfl, .inr hsy, _, rfl, by omega, by omega, ?_⟩
            rw [range_int]
            refine for_range (lo := 0) (n := ys.length) (fun i σ H' => H' = H ∧ ∃ z, σ = [some (.ref a), some (.ref b), z]) ⟨rfl, none, rfl⟩ ?_ ?_
            · rintro i σ H' hi ⟨rfl, z, rfl⟩
              have hi2 : i < ds.length := by omega
              obtain ⟨v, ev, dv⟩ := dget hdx (List.getElem?_eq_getElem hi2)
              obtain ⟨v', ev', dv'⟩ := dget hdy (List.getElem?_eq_getElem hi2)
              rw [zero_add_int]
              refine ⟨.ref a, rfl, nv i, rfl, .inr (.inl ⟨a, xs, (i : Int), v, rfl, rfl, hsx, atI_nat ev, .ref b, rfl, nv i, rfl, .inr (.inl ⟨b, ys, (i : Int), v', rfl, rfl, hsy, atI_nat ev', ?_⟩)⟩)⟩
              exact ⟨v, v', ds[i], rfl, dv, dv', hall _ (List.getElem_mem hi2), true, rfl, rfl, _, rfl⟩
            · rintro σ H' ⟨rfl, z, rfl⟩
              exact q
      · cases hx with
        | @lst a xs _ hsx hdx =>
          cases hy with
          | @lst b ys _ hsy hdy =>
            have l1 := DpAll.len hdx
            have l2 := DpAll.len hdy
            have ka : kitB "list" "tuple" = some false := by decide +kernel
            have kb : kitB "list" "list" = some true := by decide +kernel
            refine ⟨.ref b, rfl, .ref b, .ty "tuple", .type "list", .type "tuple", false, rfl, .ty _, sql_ty hsy, kit_ty ka, false, rfl, ?_⟩
            refine ⟨.ref b, rfl, .ref b, .ty "list", .type "list", .type "list", true, rfl, .ty _, sql_ty hsy, kit_ty kb, true, rfl, ?_⟩
            refine ⟨.ref b, rfl, .ref b, .ty "tuple", .type "list", .type "tuple", false, rfl, .ty _, sql_ty hsy, kit_ty ka, .ref a, rfl, .ref a, .ty "tuple", .type "list", .type "tuple", false, rfl, .ty _, sql_ty hsx, kit_ty ka, rfl, _, rfl, iteNS rfl ?_⟩
            refine ⟨.ref b, rfl, .ref b, .ty "list", .type "list", .type "list", true, rfl, .ty _, sql_ty hsy, kit_ty kb, .ref a, rfl, .ref a, .ty "list", .type "list", .type "list", true, rfl, .ty _, sql_ty hsx, kit_ty kb, rfl, _, rfl, iteNS rfl ?_⟩
            refine ⟨.ref a, rfl, a, xs, rfl, .inl hsx, .ref b, rfl, b, ys, rfl, .inl hsy, rfl, _, rfl, iteNS (by rw [l1, l2]) ?_⟩
            refine ⟨.ref b, rfl, b, ys, rfl, .inl hsy, _, rfl, by omega, by omega, ?_⟩
            rw [range_int]
            refine for_range (lo := 0) (n := ys.length) (fun i σ H' => H' = H ∧ ∃ z, σ = [some (.ref a), some (.ref b), z]) ⟨rfl, none, rfl⟩ ?_ ?_
            · rintro i σ H' hi ⟨rfl, z, rfl⟩
              have hi2 : i < ds.length := by omega
              obtain ⟨v, ev, dv⟩ := dget hdx (List.getElem?_eq_getElem hi2)
              obtain ⟨v', ev', dv'⟩ := dget hdy (List.getElem?_eq_getElem hi2)
              rw [zero_add_int]
              refine ⟨.ref a, rfl, nv i, rfl, .inl ⟨a, xs, (i : Int), v, rfl, rfl, hsx, atI_nat ev, .ref b, rfl, nv i, rfl, .inl ⟨b, ys, (i : Int), v', rfl, rfl, hsy, atI_nat ev', ?_⟩⟩⟩
              exact ⟨v, v', ds[i], rfl, dv, dv', hall _ (List.getElem_mem hi2), true, rfl, rfl, _, rfl⟩
            · rintro σ H' ⟨rfl, z, rfl⟩
              exact q
end
end FW
end
section
set_option Elab.async false
set_option linter.all false
set_option maxRecDepth 100000
set_option maxHeartbeats 4000000
namespace FW
open PySem PySem.Spec PyProof.Rows L2 FM
def rowD (row : List Nat) : PyData := .tuple (row.map fun k => .int (k : Nat))
section
variable {P : Program} {w : World} {K : PySem.W.Frag} {mg : Str → Option Value} {base : Heap}
theorem TpAt.dp {H : Hp} {x : V} {ws : List Ar} (h : TpAt K H x ws) : Dp K H x (tpD ws) := by
  obtain ⟨t, ys, rfl, h1, h2⟩ := h
  exact .tup h1 h2.dp
theorem tps_dp {H : Hp} : ∀ {L : List (List Ar)} {xs : List V}, PySem.W.EachIs (TpAt K H) xs L → DpAll K H xs (L.map tpD)
  | _, _, .nil => .nil
  | _, _, .cons h t => .cons h.dp (tps_dp t)
theorem row_dps {H : Hp} : ∀ (row : List Nat), DpAll K H (row.map nv) (row.map fun k => PyData.int (k : Nat))
  | [] => .nil
  | a :: l => .cons (.int _) (row_dps l)
/-- a tuple of ints that stands for a row -/
def RowT (K : PySem.W.Frag) (H : Hp) (x : V) (row : List Nat) : Prop := ∃ t, x = .ref t ∧ SqT K H t (row.map nv)
theorem TS.rowT {H H' : Hp} (s : TS K H H') {x : V} {row : List Nat} (h : RowT K H x row) : RowT K H' x row := by
  obtain ⟨t, e, q⟩ := h
  exact ⟨t, e, s.1 _ _ q⟩
theorem TS.rowTs {H H' : Hp} (s : TS K H H') {xs : List V} {rows : List (List Nat)} (h : PySem.W.EachIs (RowT K H) xs rows) : PySem.W.EachIs (RowT K H') xs rows := h.mono fun _ _ q => s.rowT q
theorem rows_dp {H : Hp} : ∀ {rows : List (List Nat)} {xs : List V}, PySem.W.EachIs (RowT K H) xs rows → DpAll K H xs (rows.map rowD)
  | _, _, .nil => .nil
  | _, _, .cons ⟨_, e, q⟩ t => by
    subst e
    exact .cons (.tup q (row_dps _)) (rows_dp t)
theorem row_t {H : Hp} {xs : List V} {rows : List (List Nat)} (h : PySem.W.EachIs (RowAt H) xs rows) : PySem.W.EachIs (RowT K H) xs rows := h.mono fun _ _ ⟨t, e, q⟩ => ⟨t, e, q.sq⟩
/-- a list of arrows, apart from p -/
def LsAt (K : PySem.W.Frag) (p : Addr) (H : Hp) (x : V) (ws : List Ar) : Prop := ∃ t ys, x = .ref t ∧ t ≠ p ∧ H t = some (.lst ys) ∧ Ats K H ys ws
theorem LsAt.but {H H' : Hp} {p : Addr} {zs : List V} (b : But p H H') (hp : H p = some (.lst zs)) {x : V} {ws : List Ar} (h : LsAt K p H x ws) : LsAt K p H' x ws := by
  obtain ⟨t, ys, e, n, et, a⟩ := h
  exact ⟨t, ys, e, n, b _ _ n et, (b.ts hp).ats a⟩
theorem LsAt.same {H H' : Hp} {p : Addr} (s : Same H H') {x : V} {ws : List Ar} (h : LsAt K p H x ws) : LsAt K p H' x ws := by
  obtain ⟨t, ys, e, n, et, a⟩ := h
  exact ⟨t, ys, e, n, s _ _ et, (Same.ts s).ats a⟩
theorem lss_dp {p : Addr} {H : Hp} : ∀ {L : List (List Ar)} {xs : List V}, PySem.W.EachIs (LsAt K p H) xs L → DpAll K H xs (L.map lsD)
  | _, _, .nil => .nil
  | _, _, .cons ⟨_, _, e, _, et, a⟩ t => by
    subst e
    exact .cons (.lst (SqL.of et) a.dp) (lss_dp t)
mutual
theorem dp_same {H H' : Hp} (s : Same H H') : ∀ (d : PyData) (v : V), Dp K H v d → Dp K H' v d
  | .none, _, h => by
    cases h
    exact .non
  | .bool b, _, h => by
    cases h
    exact .bl b
  | .int i, _, h => by
    cases h
    exact .int i
  | .str x, _, h => by
    cases h
    exact .str x
  | .list ds, _, h => by
    cases h with
    | lst hs ha => exact .lst (s.seq hs) (dps_same s ds _ ha)
  | .tuple ds, _, h => by
    cases h with
    | tup hs ha => exact .tup ((Same.ts s).1 _ _ hs) (dps_same s ds _ ha)
  | .dict _, _, h => by cases h
theorem dps_same {H H' : Hp} (s : Same H H') : ∀ (ds : List PyData) (vs : List V), DpAll K H vs ds → DpAll K H' vs ds
  | [], _, h => by
    cases h
    exact .nil
  | d :: ds, _, h => by
    cases h with
    | cons h1 h2 => exact .cons (dp_same s d _ h1) (dps_same s ds _ h2)
end
theorem ti_ar (a : Ar) : TI 1 (arD a) := .inr ⟨_, .inl rfl, (by show 2 ≤ 1000; decide), fun e he => by
  rcases List.mem_cons.mp he with rfl | he
  · exact ⟨_, rfl⟩
  · rw [List.mem_singleton.mp he]
    exact ⟨_, rfl⟩⟩
theorem ti_tp (ws : List Ar) (h : ws.length ≤ 1000) : TI 2 (tpD ws) := .inr ⟨_, .inl rfl, by rw [List.length_map]; exact h, fun e he => by
  obtain ⟨a, _, rfl⟩ := List.mem_map.mp he
  exact ti_ar a⟩
theorem ti_ll (L : List (List Ar)) (h : L.length ≤ 1000) (h2 : ∀ ws ∈ L, ws.length ≤ 1000) : TI 3 (.list (L.map tpD)) := .inr ⟨_, .inr rfl, by rw [List.length_map]; exact h, fun e he => by
  obtain ⟨a, ha, rfl⟩ := List.mem_map.mp he
  exact ti_tp a (h2 a ha)⟩
theorem ti_row (row : List Nat) (h : row.length ≤ 1000) : TI 2 (rowD row) := .inr ⟨_, .inl rfl, by rw [List.length_map]; exact h, fun e he => by
  obtain ⟨a, _, rfl⟩ := List.mem_map.mp he
  exact .inl ⟨_, rfl⟩⟩
theorem row_len {n : Nat} {E : List Ar} {rot : List (List Nat)} (R : Rot n E rot) (n7 : n ≤ 7) : ∀ row ∈ rot, row.length ≤ 7 := by
  intro r hr
  obtain ⟨v, hv, rfl⟩ := List.getElem_of_mem hr
  have hp := (R.perm v (by rw [← R.len]; exact hv)).length_eq
  unfold row at hp
  rw [getD_at hv] at hp
  have h2 := List.length_filter_le (fun u => decide ((u, v) ∈ E ∨ (v, u) ∈ E)) (List.range n)
  rw [List.length_range] at h2
  have h3 : (near n E v).length ≤ n := h2
  omega
theorem ti_rows (rows : List (List Nat)) (h : rows.length ≤ 1000) (h2 : ∀ row ∈ rows, row.length ≤ 1000) : TI 3 (.tuple (rows.map rowD)) := .inr ⟨_, .inl rfl, by rw [List.length_map]; exact h, fun e he => by
  obtain ⟨a, ha, rfl⟩ := List.mem_map.mp he
  exact ti_row a (h2 a ha)⟩
def rTupOf (K : PySem.W.Frag) : List V → Hp → VK → Prop := fun xs H Q => ∃ p ys, xs = [.ref p] ∧ ((SqL K H p ys ∧ ∀ l, H l = none → Q (.ref l) (upd H l (.tup ys))) ∨ (SqT K H p ys ∧ Q (.ref p) H))
def rLstOf (K : PySem.W.Frag) : List V → Hp → VK → Prop := fun xs H Q => ∃ p ys, xs = [.ref p] ∧ (SqL K H p ys ∨ SqT K H p ys) ∧ ∀ l, H l = none → Q (.ref l) (upd H l (.lst ys))
def spLaw (K : PySem.W.Frag) : Sp := fun vs H Q _ => ∃ (a : Addr) (ns : List Int), vs = [.ref a] ∧ SqL K H a (ns.map V.int) ∧ ns.length ≤ 63 ∧ ∀ H', Q (.bl true) H'
theorem ok_law {f fPo fG fR fL fF fM fS : Addr} {fd dPo dG dR dL dF dM dS : FuncData} (F : Fun K "law" "law" sLaw f fd)
    (FPo : Fun K "_law_pool" "_law_pool" sPool fPo dPo) (bPo : Binds K dPo ["_law_script"] []) (gPo : mg "_law_pool" = some (.ref fPo)) (GPo : FnOk P w K mg base CX0 4 fPo dPo ["_law_script"] (spPool K))
    (FG : Fun K "_law_graph" "_law_graph" sGraph fG dG) (bG : Binds K dG ["_law_pool_here", "_law_most"] []) (gG : mg "_law_graph" = some (.ref fG)) (GG : FnOk P w K mg base CX0 4 fG dG ["_law_pool_here", "_law_most"] (spGraph K))
    (FR : Fun K "_law_some_rotation" "_law_some_rotation" sRot fR dR) (bR : Binds K dR ["_law_pool_here", "_law_graph_here"] []) (gR : mg "_law_some_rotation" = some (.ref fR)) (GR : FnOk P w K mg base CX0 4 fR dR ["_law_pool_here", "_law_graph_here"] (spRot K))
    (FL : Fun K "_law_faces" "_law_faces" sLFaces fL dL) (bL : Binds K dL ["_law_graph_here", "_law_rotation"] []) (gL : mg "_law_faces" = some (.ref fL)) (GL : FnOk P w K mg base CX0 4 fL dL ["_law_graph_here", "_law_rotation"] (spFaces K))
    (FF : Fun K "faces" "faces" sFaces fF dF) (bF : Binds K dF ["graph", "rotation"] []) (gF : mg "faces" = some (.ref fF)) (GF : FnOk P w K mg base CX0 4 fF dF ["graph", "rotation"] (spFaces K))
    (FM' : Fun K "mirrored" "mirrored" sMirr fM dM) (bM : Binds K dM ["rotation"] []) (gM : mg "mirrored" = some (.ref fM)) (GM : FnOk P w K mg base CX0 4 fM dM ["rotation"] (spMirr K))
    (FS : Fun K "_law_same" "_law_same" sSame fS dS) (bS : Binds K dS ["_law_actual", "_law_due"] []) (gS : mg "_law_same" = some (.ref fS)) (GS : FnOk P w K mg base CX0 4 fS dS ["_law_actual", "_law_due"] (spSame K 3))
    (mt : mg "tuple" = none) (mls : mg "list" = none) (ms : mg "sorted" = none) : FnOk P w K mg base CX0 5 f fd ["_law_script"] (spLaw K) := by
  refine F.ok scLaw (fun vs H Q E h => ?_) (fun cdv A outer s H vs Q E hr h => ?_)
  · obtain ⟨a, ns, rfl, _⟩ := h
    rfl
  · obtain ⟨a, ns, rfl, hS, hlen, q⟩ := h
    have nd := scLaw.nd
    have hu4 := hu64 hr
    refine ⟨_, pss_cons (ps_set (i := 1) nd rfl (.inl rfl) (pe_call GPo hr (by rfl) gPo FPo.kp bPo .nil pass0 (pa_cons (pv 0) pa_nil)))
      (pss_cons (ps_set (i := 2) nd rfl (.inl rfl) (pe_call GG hr (by rfl) gG FG.kp bG .nil pass0 (pa_cons (pv 1) (pa_cons pe_int pa_nil))))
      (pss_cons (ps_set (i := 3) nd rfl (.inl rfl) (pe_call GR hr (by rfl) gR FR.kp bR .nil pass0 (pa_cons (pv 1) (pa_cons (pv 2) pa_nil))))
      (pss_cons (ps_set (i := 4) nd rfl (.inl rfl) (pe_call GL hr (by rfl) gL FL.kp bL .nil pass0 (pa_cons (pv 2) (pa_cons (pv 3) pa_nil))))
      (pss_cons (ps_if (pt_not (pt_val (pe_call GS hr (by rfl) gS FS.kp bS .nil pass0 (pa_cons (pe_call GF hr (by rfl) gF FF.kp bF .nil pass0 (pa_cons (pv 2) (pa_cons (pv 3) pa_nil))) (pa_cons (pv 4) pa_nil))))) pss_never pss_nil)
      (pss_cons (ps_set (i := 5) nd rfl (.inl rfl) (pe_call GM hr (by rfl) gM FM'.kp bM .nil pass0 (pa_cons (pv 3) pa_nil)))
      (pss_cons (ps_if (pt_not (pt_val (pe_call GS hr (by rfl) gS FS.kp bS .nil pass0 (pa_cons (pv 5) (pa_cons (pe_callTy call_tuple_of (by rfl) mt (by decide +kernel) (pa_cons
          (pe_lc (own := [("_law_item", 9)]) (g := gName 9) (te := tCB (rTupOf K) (tCons (tRevL K (tCB (rLstOf K) (tCons (tVar 9) tNil))) tNil)) (by rfl) nd (pi_tup (pv 3))
            (blkOk_by (own := [("_law_item", 9)]) (N := ["_law_script", "_law_pool_here", "_law_graph_here", "_law_rotation", "_law_due", "_law_turned", "_law_other", "_law_sets", "_law_walk", "_law_item", "_law_arrow"]) (sc := defScope sLaw) (by decide +kernel))
            (fun _ _ _ _ _ => pg_name (i := 9) nd rfl (Or.inl rfl)) (fun _ _ _ _ _ => pts_nil)
            (fun _ _ _ _ _ => pe_callTy (r := rTupOf K) call_tuple_of (by rfl) mt (by decide +kernel) (pa_cons (pe_revL (pe_callTy (r := rLstOf K) call_list_of (by rfl) mls (by decide +kernel) (pa_cons (pv 9) pa_nil))) pa_nil))) pa_nil)) pa_nil))))) pss_never pss_nil)
      (pss_cons (ps_set (i := 6) nd rfl (.inl rfl) (pe_call GF hr (by rfl) gF FF.kp bF .nil pass0 (pa_cons (pv 2) (pa_cons (pv 5) pa_nil))))
      (pss_cons (ps_set (i := 7) nd rfl (.inl rfl) (pe_lst pa_nil))
      (pss_cons (ps_for PassesOwn.never rfl (pi_list (pv 4)) (pg_name (i := 8) nd rfl (.inl rfl))
        (pss_one (ps_expr (pe_bm PySem.F.plainAttrs_list PySem.F.slot_list_append PySem.F.type_list_append mt_append (pv 7) (pa_cons (pe_callB (cr_sortD hu4) (by rfl) ms (by decide +kernel) (pa_cons
          (pe_lc (own := [("_law_arrow", 10)]) (g := gName 10) (by rfl) nd (pi_tup (pv 8))
            (blkOk_by (own := [("_law_arrow", 10)]) (N := ["_law_script", "_law_pool_here", "_law_graph_here", "_law_rotation", "_law_due", "_law_turned", "_law_other", "_law_sets", "_law_walk", "_law_item", "_law_arrow"]) (sc := defScope sLaw) (by decide +kernel))
            (fun _ _ _ _ _ => pg_name (i := 10) nd rfl (Or.inl rfl)) (fun _ _ _ _ _ => pts_nil)
            (fun _ _ _ _ _ => pe_tup (pa_cons (pe_ix (r := rIxT K) ix_tup (pv 10) pe_int (fun _ _ => rfl)) (pa_cons (pe_ix (r := rIxT K) ix_tup (pv 10) pe_int (fun _ _ => rfl)) pa_nil)))) pa_nil)) pa_nil)))))
      (pss_one (ps_ret (pe_cmpR (op_eqD hu4) (pe_callB (cr_sortD hu4) (by rfl) ms (by decide +kernel) (pa_cons
          (pe_lc (own := [("_law_walk", 8)]) (g := gName 8) (by rfl) nd (pi_list (pv 6))
            (blkOk_by (own := [("_law_walk", 8)]) (N := ["_law_script", "_law_pool_here", "_law_graph_here", "_law_rotation", "_law_due", "_law_turned", "_law_other", "_law_sets", "_law_walk", "_law_item", "_law_arrow"]) (sc := defScope sLaw) (by decide +kernel))
            (fun _ _ _ _ _ => pg_name (i := 8) nd rfl (Or.inl rfl)) (fun _ _ _ _ _ => pts_nil)
            (fun _ _ _ _ _ => pe_callB (r := rSortD K) (cr_sortD hu4) (by rfl) ms (by decide +kernel) (pa_cons (pv 8) pa_nil))) pa_nil))
          (pe_callB (cr_sortD hu4) (by rfl) ms (by decide +kernel) (pa_cons (pv 7) pa_nil)) (nomark _))))))))))))), ?_⟩
    -- the pool, the graph, the rotation
    refine ⟨.ref a, rfl, a, ns, rfl, hS, hlen, fun H1 p l s1 po1 => ?_⟩
    refine ⟨.ref p, rfl, p, l, ns, rfl, po1, fun H2 g n Es b2 po2 hG2 g7 n1 n7 => ?_⟩
    refine ⟨.ref p, rfl, .ref g, rfl, p, l, ns, g, n, Es, rfl, po2, hG2, n7, fun H3 r rot b3 po3 hrot3 hR => ?_⟩
    obtain ⟨y2, hy2⟩ := po2.lst
    have hG3 := (b3.ts (K := K) hy2).graph hG2
    have pm : Pm (srtA Es) (nx rot) := hR.pm g7.gr (srtA_perm Es)
    have pm' : Pm (srtA Es) (nx (mir rot)) := hR.mir.pm g7.gr (srtA_perm Es)
    have hlA : (srtA Es).length ≤ 98 := by
      rw [(srtA_perm Es).length_eq]
      exact g7_arrows g7
    have hL1 : (fc (nx rot) (srtA Es)).length ≤ 98 := Nat.le_trans (pm.fc_len _) hlA
    have hL2 : ∀ ws ∈ fc (nx rot) (srtA Es), ws.length ≤ 98 := by
      intro ws hws
      obtain ⟨b, hb, rfl⟩ := pm.fc_mem _ (fun x hx => hx) ws hws
      exact Nat.le_trans (pm.orb_len hb) hlA
    have hL1' : (fc (nx (mir rot)) (srtA Es)).length ≤ 98 := Nat.le_trans (pm'.fc_len _) hlA
    have hlaw : ((fc (nx (mir rot)) (srtA Es)).map fun ws => ws.mergeSort leA).mergeSort leL = ((fc (nx rot) (srtA Es)).map fun ws => (ws.map sw).mergeSort leA).mergeSort leL := faces_mirror g7.gr hR (srtA_perm Es) tot_ar tot_ls
    -- due
    refine ⟨.ref g, rfl, .ref r, rfl, g, r, n, Es, rot, rfl, hG3, g7, hrot3, hR, n7, fun H4 du dx s4 edu hdu => ?_⟩
    have s4t := Same.ts (K := K) s4
    have hG4 := s4t.graph hG3
    have hrot4 := s4t.rot hrot3
    -- not _law_same(faces(..), due)
    refine ⟨.ref g, rfl, .ref r, rfl, g, r, n, Es, rot, rfl, hG4, g7, hrot4, hR, n7, fun H5 lf fx s5 elf hf => ?_⟩
    have s5t := Same.ts (K := K) s5
    have edu5 := s5 _ _ edu
    have hdu5 := s5t.tps hdu
    refine ⟨.ref du, rfl, .ref lf, .ref du, .list ((fc (nx rot) (srtA Es)).map tpD), rfl, .lst (SqL.of elf) (tps_dp hf), .lst (SqL.of edu5) (tps_dp hdu5), ti_ll _ (by omega) (fun ws hws => Nat.le_trans (hL2 ws hws) (by decide)), true, rfl, ?_⟩
    have hrot5 := s5t.rot hrot4
    have hrl : rot.length ≤ 7 := by rw [hR.len]; exact n7
    -- turned = mirrored(rotation)
    refine ⟨.ref r, rfl, r, rot, rfl, hrot5, hrl, fun H6 r' s6 hrot6 => ?_⟩
    have s6t := Same.ts (K := K) s6
    obtain ⟨rx, hr1, hr2⟩ := s6t.rot hrot5
    have hrxl := hr2.length
    -- tuple([tuple(list(item)[::-1]) for item in rotation])
    refine ⟨.ref r', rfl, .ref r, rfl, r, rfl, ⟨rx, hr1⟩, fun D nD => ?_⟩
    refine lc_tup (K := K) (a := r) (xs := rx) (fun i H7 => ∃ zs, Same H6 H7 ∧ H7 D = some (.lst zs) ∧ PySem.W.EachIs (RowT K H7) zs ((rot.take i).map List.reverse)) ⟨[], same_upd nD, upd_same, .nil⟩ (fun i H7 _ h => ?_) ?_ ?_
    · obtain ⟨_, s7, _⟩ := h
      exact (Same.ts s7).1 _ _ hr1
    · rintro i x H7 hx ⟨zs, s7, eD, hz⟩
      obtain ⟨row, hrow, ai, rfl, hai⟩ := eget ((Same.ts (K := K) s7).rows hr2) hx
      have hzl := hz.length
      rw [List.length_map, List.length_take] at hzl
      refine ⟨rfl, .ref ai, rfl, ai, row.map nv, rfl, .inr hai.sq, fun l1 nl1 => ⟨l1, row.map nv, rfl, SqL.of upd_same, fun l2 nl2 => ⟨l2, (row.map nv).reverse, rfl, .inl ⟨SqL.of upd_same, fun t nt => ?_⟩⟩⟩⟩
      have sa : Same H7 (upd H7 l1 (.lst (row.map nv))) := same_upd nl1
      have sb := same_upd (o := .lst (row.map nv).reverse) nl2
      have sc := same_upd (o := .tup (row.map nv).reverse) nt
      have s7' := sa.trans (sb.trans sc)
      have eD7 := s7' _ _ eD
      have tD : TS K _ (upd (upd (upd (upd H7 l1 (.lst (row.map nv))) l2 (.lst (row.map nv).reverse)) t (.tup (row.map nv).reverse)) D (.lst (zs ++ [.ref t]))) := (But.upd (p := D)).ts eD7
      refine ⟨zs, eD7, small1000 (by omega), zs ++ [.ref t], ?_, upd_same, ?_⟩
      · intro b o e
        rw [upd_ne (ne_of_none e nD)]
        exact s7' _ _ (s7 _ _ e)
      · rw [take_next hrow, List.map_append]
        refine esnoc (((Same.ts s7').trans tD).rowTs hz) (tD.rowT ⟨t, rfl, SqT.of ?_⟩)
        rw [upd_same, List.map_reverse]
    · rintro H7 ⟨zs, s7, eD, hz⟩
      have hw : rot.take rx.length = rot := List.take_of_length_le (by omega)
      rw [hw] at hz
      refine ⟨D, zs, rfl, .inl ⟨SqL.of eD, fun t nt => ?_⟩⟩
      have s8 : Same H7 (upd H7 t (.tup zs)) := same_upd nt
      have s68 := s7.trans s8
      have hrot8 := (Same.ts (K := K) s68).rot hrot6
      obtain ⟨mx, hm1, hm2⟩ := id hrot8
      have hz8 := (Same.ts (K := K) s8).rowTs hz
      have hml : (mir rot).length ≤ 1000 := by
        rw [hR.mir.len]
        omega
      refine ⟨.ref r', .ref t, .tuple ((mir rot).map rowD), rfl, .tup hm1 (rows_dp (row_t hm2)), .tup (SqT.of upd_same) (rows_dp hz8), ti_rows _ hml (fun row hrow => Nat.le_trans (row_len hR.mir n7 row hrow) (by decide)), true, rfl, ?_⟩
      have s38 := s4.trans (s5.trans (s6.trans s68))
      have s48 := s5.trans (s6.trans s68)
      -- other = faces(graph, turned)
      refine ⟨.ref g, rfl, .ref r', rfl, g, r', n, Es, mir rot, rfl, (Same.ts (K := K) s38).graph hG3, g7, hrot8, hR.mir, n7, fun H9 ot ox s9 eot hot => ?_⟩
      have edu9 := s9 _ _ (s48 _ _ edu)
      have hdu9 := (Same.ts (K := K) (s48.trans s9)).tps hdu
      have hdxl := hdu.length
      have hoxl := hot.length
      -- sets = []
      refine ⟨Nat.zero_le _, fun st nst => ?_⟩
      have s10 : Same H9 (upd H9 st (.lst [])) := same_upd nst
      refine ⟨.ref du, rfl, du, rfl, ⟨dx, SqL.of (s10 _ _ edu9)⟩, ?_⟩
      refine for_list (xs := dx) (fun i σ H' => ∃ y8 zs, σ = [some (.ref a), some (.ref p), some (.ref g), some (.ref r), some (.ref du), some (.ref r'), some (.ref ot), some (.ref st), y8, none, none] ∧ Same H9 H' ∧ H' st = some (.lst zs) ∧
          PySem.W.EachIs (LsAt K st H') zs (((fc (nx rot) (srtA Es)).take i).map fun ws => (ws.map sw).mergeSort leA)) ⟨none, [], rfl, s10, upd_same, .nil⟩ (fun i σ H' _ h => ?_) ?_ ?_
      · obtain ⟨_, _, _, s11, _⟩ := h
        exact SqL.of (s11 _ _ edu9)
      · rintro i x σ H11 hx ⟨y8, zs', rfl, s11, est, hz11⟩
        have t11 := Same.ts (K := K) s11
        obtain ⟨ws, hws, tw, ys, rfl, hsq, hys⟩ := eget (t11.tps hdu9) hx
        have hwl := hL2 ws (List.mem_of_getElem? hws)
        have hyl := hys.length
        refine ⟨.ref st, rfl, .inl ⟨rfl, _, SqL.of est⟩, .ref tw, rfl, tw, rfl, ⟨ys, hsq⟩, fun D2 nD2 => ?_⟩
        have hD2st : st ≠ D2 := ne_of_none est nD2
        refine lc_tup (K := K) (a := tw) (xs := ys) (fun j H12 => ∃ vs, Same H11 H12 ∧ H12 D2 = some (.lst vs) ∧ Ats K H12 vs ((ws.take j).map sw)) ⟨[], same_upd nD2, upd_same, .nil⟩ (fun j H12 _ h => ?_) ?_ ?_
        · obtain ⟨_, s12, _⟩ := h
          exact (Same.ts s12).1 _ _ hsq
        · rintro j x H12 hx2 ⟨vs, s12, eD2, hv⟩
          obtain ⟨⟨u, v⟩, huv, tx, rfl, htx⟩ := eget ((Same.ts (K := K) s12).ats hys) hx2
          have hvl := hv.length
          rw [List.length_map, List.length_take] at hvl
          refine ⟨rfl, .ref tx, rfl, tx, _, 1, nv v, rfl, rfl, htx, atI_nat (j := 1) rfl, .ref tx, rfl, tx, _, 0, nv u, rfl, rfl, htx, atI_nat (j := 0) rfl, (by show 2 ≤ sizeLine; decide), fun t2 nt2 => ?_⟩
          have s13 : Same H12 (upd H12 t2 (.tup [nv v, nv u])) := same_upd nt2
          have eD3 := s13 _ _ eD2
          have tD : TS K (upd H12 t2 (.tup [nv v, nv u])) (upd (upd H12 t2 (.tup [nv v, nv u])) D2 (.lst (vs ++ [.ref t2]))) := (But.upd (p := D2)).ts eD3
          refine ⟨vs, eD3, small1000 (by omega), vs ++ [.ref t2], ?_, upd_same, ?_⟩
          · intro b o e
            rw [upd_ne (ne_of_none e nD2)]
            exact s13 _ _ (s12 _ _ e)
          · rw [take_next huv, List.map_append]
            exact esnoc (((Same.ts s13).trans tD).ats hv) (tD.at (at_new (a := (v, u))))
        · rintro H12 ⟨vs, s12, eD2, hv⟩
          have hw2 : ws.take ys.length = ws := List.take_of_length_le (by omega)
          rw [hw2] at hv
          refine ⟨Ar, D2, vs, arD, ws.map sw, rfl, .inl (SqL.of eD2), hv.dp, all_ar _, srt_ar _, fun b _ => by rw [arD_depth]; decide, fun q2 ys2 nq2 dys2 => ?_⟩
          have s13 : Same H12 (upd H12 q2 (.lst ys2)) := same_upd nq2
          have s113 := s12.trans s13
          have est3 := s113 _ _ est
          have hzl := hz11.length
          rw [List.length_map, List.length_take] at hzl
          refine ⟨st, zs', .ref q2, rfl, rfl, est3, small1000 (by omega), ?_⟩
          have hq2st : q2 ≠ st := (ne_of_none (s12 _ _ est) nq2).symm
          refine ⟨_, zs' ++ [.ref q2], rfl, ?_, upd_same, ?_⟩
          · intro b o e
            rw [upd_ne (ne_of_none e nst)]
            exact s113 _ _ (s11 _ _ e)
          · rw [take_next hws, List.map_append]
            have hnew : LsAt K st (upd H12 q2 (.lst ys2)) (.ref q2) ((ws.map sw).mergeSort leA) := ⟨q2, ys2, rfl, hq2st, upd_same, (Same.ts s13).ats (ats_dp dys2)⟩
            exact esnoc ((hz11.mono fun _ _ h => h.same s113).mono fun _ _ h => h.but But.upd est3) (hnew.but But.upd est3)
      · rintro σ H11 ⟨y8, zs', rfl, s11, est, hz11⟩
        have hwd : (fc (nx rot) (srtA Es)).take dx.length = fc (nx rot) (srtA Es) := List.take_of_length_le (by omega)
        rw [hwd] at hz11
        have eot11 := s11 _ _ eot
        have hot11 := (Same.ts (K := K) s11).tps hot
        -- sorted([sorted(walk) for walk in other]) == sorted(sets)
        refine ⟨.ref ot, rfl, ot, rfl, ⟨ox, SqL.of eot11⟩, fun D3 nD3 => ?_⟩
        refine lc_list (K := K) (a := ot) (xs := ox) (fun i H12 => ∃ vs, Same H11 H12 ∧ H12 D3 = some (.lst vs) ∧ PySem.W.EachIs (LsAt K D3 H12) vs (((fc (nx (mir rot)) (srtA Es)).take i).map fun ws => ws.mergeSort leA)) ⟨[], same_upd nD3, upd_same, .nil⟩ (fun i H12 _ h => ?_) ?_ ?_
        · obtain ⟨_, s12, _⟩ := h
          exact SqL.of (s12 _ _ eot11)
        · rintro i x H12 hx ⟨vs, s12, eD3, hv⟩
          obtain ⟨ws, hws, tw, ys, rfl, hsq, hys⟩ := eget ((Same.ts (K := K) s12).tps hot11) hx
          refine ⟨rfl, .ref tw, rfl, Ar, tw, ys, arD, ws, rfl, .inr hsq, hys.dp, all_ar _, srt_ar _, fun b _ => by rw [arD_depth]; decide, fun q2 ys2 nq2 dys2 => ?_⟩
          have s13 : Same H12 (upd H12 q2 (.lst ys2)) := same_upd nq2
          have eD4 := s13 _ _ eD3
          have hvl := hv.length
          rw [List.length_map, List.length_take] at hvl
          have hq2D : q2 ≠ D3 := (ne_of_none eD3 nq2).symm
          refine ⟨vs, eD4, small1000 (by omega), vs ++ [.ref q2], ?_, upd_same, ?_⟩
          · intro b o e
            rw [upd_ne (ne_of_none e nD3)]
            exact s13 _ _ (s12 _ _ e)
          · rw [take_next hws, List.map_append]
            have hnew : LsAt K D3 (upd H12 q2 (.lst ys2)) (.ref q2) (ws.mergeSort leA) := ⟨q2, ys2, rfl, hq2D, upd_same, (Same.ts s13).ats (ats_dp dys2)⟩
            exact esnoc ((hv.mono fun _ _ h => h.same s13).mono fun _ _ h => h.but But.upd eD4) (hnew.but But.upd eD4)
        · rintro H12 ⟨vs, s12, eD3, hv⟩
          have hwo : (fc (nx (mir rot)) (srtA Es)).take ox.length = fc (nx (mir rot)) (srtA Es) := List.take_of_length_le (by omega)
          rw [hwo] at hv
          have hdep : ∀ b : List Ar, (lsD b).depth ≤ 8 := fun b => Nat.le_trans (lsD_depth b) (by decide)
          refine ⟨List Ar, D3, vs, lsD, _, rfl, .inl (SqL.of eD3), lss_dp hv, all_ls _, srt_ls _, fun b _ => hdep b, fun q1 ys1 nq1 d1 => ?_⟩
          have s13 : Same H12 (upd H12 q1 (.lst ys1)) := same_upd nq1
          have s113 := s12.trans s13
          refine ⟨.ref st, rfl, List Ar, st, zs', lsD, _, rfl, .inl (SqL.of (s113 _ _ est)), lss_dp (hz11.mono fun _ _ h => h.same s113), all_ls _, srt_ls _, fun b _ => hdep b, fun q2 ys2 nq2 d2 => ?_⟩
          have s14 : Same (upd H12 q1 (.lst ys1)) (upd (upd H12 q1 (.lst ys1)) q2 (.lst ys2)) := same_upd nq2
          refine ⟨.list (List.map lsD _), .list (List.map lsD _), .lst (SqL.of (s14 _ _ upd_same)) (dps_same s14 _ _ (dps_same s13 _ _ d1)), .lst (SqL.of upd_same) (dps_same s14 _ _ d2), llD_shaped _, llD_shaped _, ?_⟩
          rw [hlaw, llD_eqv]
          exact q _
end
end FW
end
set_option Elab.async false
set_option linter.all false
set_option maxRecDepth 100000
set_option maxHeartbeats 4000000
namespace FW
open PySem PySem.Spec PyProof.Rows L2 FM
theorem all_mk {l : PySem.W.OpenLaw} {w : World} {K : PySem.W.Frag} {h : Heap} {mg : Str → Option Value} {fa f1 f2 f3 f4 f5 f6 f7 f8 f9 f10 f11 f12 f13 f14 : Addr} (X : K.In h) (G : h.Ns mainGlobals mg) (hfa : mg "law" = some (.ref fa))
    {od1 an1 od2 an2 od3 an3 od4 an4 od5 an5 od6 an6 od7 an7 od8 an8 od9 an9 od10 an10 od11 an11 od12 an12 od13 an13 od14 an14 : Option Addr} {sl1 sl2 sl3 sl4 sl5 sl6 sl7 sl8 sl9 sl10 sl11 sl12 sl13 sl14 : Array (Option Value)} {oc1 kV1 dc1 pm1 cd1 ct1 oc2 kV2 dc2 pm2 cd2 ct2 oc3 kV3 dc3 pm3 cd3 ct3 oc4 kV4 dc4 pm4 cd4 ct4 oc5 kV5 dc5 pm5 cd5 ct5 oc6 kV6 dc6 pm6 cd6 ct6 oc7 kV7 dc7 pm7 cd7 ct7 oc8 kV8 dc8 pm8 cd8 ct8 oc9 kV9 dc9 pm9 cd9 ct9 oc10 kV10 dc10 pm10 cd10 ct10 oc11 kV11 dc11 pm11 cd11 ct11 oc12 kV12 dc12 pm12 cd12 ct12 oc13 kV13 dc13 pm13 cd13 ct13 oc14 kV14 dc14 pm14 cd14 ct14 : Value}
    (a1 : PySem.W.nsIn K mainGlobals "next_arrow" = some (some (.ref f1))) (l1 : K.lookup f1 = some ⟨oc1, od1, .func (PySem.W.fnOf "next_arrow" "next_arrow" (defArgs sNext) (defBody sNext) (defScope sNext) .none kV1 dc1 pm1 an1 cd1 ct1), sl1⟩) (c1 : PySem.W.codeIn K cd1 "next_arrow" = true) (k1 : PySem.W.keepIn K (.ref f1) = true)
    (a2 : PySem.W.nsIn K mainGlobals "faces" = some (some (.ref f2))) (l2 : K.lookup f2 = some ⟨oc2, od2, .func (PySem.W.fnOf "faces" "faces" (defArgs sFaces) (defBody sFaces) (defScope sFaces) .none kV2 dc2 pm2 an2 cd2 ct2), sl2⟩) (c2 : PySem.W.codeIn K cd2 "faces" = true) (k2 : PySem.W.keepIn K (.ref f2) = true)
    (a3 : PySem.W.nsIn K mainGlobals "mirrored" = some (some (.ref f3))) (l3 : K.lookup f3 = some ⟨oc3, od3, .func (PySem.W.fnOf "mirrored" "mirrored" (defArgs sMirr) (defBody sMirr) (defScope sMirr) .none kV3 dc3 pm3 an3 cd3 ct3), sl3⟩) (c3 : PySem.W.codeIn K cd3 "mirrored" = true) (k3 : PySem.W.keepIn K (.ref f3) = true)
    (a4 : PySem.W.nsIn K mainGlobals "_law_same" = some (some (.ref f4))) (l4 : K.lookup f4 = some ⟨oc4, od4, .func (PySem.W.fnOf "_law_same" "_law_same" (defArgs sSame) (defBody sSame) (defScope sSame) .none kV4 dc4 pm4 an4 cd4 ct4), sl4⟩) (c4 : PySem.W.codeIn K cd4 "_law_same" = true) (k4 : PySem.W.keepIn K (.ref f4) = true)
    (a5 : PySem.W.nsIn K mainGlobals "_law_pool" = some (some (.ref f5))) (l5 : K.lookup f5 = some ⟨oc5, od5, .func (PySem.W.fnOf "_law_pool" "_law_pool" (defArgs sPool) (defBody sPool) (defScope sPool) .none kV5 dc5 pm5 an5 cd5 ct5), sl5⟩) (c5 : PySem.W.codeIn K cd5 "_law_pool" = true) (k5 : PySem.W.keepIn K (.ref f5) = true)
    (a6 : PySem.W.nsIn K mainGlobals "_law_spread" = some (some (.ref f6))) (l6 : K.lookup f6 = some ⟨oc6, od6, .func (PySem.W.fnOf "_law_spread" "_law_spread" (defArgs sSpread) (defBody sSpread) (defScope sSpread) .none kV6 dc6 pm6 an6 cd6 ct6), sl6⟩) (c6 : PySem.W.codeIn K cd6 "_law_spread" = true) (k6 : PySem.W.keepIn K (.ref f6) = true)
    (a7 : PySem.W.nsIn K mainGlobals "_law_draw" = some (some (.ref f7))) (l7 : K.lookup f7 = some ⟨oc7, od7, .func (PySem.W.fnOf "_law_draw" "_law_draw" (defArgs sDraw) (defBody sDraw) (defScope sDraw) .none kV7 dc7 pm7 an7 cd7 ct7), sl7⟩) (c7 : PySem.W.codeIn K cd7 "_law_draw" = true) (k7 : PySem.W.keepIn K (.ref f7) = true)
    (a8 : PySem.W.nsIn K mainGlobals "_law_pairs" = some (some (.ref f8))) (l8 : K.lookup f8 = some ⟨oc8, od8, .func (PySem.W.fnOf "_law_pairs" "_law_pairs" (defArgs sPairs) (defBody sPairs) (defScope sPairs) .none kV8 dc8 pm8 an8 cd8 ct8), sl8⟩) (c8 : PySem.W.codeIn K cd8 "_law_pairs" = true) (k8 : PySem.W.keepIn K (.ref f8) = true)
    (a9 : PySem.W.nsIn K mainGlobals "_law_sorted_graph" = some (some (.ref f9))) (l9 : K.lookup f9 = some ⟨oc9, od9, .func (PySem.W.fnOf "_law_sorted_graph" "_law_sorted_graph" (defArgs sSorted) (defBody sSorted) (defScope sSorted) .none kV9 dc9 pm9 an9 cd9 ct9), sl9⟩) (c9 : PySem.W.codeIn K cd9 "_law_sorted_graph" = true) (k9 : PySem.W.keepIn K (.ref f9) = true)
    (a10 : PySem.W.nsIn K mainGlobals "_law_graph" = some (some (.ref f10))) (l10 : K.lookup f10 = some ⟨oc10, od10, .func (PySem.W.fnOf "_law_graph" "_law_graph" (defArgs sGraph) (defBody sGraph) (defScope sGraph) .none kV10 dc10 pm10 an10 cd10 ct10), sl10⟩) (c10 : PySem.W.codeIn K cd10 "_law_graph" = true) (k10 : PySem.W.keepIn K (.ref f10) = true)
    (a11 : PySem.W.nsIn K mainGlobals "_law_near" = some (some (.ref f11))) (l11 : K.lookup f11 = some ⟨oc11, od11, .func (PySem.W.fnOf "_law_near" "_law_near" (defArgs sNear) (defBody sNear) (defScope sNear) .none kV11 dc11 pm11 an11 cd11 ct11), sl11⟩) (c11 : PySem.W.codeIn K cd11 "_law_near" = true) (k11 : PySem.W.keepIn K (.ref f11) = true)
    (a12 : PySem.W.nsIn K mainGlobals "_law_some_rotation" = some (some (.ref f12))) (l12 : K.lookup f12 = some ⟨oc12, od12, .func (PySem.W.fnOf "_law_some_rotation" "_law_some_rotation" (defArgs sRot) (defBody sRot) (defScope sRot) .none kV12 dc12 pm12 an12 cd12 ct12), sl12⟩) (c12 : PySem.W.codeIn K cd12 "_law_some_rotation" = true) (k12 : PySem.W.keepIn K (.ref f12) = true)
    (a13 : PySem.W.nsIn K mainGlobals "_law_faces" = some (some (.ref f13))) (l13 : K.lookup f13 = some ⟨oc13, od13, .func (PySem.W.fnOf "_law_faces" "_law_faces" (defArgs sLFaces) (defBody sLFaces) (defScope sLFaces) .none kV13 dc13 pm13 an13 cd13 ct13), sl13⟩) (c13 : PySem.W.codeIn K cd13 "_law_faces" = true) (k13 : PySem.W.keepIn K (.ref f13) = true)
    (a14 : PySem.W.nsIn K mainGlobals "law" = some (some (.ref f14))) (l14 : K.lookup f14 = some ⟨oc14, od14, .func (PySem.W.fnOf "law" "law" (defArgs sLaw) (defBody sLaw) (defScope sLaw) .none kV14 dc14 pm14 an14 cd14 ct14), sl14⟩) (c14 : PySem.W.codeIn K cd14 "law" = true) (k14 : PySem.W.keepIn K (.ref f14) = true)
    (z1 : PySem.W.nsIn K mainGlobals "len" = some none) (z2 : PySem.W.nsIn K mainGlobals "list" = some none) (z3 : PySem.W.nsIn K mainGlobals "sorted" = some none) (z4 : PySem.W.nsIn K mainGlobals "tuple" = some none) (z5 : PySem.W.nsIn K mainGlobals "range" = some none) (z6 : PySem.W.nsIn K mainGlobals "int" = some none) (z7 : PySem.W.nsIn K mainGlobals "bool" = some none) (z8 : PySem.W.nsIn K mainGlobals "isinstance" = some none) (z9 : PySem.W.nsIn K mainGlobals "reversed" = some none) :
    ∃ fd : FuncData, (∀ (s : Shared) (v : Value), BindsTo s fd ⟨[v], []⟩ [("_law_script", v)]) ∧ ∀ base : Heap, K.In base → base.Ns mainGlobals mg → FnOk l.prog w K mg base CX0 5 fa fd ["_law_script"] (spLaw K) := by
  have e := hfa.symm.trans (PySem.W.mg_of X G a14)
  cases e
  have F1 := fun_mk (st := sNext) l1 c1 k1
  have b1 := F1.binds (ps := ["rotation", "arrow"]) fun _ _ _ _ _ _ us hl => match us, hl with | [_, _], _ => rfl
  have g1 := PySem.W.mg_of X G a1
  have F2 := fun_mk (st := sFaces) l2 c2 k2
  have b2 := F2.binds (ps := ["graph", "rotation"]) fun _ _ _ _ _ _ us hl => match us, hl with | [_, _], _ => rfl
  have g2 := PySem.W.mg_of X G a2
  have F3 := fun_mk (st := sMirr) l3 c3 k3
  have b3 := F3.binds (ps := ["rotation"]) fun _ _ _ _ _ _ us hl => match us, hl with | [_], _ => rfl
  have g3 := PySem.W.mg_of X G a3
  have F4 := fun_mk (st := sSame) l4 c4 k4
  have b4 := F4.binds (ps := ["_law_actual", "_law_due"]) fun _ _ _ _ _ _ us hl => match us, hl with | [_, _], _ => rfl
  have g4 := PySem.W.mg_of X G a4
  have F5 := fun_mk (st := sPool) l5 c5 k5
  have b5 := F5.binds (ps := ["_law_script"]) fun _ _ _ _ _ _ us hl => match us, hl with | [_], _ => rfl
  have g5 := PySem.W.mg_of X G a5
  have F6 := fun_mk (st := sSpread) l6 c6 k6
  have b6 := F6.binds (ps := ["_law_cell"]) fun _ _ _ _ _ _ us hl => match us, hl with | [_], _ => rfl
  have g6 := PySem.W.mg_of X G a6
  have F7 := fun_mk (st := sDraw) l7 c7 k7
  have b7 := F7.binds (ps := ["_law_pool_here", "_law_many"]) fun _ _ _ _ _ _ us hl => match us, hl with | [_, _], _ => rfl
  have g7 := PySem.W.mg_of X G a7
  have F8 := fun_mk (st := sPairs) l8 c8 k8
  have b8 := F8.binds (ps := ["_law_n"]) fun _ _ _ _ _ _ us hl => match us, hl with | [_], _ => rfl
  have g8 := PySem.W.mg_of X G a8
  have F9 := fun_mk (st := sSorted) l9 c9 k9
  have b9 := F9.binds (ps := ["_law_n", "_law_edges"]) fun _ _ _ _ _ _ us hl => match us, hl with | [_, _], _ => rfl
  have g9 := PySem.W.mg_of X G a9
  have F10 := fun_mk (st := sGraph) l10 c10 k10
  have b10 := F10.binds (ps := ["_law_pool_here", "_law_most"]) fun _ _ _ _ _ _ us hl => match us, hl with | [_, _], _ => rfl
  have g10 := PySem.W.mg_of X G a10
  have F11 := fun_mk (st := sNear) l11 c11 k11
  have b11 := F11.binds (ps := ["_law_graph_here", "_law_v"]) fun _ _ _ _ _ _ us hl => match us, hl with | [_, _], _ => rfl
  have g11 := PySem.W.mg_of X G a11
  have F12 := fun_mk (st := sRot) l12 c12 k12
  have b12 := F12.binds (ps := ["_law_pool_here", "_law_graph_here"]) fun _ _ _ _ _ _ us hl => match us, hl with | [_, _], _ => rfl
  have g12 := PySem.W.mg_of X G a12
  have F13 := fun_mk (st := sLFaces) l13 c13 k13
  have b13 := F13.binds (ps := ["_law_graph_here", "_law_rotation"]) fun _ _ _ _ _ _ us hl => match us, hl with | [_, _], _ => rfl
  have g13 := PySem.W.mg_of X G a13
  have F14 := fun_mk (st := sLaw) l14 c14 k14
  have ml := PySem.W.mg_none_of X G z1
  have mls := PySem.W.mg_none_of X G z2
  have ms := PySem.W.mg_none_of X G z3
  have mt := PySem.W.mg_none_of X G z4
  have mr := PySem.W.mg_none_of X G z5
  have mi := PySem.W.mg_none_of X G z6
  have mb := PySem.W.mg_none_of X G z7
  have mis := PySem.W.mg_none_of X G z8
  have mrv := PySem.W.mg_none_of X G z9
  refine ⟨PySem.W.fnOf "law" "law" (defArgs sLaw) (defBody sLaw) (defScope sLaw) .none kV14 dc14 pm14 an14 cd14 ct14, fun s v => .of_eq rfl, fun base _ _ => ?_⟩
  have GPo : FnOk l.prog w K mg base CX0 4 f5 (PySem.W.fnOf "_law_pool" "_law_pool" (defArgs sPool) (defBody sPool) (defScope sPool) .none kV5 dc5 pm5 an5 cd5 ct5) ["_law_script"] (spPool K) := ok_pool (k := 3) F5 mi mls
  have GD : FnOk l.prog w K mg base CX0 2 f7 (PySem.W.fnOf "_law_draw" "_law_draw" (defArgs sDraw) (defBody sDraw) (defScope sDraw) .none kV7 dc7 pm7 an7 cd7 ct7) ["_law_pool_here", "_law_many"] spDraw := ok_draw (k := 0) F7 F6 b6 g6 mi ml mr
  have GPa : FnOk l.prog w K mg base CX0 2 f8 (PySem.W.fnOf "_law_pairs" "_law_pairs" (defArgs sPairs) (defBody sPairs) (defScope sPairs) .none kV8 dc8 pm8 an8 cd8 ct8) ["_law_n"] (spPairs K) := ok_pairs (k := 1) F8 mr
  have GSo : FnOk l.prog w K mg base CX0 2 f9 (PySem.W.fnOf "_law_sorted_graph" "_law_sorted_graph" (defArgs sSorted) (defBody sSorted) (defScope sSorted) .none kV9 dc9 pm9 an9 cd9 ct9) ["_law_n", "_law_edges"] (spSorted K) := ok_sorted (k := 0) F9 F8 b8 g8 mr mt
  have GNe : FnOk l.prog w K mg base CX0 2 f11 (PySem.W.fnOf "_law_near" "_law_near" (defArgs sNear) (defBody sNear) (defScope sNear) .none kV11 dc11 pm11 an11 cd11 ct11) ["_law_graph_here", "_law_v"] (spNear K) := ok_near (k := 1) F11 mr
  have GG : FnOk l.prog w K mg base CX0 3 f10 (PySem.W.fnOf "_law_graph" "_law_graph" (defArgs sGraph) (defBody sGraph) (defScope sGraph) .none kV10 dc10 pm10 an10 cd10 ct10) ["_law_pool_here", "_law_most"] (spGraph K) := ok_graph F10 F7 b7 g7 GD F8 b8 g8 GPa F9 b9 g9 GSo mr mt ml mls
  have GR : FnOk l.prog w K mg base CX0 3 f12 (PySem.W.fnOf "_law_some_rotation" "_law_some_rotation" (defArgs sRot) (defBody sRot) (defScope sRot) .none kV12 dc12 pm12 an12 cd12 ct12) ["_law_pool_here", "_law_graph_here"] (spRot K) := ok_rot F12 F7 b7 g7 GD F11 b11 g11 GNe mr mt ml
  have GNx : FnOk l.prog w K mg base CX0 2 f1 (PySem.W.fnOf "next_arrow" "next_arrow" (defArgs sNext) (defBody sNext) (defScope sNext) .none kV1 dc1 pm1 an1 cd1 ct1) ["rotation", "arrow"] (spNext K) := ok_next (k := 1) F1 ml
  have GF : FnOk l.prog w K mg base CX0 3 f2 (PySem.W.fnOf "faces" "faces" (defArgs sFaces) (defBody sFaces) (defScope sFaces) .none kV2 dc2 pm2 an2 cd2 ct2) ["graph", "rotation"] (spFaces K) := ok_faces F2 F1 b1 g1 GNx mt ml mls ms
  have GL : FnOk l.prog w K mg base CX0 4 f13 (PySem.W.fnOf "_law_faces" "_law_faces" (defArgs sLFaces) (defBody sLFaces) (defScope sLFaces) .none kV13 dc13 pm13 an13 cd13 ct13) ["_law_graph_here", "_law_rotation"] (spFaces K) := ok_lfaces (k := 3) F13 mt ml mls ms mr
  have GM : FnOk l.prog w K mg base CX0 4 f3 (PySem.W.fnOf "mirrored" "mirrored" (defArgs sMirr) (defBody sMirr) (defScope sMirr) .none kV3 dc3 pm3 an3 cd3 ct3) ["rotation"] (spMirr K) := ok_mirr (k := 3) F3 mt mrv
  have GS : FnOk l.prog w K mg base CX0 4 f4 (PySem.W.fnOf "_law_same" "_law_same" (defArgs sSame) (defBody sSame) (defScope sSame) .none kV4 dc4 pm4 an4 cd4 ct4) ["_law_actual", "_law_due"] (spSame K 3) := ok_same F4 b4 g4 mt ml mls mi mb mis mr 3
  exact ok_law F14 F5 b5 g5 GPo F10 b10 g10 (GG.mono (by decide)) F12 b12 g12 (GR.mono (by decide)) F13 b13 g13 GL F2 b2 g2 (GF.mono (by decide)) F3 b3 g3 GM F4 b4 g4 GS mt mls ms
end FW
open PySem PySem.W PyProof.Rows
set_option maxHeartbeats 0 in
theorem PySem.Challenge.cw_trellis_k45_faces_holds : PySem.Challenge.rw_trellis_k45_faces.Holds := by
  w_on; o_law; k_head; (case hw => w_witness2)
  k_fill
  refine L2.walk_of (l := PySem.Challenge.rw_trellis_k45_faces) (n := 63) (k := 5) (x := "_law_script") (CX := fun _ => L2.CX0) (sp := fun w => FW.spLaw _) rfl (by decide) rfl ⟨rfl, by decide, by decide⟩ (fun w h Y => PySem.W.kIn_of Y) ?F (fun _ _ a ns hl _ hS => ⟨a, ns, rfl, hS, hl, fun _ => rfl⟩) (fun _ _ _ _ _ h => h)
  case F =>
    intro w mg fa h KX G hmg
    refine' FW.all_mk KX G hmg ?a1 ?l1 ?c1 ?k1 ?a2 ?l2 ?c2 ?k2 ?a3 ?l3 ?c3 ?k3 ?a4 ?l4 ?c4 ?k4 ?a5 ?l5 ?c5 ?k5 ?a6 ?l6 ?c6 ?k6 ?a7 ?l7 ?c7 ?k7 ?a8 ?l8 ?c8 ?k8 ?a9 ?l9 ?c9 ?k9 ?a10 ?l10 ?c10 ?k10 ?a11 ?l11 ?c11 ?k11 ?a12 ?l12 ?c12 ?k12 ?a13 ?l13 ?c13 ?k13 ?a14 ?l14 ?c14 ?k14 ?z1 ?z2 ?z3 ?z4 ?z5 ?z6 ?z7 ?z8 ?z9
    (case a1 => k_is)
    (case l1 => k_is)
    (case c1 => k_is)
    (case k1 => k_is)
    (case a2 => k_is)
    (case l2 => k_is)
    (case c2 => k_is)
    (case k2 => k_is)
    (case a3 => k_is)
    (case l3 => k_is)
    (case c3 => k_is)
    (case k3 => k_is)
    (case a4 => k_is)
    (case l4 => k_is)
    (case c4 => k_is)
    (case k4 => k_is)
    (case a5 => k_is)
    (case l5 => k_is)
    (case c5 => k_is)
    (case k5 => k_is)
    (case a6 => k_is)
    (case l6 => k_is)
    (case c6 => k_is)
    (case k6 => k_is)
    (case a7 => k_is)
    (case l7 => k_is)
    (case c7 => k_is)
    (case k7 => k_is)
    (case a8 => k_is)
    (case l8 => k_is)
    (case c8 => k_is)
    (case k8 => k_is)
    (case a9 => k_is)
    (case l9 => k_is)
    (case c9 => k_is)
    (case k9 => k_is)
    (case a10 => k_is)
    (case l10 => k_is)
    (case c10 => k_is)
    (case k10 => k_is)
    (case a11 => k_is)
    (case l11 => k_is)
    (case c11 => k_is)
    (case k11 => k_is)
    (case a12 => k_is)
    (case l12 => k_is)
    (case c12 => k_is)
    (case k12 => k_is)
    (case a13 => k_is)
    (case l13 => k_is)
    (case c13 => k_is)
    (case k13 => k_is)
    (case a14 => k_is)
    (case l14 => k_is)
    (case c14 => k_is)
    (case k14 => k_is)
    (case z1 => k_is)
    (case z2 => k_is)
    (case z3 => k_is)
    (case z4 => k_is)
    (case z5 => k_is)
    (case z6 => k_is)
    (case z7 => k_is)
    (case z8 => k_is)
    (case z9 => k_is)
