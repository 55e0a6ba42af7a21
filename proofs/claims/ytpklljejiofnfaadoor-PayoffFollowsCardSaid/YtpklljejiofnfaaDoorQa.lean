import Derived.Test.YtpklljejiofnfaaDoorPAllx14
set_option linter.unusedVariables false
set_option linter.unusedSimpArgs false
namespace StableSort
variable {α : Type} (k0 k1 : α → Int)
/-- Strictly ahead. -/
def Lt (a b : α) : Prop := k0 a < k0 b ∨ k0 a = k0 b ∧ k1 a < k1 b
def Le (a b : α) : Prop := ¬ Lt k0 k1 b a
instance (a b : α) : Decidable (Lt k0 k1 a b) := by unfold Lt; exact inferInstance
instance (a b : α) : Decidable (Le k0 k1 a b) := by unfold Le; exact inferInstance
def eqv (c : Int × Int) (a : α) : Bool := decide (k0 a = c.1) && decide (k1 a = c.2)
def Sorted (l : List α) : Prop := l.Pairwise (Le k0 k1)
def Same (l m : List α) : Prop := ∀ c, l.filter (eqv k0 k1 c) = m.filter (eqv k0 k1 c)
variable {k0 k1}
theorem Lt.irrefl (a : α) : ¬ Lt k0 k1 a a := by unfold Lt; omega
theorem Lt.le {a b : α} (h : Lt k0 k1 a b) : Le k0 k1 a b := by unfold Le Lt at *; omega
theorem Le.trans {a b c : α} (h : Le k0 k1 a b) (h1 : Le k0 k1 b c) : Le k0 k1 a c := by unfold Le Lt at *; omega
theorem Lt.trans_le {a b c : α} (h : Lt k0 k1 a b) (h1 : Le k0 k1 b c) : Lt k0 k1 a c := by unfold Le Lt at *; omega
theorem Le.trans_lt {a b c : α} (h : Le k0 k1 a b) (h1 : Lt k0 k1 b c) : Lt k0 k1 a c := by unfold Le Lt at *; omega
theorem eqv_iff {c : Int × Int} {a : α} : eqv k0 k1 c a = true ↔ k0 a = c.1 ∧ k1 a = c.2 := by simp [eqv]
theorem Same.refl (l : List α) : Same k0 k1 l l := fun _ => rfl
theorem Same.symm {l m : List α} (h : Same k0 k1 l m) : Same k0 k1 m l := fun c => (h c).symm
theorem Same.trans {l m n : List α} (h : Same k0 k1 l m) (h1 : Same k0 k1 m n) : Same k0 k1 l n := fun c => (h c).trans (h1 c)
theorem Same.append {l m l' m' : List α} (h : Same k0 k1 l m) (h1 : Same k0 k1 l' m') : Same k0 k1 (l ++ l') (m ++ m') := fun c => by
  rw [List.filter_append, List.filter_append, h c, h1 c]
theorem Same.left {m m' : List α} (l : List α) (h1 : Same k0 k1 m m') : Same k0 k1 (l ++ m) (l ++ m') := (Same.refl l).append h1
theorem Same.right {l l' : List α} (m : List α) (h1 : Same k0 k1 l l') : Same k0 k1 (l ++ m) (l' ++ m) := h1.append (Same.refl m)
theorem Same.mem {l m : List α} (h : Same k0 k1 l m) {x : α} : x ∈ l ↔ x ∈ m := by
  have e : ∀ l : List α, x ∈ l ↔ x ∈ l.filter (eqv k0 k1 (k0 x, k1 x)) := fun l => by simp [eqv]
  rw [e l, e m, h]
theorem Same.swap {l m : List α} (h : ∀ a ∈ l, ∀ b ∈ m, Lt k0 k1 b a) : Same k0 k1 (l ++ m) (m ++ l) := by
  intro c
  rw [List.filter_append, List.filter_append]
  by_cases h1 : l.filter (eqv k0 k1 c) = []
  · rw [h1, List.nil_append, List.append_nil]
  · have h2 : m.filter (eqv k0 k1 c) = [] := by
      rw [List.filter_eq_nil_iff]
      intro b hb e
      rw [eqv_iff] at e
      apply h1
      rw [List.filter_eq_nil_iff]
      intro a ha e1
      rw [eqv_iff] at e1
      have := h a ha b hb
      unfold Lt at this
      omega
    rw [h2, List.nil_append, List.append_nil]
theorem Same.length {l m : List α} (h : Same k0 k1 l m) : l.length = m.length := by
  induction l generalizing m with
  | nil =>
    cases m with
    | nil => rfl
    | cons x m => exact absurd (h.mem.2 List.mem_cons_self) (by simp)
  | cons a l ih =>
    have ha : a ∈ m := h.mem.1 List.mem_cons_self
    -- the first of m that is alike to a
    obtain ⟨s, t, b, hm, hs, hb⟩ : ∃ s t b, m = s ++ b :: t ∧ s.filter (eqv k0 k1 (k0 a, k1 a)) = [] ∧ eqv k0 k1 (k0 a, k1 a) b = true := by
      clear h ih
      induction m with
      | nil => cases ha
      | cons x m ihm =>
        by_cases hx : eqv k0 k1 (k0 a, k1 a) x = true
        · exact ⟨[], m, x, rfl, rfl, hx⟩
        · rcases List.mem_cons.1 ha with rfl | ha
          · exact absurd (by simp [eqv]) hx
          · obtain ⟨s, t, b, rfl, hs, hb⟩ := ihm ha
            exact ⟨x :: s, t, b, rfl, by simp [hx, hs], hb⟩
    have h1 : Same k0 k1 l (s ++ t) := by
      intro c
      have hc := h c
      rw [hm, List.filter_append, List.filter_cons, List.filter_cons] at hc
      rw [List.filter_append]
      have hbv := eqv_iff.1 hb
      by_cases hca : eqv k0 k1 c a = true
      · have hcv := eqv_iff.1 hca
        have e : c = (k0 a, k1 a) := by cases c; simp_all
        subst e
        rw [if_pos hca, if_pos hb, hs] at hc
        rw [hs]
        exact (List.cons.inj hc).2
      · have hcb : ¬ eqv k0 k1 c b = true := by
          rw [eqv_iff] at hca ⊢
          rw [hbv.1, hbv.2]
          exact hca
        rw [if_neg hca, if_neg hcb] at hc
        exact hc
    rw [hm, List.length_cons, List.length_append, List.length_cons, ih h1, List.length_append]
    omega
theorem Sorted.unique {l m : List α} (hl : Sorted k0 k1 l) (hm : Sorted k0 k1 m) (h : Same k0 k1 l m) : l = m := by
  induction l generalizing m with
  | nil =>
    have := h.length
    exact (List.length_eq_zero_iff.1 this.symm).symm
  | cons a l ih =>
    cases m with
    | nil => have := h.length; simp at this
    | cons b m =>
      have hl' := List.pairwise_cons.1 hl
      have hm' := List.pairwise_cons.1 hm
      have h1 : Le k0 k1 a b := by
        rcases List.mem_cons.1 (h.mem.2 (List.mem_cons_self : b ∈ b :: m)) with rfl | hb
        · unfold Le Lt; omega
        · exact hl'.1 _ hb
      have h2 : Le k0 k1 b a := by
        rcases List.mem_cons.1 (h.mem.1 (List.mem_cons_self : a ∈ a :: l)) with rfl | hb
        · unfold Le Lt; omega
        · exact hm'.1 _ hb
      have e0 : eqv k0 k1 (k0 a, k1 a) a = true := by simp [eqv]
      have e1 : eqv k0 k1 (k0 a, k1 a) b = true := by
        rw [eqv_iff]
        unfold Le Lt at h1 h2
        simp only
        omega
      have hc := h (k0 a, k1 a)
      rw [List.filter_cons, List.filter_cons, if_pos e0, if_pos e1] at hc
      obtain rfl := (List.cons.inj hc).1
      have : Same k0 k1 l m := by
        intro c
        have hc := h c
        rw [List.filter_cons, List.filter_cons] at hc
        by_cases hca : eqv k0 k1 c a = true
        · rw [if_pos hca, if_pos hca] at hc
          exact (List.cons.inj hc).2
        · rw [if_neg hca, if_neg hca] at hc
          exact hc
      rw [ih hl'.2 hm'.2 this]
theorem Sorted.append {l m : List α} (hl : Sorted k0 k1 l) (hm : Sorted k0 k1 m) (h : ∀ a ∈ l, ∀ b ∈ m, Le k0 k1 a b) : Sorted k0 k1 (l ++ m) := List.pairwise_append.2 ⟨hl, hm, h⟩
theorem Sorted.of_append {l m : List α} (h : Sorted k0 k1 (l ++ m)) : Sorted k0 k1 l ∧ Sorted k0 k1 m ∧ ∀ a ∈ l, ∀ b ∈ m, Le k0 k1 a b := List.pairwise_append.1 h
theorem Sorted.nil : Sorted k0 k1 ([] : List α) := List.Pairwise.nil
theorem Sorted.one (a : α) : Sorted k0 k1 [a] := List.pairwise_singleton _ _
section
variable (k0 k1)
def ins (d : α) : List α → List α
  | [] => [d]
  | y :: l => if Lt k0 k1 d y then d :: y :: l else y :: ins d l
/-- The stable sort. -/
def srt (l : List α) : List α := l.foldl (fun q d => ins k0 k1 d q) []
end
theorem ins_mem {d x : α} {l : List α} : x ∈ ins k0 k1 d l ↔ x = d ∨ x ∈ l := by
  induction l with
  | nil => simp [ins]
  | cons y l ih =>
    unfold ins
    split
    · simp
    · simp only [List.mem_cons, ih]
      constructor
      · rintro (h | h | h) <;> simp [h]
      · rintro (h | h | h) <;> simp [h]
theorem ins_sorted {d : α} {l : List α} (h : Sorted k0 k1 l) : Sorted k0 k1 (ins k0 k1 d l) := by
  induction l with
  | nil => exact Sorted.one d
  | cons y l ih =>
    have h' := List.pairwise_cons.1 h
    unfold ins
    split
    · rename_i hlt
      refine List.pairwise_cons.2 ⟨?_, h⟩
      intro a ha
      rcases List.mem_cons.1 ha with rfl | ha
      · exact hlt.le
      · exact hlt.le.trans (h'.1 a ha)
    · rename_i hlt
      refine List.pairwise_cons.2 ⟨?_, ih h'.2⟩
      intro a ha
      rcases ins_mem.1 ha with rfl | ha
      · exact hlt
      · exact h'.1 a ha
theorem ins_same {d : α} {l : List α} (h : Sorted k0 k1 l) : Same k0 k1 (l ++ [d]) (ins k0 k1 d l) := by
  induction l with
  | nil => exact Same.refl _
  | cons y l ih =>
    have h' := List.pairwise_cons.1 h
    unfold ins
    split
    · rename_i hlt
      refine Same.swap (l := y :: l) (m := [d]) ?_
      intro a ha b hb
      simp at hb
      subst hb
      rcases List.mem_cons.1 ha with rfl | ha
      · exact hlt
      · exact hlt.trans_le (h'.1 a ha)
    · exact Same.left [y] (ih h'.2)
theorem srt_snoc (l : List α) (d : α) : srt k0 k1 (l ++ [d]) = ins k0 k1 d (srt k0 k1 l) := by simp [srt]
theorem srt_spec (l : List α) : Sorted k0 k1 (srt k0 k1 l) ∧ Same k0 k1 l (srt k0 k1 l) := by
  generalize hn : l.length = n
  induction n generalizing l with
  | zero =>
    obtain rfl := List.length_eq_zero_iff.1 hn
    exact ⟨Sorted.nil, Same.refl _⟩
  | succ n ih =>
    obtain ⟨l, d, rfl⟩ : ∃ l' d, l = l' ++ [d] := ⟨l.dropLast, l.getLast (by intro e; simp [e] at hn), by rw [List.dropLast_concat_getLast]⟩
    simp at hn
    obtain ⟨h1, h2⟩ := ih l hn
    rw [srt_snoc]
    exact ⟨ins_sorted h1, (h2.right [d]).trans (ins_same h1)⟩
theorem srt_unique {l m : List α} (h : Sorted k0 k1 m) (h1 : Same k0 k1 l m) : m = srt k0 k1 l :=
  Sorted.unique h (srt_spec l).1 (h1.symm.trans (srt_spec l).2)
theorem srt_same {l m : List α} (h : Same k0 k1 l m) : srt k0 k1 l = srt k0 k1 m := srt_unique (srt_spec l).1 (h.symm.trans (srt_spec l).2)
theorem srt_length (l : List α) : (srt k0 k1 l).length = l.length := (srt_spec l).2.length.symm
theorem srt_mem {l : List α} {x : α} : x ∈ srt k0 k1 l ↔ x ∈ l := (srt_spec l).2.mem.symm
theorem srt_id {l : List α} (h : Sorted k0 k1 l) : srt k0 k1 l = l := (srt_unique h (Same.refl l)).symm
end StableSort
namespace Go.Proofs.YtpklljejiofnfaaDoor.PAll
open Go.RowKit Go.Proofs.YtpklljejiofnfaaDoorW.PrintWords Go.Proofs.YtpklljejiofnfaaDoorW.PrintLast
open Go.Proofs.YtpklljejiofnfaaDoorW.PrintMore
open StableSort
abbrev DLt (a b : S61) : Prop := Lt S61.f0 S61.f1 a b
abbrev DLe (a b : S61) : Prop := Le S61.f0 S61.f1 a b
abbrev DSorted (l : List S61) : Prop := Sorted S61.f0 S61.f1 l
abbrev DSame (l m : List S61) : Prop := Same S61.f0 S61.f1 l m
theorem wr (x : Int) (h0 : -9223372036854775808 ≤ x) (h1 : x ≤ 9223372036854775807) : wrap64 x = x := wrap_in x h0 h1
theorem compare_eq (a b : Int) : cmp_Compare_int.f a b = some (if a < b then -1 else if a > b then 1 else 0) := by
  unfold cmp_Compare_int.f cmp_isNaN_int.f
  simp
  split
  · rfl
  · split <;> rfl
theorem cmp_eq (a b : S61) (k : Nat) (hk : 3 ≤ k) : ∃ c, duty_Merge_1.f k a.f0 a.f1 a.f2 a.f3 b.f0 b.f1 b.f2 b.f3 = some c ∧ (c < 0 ↔ DLt a b) := by
  obtain ⟨k, rfl⟩ : ∃ m, k = m + 3 := ⟨k - 3, by omega⟩
  unfold duty_Merge_1.f
  rw [compare_eq, compare_eq]
  simp only [Option.bind_some, cmp_Or_int.f, cmp_Or_int.l0, List.length_cons, List.length_nil]
  have e0 : ∀ x y : Int, rd [x, y] 0 = x := fun _ _ => rfl
  have e1 : ∀ x y : Int, rd [x, y] 1 = y := fun _ _ => rfl
  have w0 : wrap64 (0 + 1) = 1 := wr 1 (by omega) (by omega)
  have w1 : wrap64 (1 + 1) = 2 := wr 2 (by omega) (by omega)
  simp only [e0, e1, w0, w1]
  unfold DLt Lt
  by_cases h1 : a.f0 < b.f0
  · simp [h1]
  · by_cases h2 : a.f0 > b.f0
    · simp [h1, h2]
      omega
    · have h3 : a.f0 = b.f0 := by omega
      by_cases h4 : a.f1 < b.f1
      · simp [h3, h4]
      · by_cases h5 : a.f1 > b.f1
        · simp [h3, h4, h5]
        · simp [h3, h4, h5]
theorem rdT {x p s : List S61} {d : S61} {i : Int} (h : x = p ++ d :: s) (hi : i = p.length) : rd_T61 x i = d := by
  subst h hi
  simp [rd_T61, List.getD_eq_getElem?_getD]
theorem swap_set (p : List S61) (y d : S61) (s : List S61) : ((p ++ y :: d :: s).set (p.length + 1) y).set p.length d = p ++ d :: y :: s := by
  simp [List.set_append]
theorem swap_set2 (p : List S61) (y d : S61) (s : List S61) : ((p ++ y :: d :: s).set p.length d).set (p.length + 1) y = p ++ d :: y :: s := by
  simp [List.set_append]
/-- One element sinks to its place. -/
theorem insert_in (a1 b1 i : Int) (rest : List S61) (p : List S61) (r : List S61) (K : Nat) (ha : a1 = p.length) (hi0 : 0 ≤ i) (hi1 : i ≤ 1000) :
    ∀ (u v : List S61) (d : S61) (j : Int), DSorted (u ++ v) → (∀ y ∈ v, DLt d y) → j = p.length + u.length → (p.length + u.length + v.length + rest.length : Int) ≤ 1000 →
      (∀ q k, K ≤ k → DSorted q → DSame (u ++ v ++ [d]) q → api_Duty_125.l0 k (p ++ q ++ rest) a1 b1 (i + 1) = some r) →
      ∀ k, K + u.length + 5 ≤ k → api_Duty_125.l1 k (p ++ (u ++ d :: v) ++ rest) a1 b1 i j = some r := by
  intro u
  induction hn : u.length generalizing u with
  | zero =>
    intro v d j hs hv hj hl H k hk
    obtain rfl : u = [] := List.length_eq_zero_iff.1 hn
    obtain ⟨k, rfl⟩ : ∃ m, k = m + 1 := ⟨k - 1, by omega⟩
    simp only [api_Duty_125.l1]
    rw [if_neg (by simp at hj; omega), wr (i + 1) (by omega) (by omega)]
    refine H _ k (by omega) ?_ ?_
    · exact (Sorted.one d).append hs (fun a ha b hb => by simp at ha; subst ha; exact (hv b (by simpa using hb)).le)
    · have := Same.swap (k0 := S61.f0) (k1 := S61.f1) (l := v) (m := [d]) (fun a ha b hb => by simp at hb; subst hb; exact hv a ha)
      simpa using this
  | succ n ih =>
    intro v d j hs hv hj hl H k hk
    obtain ⟨u, y, rfl⟩ : ∃ u' y, u = u' ++ [y] := ⟨u.dropLast, u.getLast (by intro e; simp [e] at hn), by rw [List.dropLast_concat_getLast]⟩
    simp at hn hj hl
    obtain ⟨k, rfl⟩ : ∃ m, k = m + 1 := ⟨k - 1, by omega⟩
    simp only [api_Duty_125.l1]
    have hx : p ++ (u ++ [y] ++ d :: v) ++ rest = (p ++ u) ++ y :: d :: (v ++ rest) := by simp
    have hx' : p ++ (u ++ [y] ++ d :: v) ++ rest = (p ++ u ++ [y]) ++ d :: (v ++ rest) := by simp
    have hL : ((p ++ (u ++ [y] ++ d :: v) ++ rest).length : Int) = p.length + u.length + v.length + rest.length + 2 := by simp; omega
    have hlen : (p.length : Int) + u.length + 1 + v.length + rest.length ≤ 1000 := by omega
    rw [wr (j - 1) (by omega) (by omega), if_pos (by omega), if_pos (by omega), if_pos (by rw [hL]; omega), if_pos (by omega), if_pos (by rw [hL]; omega)]
    have e1 : rd_T61 (p ++ (u ++ [y] ++ d :: v) ++ rest) j = d := rdT hx' (by simp; omega)
    have e2 : rd_T61 (p ++ (u ++ [y] ++ d :: v) ++ rest) (j - 1) = y := rdT hx (by simp; omega)
    rw [e1, e2]
    obtain ⟨c, hc, hc'⟩ := cmp_eq d y k (by omega)
    rw [hc]
    simp only [Option.bind_some]
    by_cases h : DLt d y
    · rw [if_pos (hc'.2 h)]
      have hset : ((p ++ (u ++ [y] ++ d :: v) ++ rest).set j.toNat y).set (j - 1).toNat d = p ++ (u ++ d :: (y :: v)) ++ rest := by
        have := swap_set (p ++ u) y d (v ++ rest)
        rw [hx, show j.toNat = (p ++ u).length + 1 by simp; omega, show (j - 1).toNat = (p ++ u).length by simp; omega, this]
        simp
      rw [show (⟨y.f0, y.f1, y.f2, y.f3⟩ : S61) = y from rfl, show (⟨d.f0, d.f1, d.f2, d.f3⟩ : S61) = d from rfl, hset]
      refine ih u hn (y :: v) d (j - 1) (by simpa using hs) ?_ (by omega) (by simp; omega) ?_ k (by omega)
      · intro z hz
        rcases List.mem_cons.1 hz with rfl | hz
        · exact h
        · exact hv z hz
      · intro q k hk hq hsq
        exact H q k hk hq (by simpa using hsq)
    · rw [if_neg (fun e => h (hc'.1 e)), wr (i + 1) (by omega) (by omega)]
      refine H _ k (by omega) ?_ ?_
      · have hs' := Sorted.of_append hs
        refine hs'.1.append ((Sorted.one d).append hs'.2.1 ?_) ?_
        · intro a ha b hb
          simp at ha
          subst ha
          exact (hv b (by simpa using hb)).le
        · intro a ha b hb
          have h1 : DLe y d := h
          have h2 : DLe a y := by
            rcases List.mem_append.1 ha with ha | ha
            · exact (Sorted.of_append hs'.1).2.2 a ha y (by simp)
            · simp at ha
              subst ha
              exact Lt.irrefl a
          rcases List.mem_cons.1 hb with rfl | hb
          · exact h2.trans h1
          · exact (h2.trans h1).trans (hv b hb).le
      · have := Same.swap (k0 := S61.f0) (k1 := S61.f1) (l := v) (m := [d]) (fun a ha b hb => by simp at hb; subst hb; exact hv a ha)
        have := Same.left (u ++ [y]) this
        simpa using this
abbrev dsrt (l : List S61) : List S61 := srt S61.f0 S61.f1 l
theorem insert_out (a1 b1 : Int) (rest : List S61) (p : List S61) (ha : a1 = p.length) : ∀ (t q : List S61), DSorted q → b1 = p.length + q.length + t.length →
    (p.length + q.length + t.length + rest.length : Int) ≤ 1000 → ∀ k, t.length * 2000 + 1 ≤ k → api_Duty_125.l0 k (p ++ q ++ (t ++ rest)) a1 b1 (p.length + q.length) = some (p ++ dsrt (q ++ t) ++ rest) := by
  intro t
  induction t with
  | nil =>
    intro q hq hb hl k hk
    obtain ⟨k, rfl⟩ : ∃ m, k = m + 1 := ⟨k - 1, by omega⟩
    simp only [api_Duty_125.l0]
    rw [if_neg (by simp at hb; omega), List.append_nil, show dsrt q = q from srt_id hq]
    simp
  | cons d t ih =>
    intro q hq hb hl k hk
    simp at hb hl hk
    obtain ⟨k, rfl⟩ : ∃ m, k = m + 1 := ⟨k - 1, by omega⟩
    simp only [api_Duty_125.l0]
    rw [if_pos (by omega)]
    have := insert_in a1 b1 (p.length + q.length) (t ++ rest) p (p ++ dsrt (q ++ d :: t) ++ rest) (t.length * 2000 + 1) ha (by omega) (by omega) q [] d (p.length + q.length) (by simpa using hq) (by simp) rfl (by simp; omega) ?_ k (by omega)
    · simpa using this
    · intro q' k' hk' hq' hs'
      have h1 : (p.length : Int) + q.length + 1 = p.length + q'.length := by
        have := hs'.length
        simp at this
        omega
      rw [h1]
      have h2 : dsrt (q ++ d :: t) = dsrt (q' ++ t) := srt_same (by have := Same.right t hs'; simpa using this)
      rw [h2]
      exact ih q' hq' (by omega) (by omega) k' hk'
set_option maxRecDepth 100000 in
/-- insertionSortCmpFunc. -/
theorem insertion_eq (a1 b1 : Int) (p t rest : List S61) (ha : a1 = p.length) (hb : b1 = p.length + t.length) (hl : (p.length + t.length + rest.length : Int) ≤ 1000) (k : Nat) (hk : t.length * 2000 + 1 ≤ k) :
    api_Duty_125.f k (p ++ t ++ rest) a1 b1 = some (p ++ dsrt t ++ rest) := by
  unfold api_Duty_125.f
  rw [wr (a1 + 1) (by omega) (by omega)]
  cases t with
  | nil =>
    obtain ⟨k, rfl⟩ : ∃ m, k = m + 1 := ⟨k - 1, by omega⟩
    simp only [api_Duty_125.l0]
    rw [if_neg (by simp at hb; omega)]
    rfl
  | cons d t =>
    rw [List.length_cons] at hb hl hk
    have hk2 : t.length * 2000 + 1 ≤ k := by
      omega
    clear hk
    have := insert_out a1 b1 rest p ha t [d] (Sorted.one d) (by simp only [List.length_cons, List.length_nil]; omega) (by simp only [List.length_cons, List.length_nil]; omega) k hk2
    rw [← ha] at this
    simpa using this
end Go.Proofs.YtpklljejiofnfaaDoor.PAll
namespace Go.Proofs.YtpklljejiofnfaaDoor.PAll
open Go.RowKit Go.Proofs.YtpklljejiofnfaaDoorW.PrintWords Go.Proofs.YtpklljejiofnfaaDoorW.PrintLast
open Go.Proofs.YtpklljejiofnfaaDoorW.PrintMore
open StableSort

theorem set_mid (p s : List S61) (y z : S61) : (p ++ y :: s).set p.length z = p ++ z :: s := by simp
theorem set_at {x p s : List S61} {y : S61} (z : S61) {i : Nat} (h : x = p ++ y :: s) (hi : i = p.length) : x.set i z = p ++ z :: s := by subst h hi; simp
/-- swapRangeCmpFunc. -/
theorem swapRange_loop (a1 b1 n1 : Int) (p m s : List S61) (ha : a1 = p.length) : ∀ (A2 B2 A1 B1 : List S61) (i : Int), A1.length = B1.length → A2.length = B2.length → i = A1.length → n1 = A1.length + A2.length → b1 = p.length + A1.length + A2.length + m.length →
    (p.length + A1.length + A2.length + m.length + B1.length + B2.length + s.length : Int) ≤ 1000 → ∀ k, A2.length + 1 ≤ k →
    api_Duty_132.l0 k (p ++ (B1 ++ A2) ++ m ++ (A1 ++ B2) ++ s) a1 b1 n1 i = some (p ++ (B1 ++ B2) ++ m ++ (A1 ++ A2) ++ s) := by
  intro A2
  induction A2 with
  | nil =>
    intro B2 A1 B1 i h1 h2 hi hn hb hl k hk
    obtain rfl : B2 = [] := List.length_eq_zero_iff.1 (by simpa using h2.symm)
    obtain ⟨k, rfl⟩ : ∃ m, k = m + 1 := ⟨k - 1, by omega⟩
    simp only [api_Duty_132.l0]
    rw [if_neg (by simp at hn; omega)]
  | cons y A2 ih =>
    intro B2 A1 B1 i h1 h2 hi hn hb hl k hk
    cases B2 with
    | nil => simp at h2
    | cons z B2 =>
      simp only [List.length_cons] at h2 hn hb hl hk
      obtain ⟨k, rfl⟩ : ∃ m, k = m + 1 := ⟨k - 1, by omega⟩
      simp only [api_Duty_132.l0]
      have hL : ((p ++ (B1 ++ y :: A2) ++ m ++ (A1 ++ z :: B2) ++ s).length : Int) = p.length + B1.length + A2.length + m.length + A1.length + B2.length + s.length + 2 := by simp; omega
      have hx : p ++ (B1 ++ y :: A2) ++ m ++ (A1 ++ z :: B2) ++ s = (p ++ B1) ++ y :: (A2 ++ m ++ A1 ++ z :: B2 ++ s) := by simp
      have hx' : p ++ (B1 ++ y :: A2) ++ m ++ (A1 ++ z :: B2) ++ s = (p ++ B1 ++ y :: A2 ++ m ++ A1) ++ z :: (B2 ++ s) := by simp
      rw [if_pos (by omega), wr (b1 + i) (by omega) (by omega), wr (a1 + i) (by omega) (by omega), if_pos (by omega), if_pos (by rw [hL]; omega), if_pos (by omega), if_pos (by rw [hL]; omega), wr (i + 1) (by omega) (by omega)]
      have e1 : rd_T61 (p ++ (B1 ++ y :: A2) ++ m ++ (A1 ++ z :: B2) ++ s) (a1 + i) = y := rdT hx (by simp; omega)
      have e2 : rd_T61 (p ++ (B1 ++ y :: A2) ++ m ++ (A1 ++ z :: B2) ++ s) (b1 + i) = z := rdT hx' (by simp; omega)
      rw [e1, e2, show (⟨y.f0, y.f1, y.f2, y.f3⟩ : S61) = y from rfl, show (⟨z.f0, z.f1, z.f2, z.f3⟩ : S61) = z from rfl]
      rw [set_at z hx (show (a1 + i).toNat = (p ++ B1).length by simp; omega)]
      rw [set_at (p := p ++ B1 ++ z :: A2 ++ m ++ A1) (y := z) (s := B2 ++ s) y (by simp) (show (b1 + i).toNat = (p ++ B1 ++ z :: A2 ++ m ++ A1).length by simp; omega)]
      have := ih B2 (A1 ++ [y]) (B1 ++ [z]) (i + 1) (by simp; omega) (by omega) (by simp; omega) (by simp; omega) (by simp; omega) (by simp; omega) k (by omega)
      simpa using this
theorem swapRange_eq (a1 b1 n1 : Int) (p A m B s : List S61) (ha : a1 = p.length) (h2 : A.length = B.length) (hn : n1 = A.length) (hb : b1 = p.length + A.length + m.length)
    (hl : (p.length + A.length + m.length + B.length + s.length : Int) ≤ 1000) (k : Nat) (hk : A.length + 1 ≤ k) :
    api_Duty_132.f k (p ++ A ++ m ++ B ++ s) a1 b1 n1 = some (p ++ B ++ m ++ A ++ s) := by
  unfold api_Duty_132.f
  have := swapRange_loop a1 b1 n1 p m s ha A B [] [] 0 rfl h2 rfl (by simpa using hn) (by simpa using hb) (by simp; omega) k hk
  simpa using this
/-- rotateCmpFunc. -/
theorem rotate_loop (N : Nat) : ∀ (p A B s : List S61) (x2 i j : Int), A.length + B.length ≤ N → A ≠ [] → B ≠ [] → x2 = p.length + A.length → i = A.length → j = B.length →
    (p.length + A.length + B.length + s.length : Int) ≤ 1000 → ∀ k, N + 1002 ≤ k → api_Duty_131.l0 k (p ++ A ++ B ++ s) x2 i j = some (p ++ B ++ A ++ s) := by
  induction N with
  | zero =>
    intro p A B s x2 i j hN hA
    exact absurd (List.length_eq_zero_iff.1 (by omega)) hA
  | succ N ih =>
    intro p A B s x2 i j hN hA hB hx hi hj hl k hk
    have hA' : 0 < A.length := List.length_pos_iff.2 hA
    have hB' : 0 < B.length := List.length_pos_iff.2 hB
    obtain ⟨k, rfl⟩ : ∃ m, k = m + 1 := ⟨k - 1, by omega⟩
    simp only [api_Duty_131.l0]
    rw [wr (x2 - i) (by omega) (by omega)]
    by_cases h1 : i = j
    · rw [if_pos h1]
      have := swapRange_eq (x2 - i) x2 i p A [] B s (by omega) (by omega) (by omega) (by simp; omega) (by simp; omega) k (by omega)
      simp only [List.append_nil] at this
      rw [this]
      rfl
    · rw [if_neg h1]
      by_cases h2 : i > j
      · rw [if_pos h2]
        obtain ⟨A1, A2, rfl, hA1⟩ : ∃ A1 A2, A = A1 ++ A2 ∧ A1.length = B.length := ⟨A.take B.length, A.drop B.length, (List.take_append_drop _ _).symm, by rw [List.length_take]; omega⟩
        simp only [List.length_append] at hN hA' hx hi hl
        have := swapRange_eq (x2 - i) x2 j p A1 A2 B s (by omega) (by omega) (by omega) (by omega) (by omega) k (by omega)
        rw [show p ++ (A1 ++ A2) ++ B ++ s = p ++ A1 ++ A2 ++ B ++ s by simp, this, wr (i - j) (by omega) (by omega)]
        simp only [Option.bind_some]
        have hne2 : A2 ≠ [] := by
          intro e
          rw [e] at hi
          simp at hi
          omega
        have hne1 : A1 ≠ [] := by
          intro e
          rw [e] at hA1
          simp at hA1
          omega
        have := ih (p ++ B) A2 A1 s x2 (i - j) j (by omega) hne2 hne1 (by simp; omega) (by omega) (by omega) (by simp; omega) k (by omega)
        rw [this]
        simp
      · rw [if_neg h2]
        obtain ⟨B1, B2, rfl, hB2⟩ : ∃ B1 B2, B = B1 ++ B2 ∧ B2.length = A.length := ⟨B.take (B.length - A.length), B.drop (B.length - A.length), (List.take_append_drop _ _).symm, by rw [List.length_drop]; omega⟩
        simp only [List.length_append] at hN hB' hj hl
        have := swapRange_eq (x2 - i) (x2 + j - i) i p A B1 B2 s (by omega) (by omega) (by omega) (by omega) (by omega) k (by omega)
        rw [wr (x2 + j) (by omega) (by omega), wr (x2 + j - i) (by omega) (by omega), show p ++ A ++ (B1 ++ B2) ++ s = p ++ A ++ B1 ++ B2 ++ s by simp, this, wr (j - i) (by omega) (by omega)]
        simp only [Option.bind_some]
        have hne1 : B1 ≠ [] := by
          intro e
          rw [e] at hj
          simp at hj
          omega
        have hne2 : B2 ≠ [] := by
          intro e
          rw [e] at hB2
          simp at hB2
          omega
        have := ih p B2 B1 (A ++ s) x2 i (j - i) (by omega) hne2 hne1 (by omega) (by omega) (by omega) (by simp; omega) k (by omega)
        rw [show p ++ B2 ++ B1 ++ A ++ s = p ++ B2 ++ B1 ++ (A ++ s) by simp, this]
        simp
theorem rotate_eq (a1 m1 b1 : Int) (p A B s : List S61) (ha : a1 = p.length) (hm : m1 = p.length + A.length) (hb : b1 = p.length + A.length + B.length) (hA : A ≠ []) (hB : B ≠ [])
    (hl : (p.length + A.length + B.length + s.length : Int) ≤ 1000) (k : Nat) (hk : 3000 ≤ k) : api_Duty_131.f k (p ++ A ++ B ++ s) a1 m1 b1 = some (p ++ B ++ A ++ s) := by
  unfold api_Duty_131.f
  rw [wr (m1 - a1) (by omega) (by omega), wr (b1 - m1) (by omega) (by omega)]
  exact rotate_loop (A.length + B.length) p A B s m1 (m1 - a1) (b1 - m1) (Nat.le_refl _) hA hB (by omega) (by omega) (by omega) hl k (by omega)
theorem half_eq (i j : Int) (hi : 0 ≤ i) (hj : 0 ≤ j) (hi1 : i ≤ 2000) (hj1 : j ≤ 2000) : wrap64 ((IntKind.u64.wrap (wrap64 (i + j))) / 2) = (i + j) / 2 := by
  rw [wr (i + j) (by omega) (by omega)]
  have : IntKind.u64.wrap (i + j) = i + j := by
    simp [IntKind.wrap, IntKind.bits, IntKind.signed]
    omega
  rw [this, wr _ (by omega) (by omega)]

/-- A search by halves: what it keeps. -/
theorem halves (P : Int → Prop) (lo hi i j : Int) (hi0 : lo ≤ i) (hij : i < j) (hj : j ≤ hi) : i ≤ (i + j) / 2 ∧ (i + j) / 2 < j := by omega
theorem sym_l0 (x : List S61) (a1 : Int) (r : List S61) (m b K : Int) (Kn : Nat) (hL : (x.length : Int) ≤ 1000) (ha0 : 0 ≤ a1) (ha1 : a1 < x.length) (hm : 0 ≤ m) (hb : b ≤ x.length) (d : Nat) : ∀ (i j : Int), m ≤ i → i ≤ j → j ≤ b → j - i ≤ d →
    (i = m ∨ DLt (rd_T61 x (i - 1)) (rd_T61 x a1)) → (j = b ∨ ¬ DLt (rd_T61 x j) (rd_T61 x a1)) →
    (∀ st, m ≤ st → st ≤ b → (st = m ∨ DLt (rd_T61 x (st - 1)) (rd_T61 x a1)) → (st = b ∨ ¬ DLt (rd_T61 x st) (rd_T61 x a1)) → ∀ k, Kn ≤ k → api_Duty_126.l1 k x st a1 = some r) →
    ∀ k, Kn + d + 5 ≤ k → api_Duty_126.l0 k x a1 i j = some r := by
  induction d with
  | zero =>
    intro i j h1 h2 h3 h4 h5 h6 H k hk
    obtain ⟨k, rfl⟩ : ∃ m, k = m + 1 := ⟨k - 1, by omega⟩
    obtain rfl : i = j := by omega
    simp only [api_Duty_126.l0]
    rw [if_neg (by omega)]
    exact H i h1 h3 h5 h6 k (by omega)
  | succ d ih =>
    intro i j h1 h2 h3 h4 h5 h6 H k hk
    obtain ⟨k, rfl⟩ : ∃ m, k = m + 1 := ⟨k - 1, by omega⟩
    simp only [api_Duty_126.l0]
    by_cases hlt : i < j
    · rw [if_pos hlt, half_eq i j (by omega) (by omega) (by omega) (by omega)]
      obtain ⟨h, hh⟩ : ∃ h, h = (i + j) / 2 := ⟨_, rfl⟩
      rw [← hh]
      have hh1 : i ≤ h := by omega
      have hh2 : h < j := by omega
      clear hh
      rw [if_pos (by omega), if_pos (by omega), if_pos ha0, if_pos ha1]
      obtain ⟨c, hc, hc'⟩ := cmp_eq (rd_T61 x h) (rd_T61 x a1) k (by omega)
      rw [hc]
      simp only [Option.bind_some]
      by_cases hcc : c < 0
      · rw [if_pos hcc, wr (h + 1) (by omega) (by omega)]
        exact ih (h + 1) j (by omega) (by omega) h3 (by omega) (Or.inr (by rw [show h + 1 - 1 = h by omega]; exact hc'.1 hcc)) h6 H k (by omega)
      · rw [if_neg hcc]
        exact ih i h h1 hh1 (by omega) (by omega) h5 (Or.inr (fun e => hcc (hc'.2 e))) H k (by omega)
    · obtain rfl : i = j := by omega
      rw [if_neg (by omega)]
      exact H i h1 h3 h5 h6 k (by omega)
theorem sym_l1 (p s : List S61) (d : S61) (st : Int) : ∀ (C2 C1 : List S61) (x13 : Int), st = p.length + C1.length + C2.length + 1 → x13 = p.length + C1.length → (p.length + C1.length + C2.length + s.length : Int) ≤ 990 → ∀ k, C2.length + 1 ≤ k →
    api_Duty_126.l1 k (p ++ (C1 ++ d :: C2) ++ s) st x13 = some (p ++ (C1 ++ C2 ++ [d]) ++ s) := by
  intro C2
  induction C2 with
  | nil =>
    intro C1 x13 h1 h2 hl k hk
    obtain ⟨k, rfl⟩ : ∃ m, k = m + 1 := ⟨k - 1, by omega⟩
    simp at h1 hl
    simp only [api_Duty_126.l1]
    rw [wr (st - 1) (by omega) (by omega), if_neg (by omega)]
    simp
  | cons y C2 ih =>
    intro C1 x13 h1 h2 hl k hk
    simp only [List.length_cons] at h1 hl hk
    obtain ⟨k, rfl⟩ : ∃ m, k = m + 1 := ⟨k - 1, by omega⟩
    simp only [api_Duty_126.l1]
    have hL : ((p ++ (C1 ++ d :: y :: C2) ++ s).length : Int) = p.length + C1.length + C2.length + s.length + 2 := by simp; omega
    have hx : p ++ (C1 ++ d :: y :: C2) ++ s = (p ++ C1) ++ d :: (y :: C2 ++ s) := by simp
    have hx' : p ++ (C1 ++ d :: y :: C2) ++ s = (p ++ C1 ++ [d]) ++ y :: (C2 ++ s) := by simp
    rw [wr (st - 1) (by omega) (by omega), if_pos (by omega), wr (x13 + 1) (by omega) (by omega), if_pos (by omega), if_pos (by rw [hL]; omega), if_pos (by omega), if_pos (by rw [hL]; omega)]
    have e1 : rd_T61 (p ++ (C1 ++ d :: y :: C2) ++ s) x13 = d := rdT hx (by simp; omega)
    have e2 : rd_T61 (p ++ (C1 ++ d :: y :: C2) ++ s) (x13 + 1) = y := rdT hx' (by simp; omega)
    rw [e1, e2, show (⟨y.f0, y.f1, y.f2, y.f3⟩ : S61) = y from rfl, show (⟨d.f0, d.f1, d.f2, d.f3⟩ : S61) = d from rfl]
    rw [set_at y hx (show x13.toNat = (p ++ C1).length by simp; omega)]
    rw [set_at (p := p ++ C1 ++ [y]) (y := y) (s := C2 ++ s) d (by simp) (show (x13 + 1).toNat = (p ++ C1 ++ [y]).length by simp; omega)]
    have := ih (C1 ++ [y]) (x13 + 1) (by simp; omega) (by simp; omega) (by simp; omega) k (by omega)
    simpa using this
theorem sym_l2 (x : List S61) (m1 : Int) (r : List S61) (a b : Int) (Kn : Nat) (hL : (x.length : Int) ≤ 1000) (ha0 : 0 ≤ m1) (ha1 : m1 < x.length) (hm : 0 ≤ a) (hb : b ≤ x.length) (d : Nat) : ∀ (i j : Int), a ≤ i → i ≤ j → j ≤ b → j - i ≤ d →
    (i = a ∨ ¬ DLt (rd_T61 x m1) (rd_T61 x (i - 1))) → (j = b ∨ DLt (rd_T61 x m1) (rd_T61 x j)) →
    (∀ st, a ≤ st → st ≤ b → (st = a ∨ ¬ DLt (rd_T61 x m1) (rd_T61 x (st - 1))) → (st = b ∨ DLt (rd_T61 x m1) (rd_T61 x st)) → ∀ k, Kn ≤ k → api_Duty_126.l3 k x st m1 = some r) →
    ∀ k, Kn + d + 5 ≤ k → api_Duty_126.l2 k x m1 i j = some r := by
  induction d with
  | zero =>
    intro i j h1 h2 h3 h4 h5 h6 H k hk
    obtain ⟨k, rfl⟩ : ∃ m, k = m + 1 := ⟨k - 1, by omega⟩
    obtain rfl : i = j := by omega
    simp only [api_Duty_126.l2]
    rw [if_neg (by omega)]
    exact H i h1 h3 h5 h6 k (by omega)
  | succ d ih =>
    intro i j h1 h2 h3 h4 h5 h6 H k hk
    obtain ⟨k, rfl⟩ : ∃ m, k = m + 1 := ⟨k - 1, by omega⟩
    simp only [api_Duty_126.l2]
    by_cases hlt : i < j
    · rw [if_pos hlt, half_eq i j (by omega) (by omega) (by omega) (by omega)]
      obtain ⟨h, hh⟩ : ∃ h, h = (i + j) / 2 := ⟨_, rfl⟩
      rw [← hh]
      have hh1 : i ≤ h := by omega
      have hh2 : h < j := by omega
      clear hh
      rw [if_pos ha0, if_pos ha1, if_pos (by omega), if_pos (by omega)]
      obtain ⟨c, hc, hc'⟩ := cmp_eq (rd_T61 x m1) (rd_T61 x h) k (by omega)
      rw [hc]
      simp only [Option.bind_some]
      by_cases hcc : c < 0
      · rw [if_pos hcc]
        exact ih i h h1 hh1 (by omega) (by omega) h5 (Or.inr (hc'.1 hcc)) H k (by omega)
      · rw [if_neg hcc, wr (h + 1) (by omega) (by omega)]
        exact ih (h + 1) j (by omega) (by omega) h3 (by omega) (Or.inr (by rw [show h + 1 - 1 = h by omega]; exact fun e => hcc (hc'.2 e))) h6 H k (by omega)
    · obtain rfl : i = j := by omega
      rw [if_neg (by omega)]
      exact H i h1 h3 h5 h6 k (by omega)
theorem sym_l3 (p s : List S61) (d : S61) (st : Int) (n : Nat) : ∀ (C1 C2 : List S61) (x17 : Int), C1.length = n → st = p.length → x17 = p.length + C1.length → (p.length + C1.length + C2.length + s.length : Int) ≤ 990 → ∀ k, n + 1 ≤ k →
    api_Duty_126.l3 k (p ++ (C1 ++ d :: C2) ++ s) st x17 = some (p ++ (d :: (C1 ++ C2)) ++ s) := by
  induction n with
  | zero =>
    intro C1 C2 x17 hn h1 h2 hl k hk
    obtain rfl := List.length_eq_zero_iff.1 hn
    obtain ⟨k, rfl⟩ : ∃ m, k = m + 1 := ⟨k - 1, by omega⟩
    simp at h2
    simp only [api_Duty_126.l3]
    rw [if_neg (by omega)]
    simp
  | succ n ih =>
    intro C1 C2 x17 hn h1 h2 hl k hk
    obtain ⟨C1, y, rfl⟩ : ∃ u' y, C1 = u' ++ [y] := ⟨C1.dropLast, C1.getLast (by intro e; simp [e] at hn), by rw [List.dropLast_concat_getLast]⟩
    simp at hn h2 hl
    obtain ⟨k, rfl⟩ : ∃ m, k = m + 1 := ⟨k - 1, by omega⟩
    simp only [api_Duty_126.l3]
    have hL : ((p ++ (C1 ++ [y] ++ d :: C2) ++ s).length : Int) = p.length + C1.length + C2.length + s.length + 2 := by simp; omega
    have hx : p ++ (C1 ++ [y] ++ d :: C2) ++ s = (p ++ C1) ++ y :: (d :: C2 ++ s) := by simp
    have hx' : p ++ (C1 ++ [y] ++ d :: C2) ++ s = (p ++ C1 ++ [y]) ++ d :: (C2 ++ s) := by simp
    rw [if_pos (by omega), wr (x17 - 1) (by omega) (by omega), if_pos (by omega), if_pos (by rw [hL]; omega), if_pos (by omega), if_pos (by rw [hL]; omega)]
    have e1 : rd_T61 (p ++ (C1 ++ [y] ++ d :: C2) ++ s) x17 = d := rdT hx' (by simp; omega)
    have e2 : rd_T61 (p ++ (C1 ++ [y] ++ d :: C2) ++ s) (x17 - 1) = y := rdT hx (by simp; omega)
    rw [e1, e2, show (⟨y.f0, y.f1, y.f2, y.f3⟩ : S61) = y from rfl, show (⟨d.f0, d.f1, d.f2, d.f3⟩ : S61) = d from rfl]
    rw [set_at y hx' (show x17.toNat = (p ++ C1 ++ [y]).length by simp; omega)]
    rw [set_at (p := p ++ C1) (y := y) (s := y :: C2 ++ s) d (by simp) (show (x17 - 1).toNat = (p ++ C1).length by simp; omega)]
    have := ih C1 (y :: C2) (x17 - 1) (by omega) h1 (by omega) (by simp; omega) k (by omega)
    simpa using this
theorem sym_l4 (x : List S61) (x1 x2 x3 x18 x19 x22 : Int) (r : List S61) (lo hi : Int) (Kn : Nat) (hL : (x.length : Int) ≤ 1000) (h0 : 0 ≤ lo) (hh : hi ≤ x.length) (g0 : hi ≤ x22 + 1) (g1 : x22 - lo < x.length) (g2 : x22 ≤ 2000) (d : Nat) : ∀ (i j : Int), lo ≤ i → i ≤ j → j ≤ hi → j - i ≤ d →
    (i = lo ∨ ¬ DLt (rd_T61 x (x22 - (i - 1))) (rd_T61 x (i - 1))) → (j = hi ∨ DLt (rd_T61 x (x22 - j)) (rd_T61 x j)) →
    (∀ st, lo ≤ st → st ≤ hi → (st = lo ∨ ¬ DLt (rd_T61 x (x22 - (st - 1))) (rd_T61 x (st - 1))) → (st = hi ∨ DLt (rd_T61 x (x22 - st)) (rd_T61 x st)) → ∀ k, Kn ≤ k → (if st < x2 then (api_Duty_126.j6 k x x1 x2 x3 x18 st (wrap64 (x19 - st)) (decide (x2 < (wrap64 (x19 - st))))) else (api_Duty_126.j6 k x x1 x2 x3 x18 st (wrap64 (x19 - st)) false)) = some r) →
    ∀ k, Kn + d + 5 ≤ k → api_Duty_126.l4 k x x1 x2 x3 x18 x19 i j x22 = some r := by
  induction d with
  | zero =>
    intro i j h1 h2 h3 h4 h5 h6 H k hk
    obtain ⟨k, rfl⟩ : ∃ m, k = m + 1 := ⟨k - 1, by omega⟩
    obtain rfl : i = j := by omega
    simp only [api_Duty_126.l4]
    rw [if_neg (show ¬ i < i by omega)]
    exact H i h1 h3 h5 h6 k (by omega)
  | succ d ih =>
    intro i j h1 h2 h3 h4 h5 h6 H k hk
    obtain ⟨k, rfl⟩ : ∃ m, k = m + 1 := ⟨k - 1, by omega⟩
    simp only [api_Duty_126.l4]
    by_cases hlt : i < j
    · rw [if_pos hlt, half_eq i j (by omega) (by omega) (by omega) (by omega)]
      obtain ⟨h, hh⟩ : ∃ h, h = (i + j) / 2 := ⟨_, rfl⟩
      rw [← hh]
      have hh1 : i ≤ h := by omega
      have hh2 : h < j := by omega
      clear hh
      rw [wr (x22 - h) (by omega) (by omega), if_pos (by omega), if_pos (by omega), if_pos (by omega), if_pos (by omega)]
      obtain ⟨c, hc, hc'⟩ := cmp_eq (rd_T61 x (x22 - h)) (rd_T61 x h) k (by omega)
      rw [hc]
      simp only [Option.bind_some]
      by_cases hcc : c < 0
      · rw [if_pos hcc]
        exact ih i h h1 hh1 (by omega) (by omega) h5 (Or.inr (hc'.1 hcc)) H k (by omega)
      · rw [if_neg hcc, wr (h + 1) (by omega) (by omega)]
        exact ih (h + 1) j (by omega) (by omega) h3 (by omega) (Or.inr (by rw [show h + 1 - 1 = h by omega]; exact fun e => hcc (hc'.2 e))) h6 H k (by omega)
    · obtain rfl : i = j := by omega
      rw [if_neg (show ¬ i < i by omega)]
      exact H i h1 h3 h5 h6 k (by omega)
end Go.Proofs.YtpklljejiofnfaaDoor.PAll
namespace Go.Proofs.YtpklljejiofnfaaDoor.PAll
open Go.RowKit Go.Proofs.YtpklljejiofnfaaDoorW.PrintWords Go.Proofs.YtpklljejiofnfaaDoorW.PrintLast
open Go.Proofs.YtpklljejiofnfaaDoorW.PrintMore
open StableSort
theorem le_last {L : List S61} {y0 y : S61} (h : DSorted (L ++ [y0])) (hy : y ∈ L ++ [y0]) : DLe y y0 := by
  rcases List.mem_append.1 hy with hy | hy
  · exact (Sorted.of_append h).2.2 y hy y0 (by simp)
  · simp at hy
    subst hy
    exact Lt.irrefl y
theorem head_le {R : List S61} {z y : S61} (h : DSorted (z :: R)) (hy : y ∈ z :: R) : DLe z y := by
  rcases List.mem_cons.1 hy with rfl | hy
  · exact Lt.irrefl y
  · exact (List.pairwise_cons.1 h).1 y hy
theorem merge1 {B1 B2 : List S61} {d : S61} (h : DSorted (B1 ++ B2)) (h1 : ∀ y ∈ B1, DLt y d) (h2 : ∀ y ∈ B2, DLe d y) : B1 ++ [d] ++ B2 = dsrt ([d] ++ (B1 ++ B2)) := by
  have h' := Sorted.of_append h
  refine srt_unique ?_ ?_
  · refine Sorted.append (h'.1.append (Sorted.one d) ?_) h'.2.1 ?_
    · intro a ha b hb
      simp at hb
      subst hb
      exact (h1 a ha).le
    · intro a ha b hb
      rcases List.mem_append.1 ha with ha | ha
      · exact h'.2.2 a ha b hb
      · simp at ha
        subst ha
        exact h2 b hb
  · have : DSame ([d] ++ B1) (B1 ++ [d]) := Same.swap (fun a ha b hb => by simp at ha; subst ha; exact h1 b hb)
    have := this.right B2
    simpa using this
theorem merge2 {A1 A2 : List S61} {d : S61} (h : DSorted (A1 ++ A2)) (h1 : ∀ y ∈ A1, DLe y d) (h2 : ∀ y ∈ A2, DLt d y) : A1 ++ d :: A2 = dsrt (A1 ++ A2 ++ [d]) := by
  have h' := Sorted.of_append h
  refine srt_unique ?_ ?_
  · refine Sorted.append h'.1 ((Sorted.one d).append h'.2.1 ?_) ?_
    · intro a ha b hb
      simp at ha
      subst ha
      exact (h2 b hb).le
    · intro a ha b hb
      rcases List.mem_cons.1 hb with rfl | hb
      · exact h1 a ha
      · exact h'.2.2 a ha b hb
  · have : DSame (A2 ++ [d]) ([d] ++ A2) := Same.swap (fun a ha b hb => by simp at hb; subst hb; exact h2 a ha)
    have := this.left A1
    simpa using this
theorem merge3 {A1 A2 B1 B2 : List S61} (hA : DSorted (A1 ++ A2)) (hB : DSorted (B1 ++ B2)) (h1 : ∀ a ∈ A1, ∀ b ∈ B2, DLe a b) (h2 : ∀ a ∈ A2, ∀ b ∈ B1, DLt b a) : dsrt (A1 ++ B1) ++ dsrt (A2 ++ B2) = dsrt ((A1 ++ A2) ++ (B1 ++ B2)) := by
  have hA' := Sorted.of_append hA
  have hB' := Sorted.of_append hB
  refine srt_unique ?_ ?_
  · refine Sorted.append (srt_spec _).1 (srt_spec _).1 ?_
    intro a ha b hb
    rw [srt_mem] at ha hb
    rcases List.mem_append.1 ha with ha | ha <;> rcases List.mem_append.1 hb with hb | hb
    · exact hA'.2.2 a ha b hb
    · exact h1 a ha b hb
    · exact (h2 b hb a ha).le
    · exact hB'.2.2 a ha b hb
  · have e1 : DSame (A2 ++ B1) (B1 ++ A2) := Same.swap h2
    have e2 := (e1.right B2).left A1
    have e3 : DSame ((A1 ++ A2) ++ (B1 ++ B2)) ((A1 ++ B1) ++ (A2 ++ B2)) := by simpa using e2
    exact e3.trans ((srt_spec (A1 ++ B1)).2.append (srt_spec (A2 ++ B2)).2)
theorem split_at (l : List S61) (n : Nat) (h : n ≤ l.length) : ∃ u v, l = u ++ v ∧ u.length = n ∧ v.length = l.length - n := ⟨l.take n, l.drop n, (List.take_append_drop _ _).symm, by rw [List.length_take]; omega, by rw [List.length_drop]⟩
theorem snoc_of {l : List S61} (h : l ≠ []) : ∃ u y, l = u ++ [y] := ⟨l.dropLast, l.getLast h, by rw [List.dropLast_concat_getLast]⟩
theorem sym_a (p B s : List S61) (d : S61) (a m b : Int) (hB : DSorted B) (ha : a = p.length) (hm : m = p.length + 1) (hb : b = p.length + 1 + B.length) (hl : (p.length + 1 + B.length + s.length : Int) ≤ 980) (k : Nat) (hk : 3000 ≤ k) :
    api_Duty_126.l0 k (p ++ [d] ++ B ++ s) a m b = some (p ++ dsrt ([d] ++ B) ++ s) := by
  have hL : ((p ++ [d] ++ B ++ s).length : Int) = p.length + 1 + B.length + s.length := by simp; omega
  have hd : rd_T61 (p ++ [d] ++ B ++ s) a = d := rdT (p := p) (s := B ++ s) (by simp) ha
  refine sym_l0 (p ++ [d] ++ B ++ s) a _ m b 0 1500 (by rw [hL]; omega) (by omega) (by rw [hL]; omega) (by omega) (by rw [hL]; omega) B.length m b (by omega) (by omega) (by omega) (by omega) (Or.inl rfl) (Or.inl rfl) ?_ k (by omega)
  intro st h1 h2 h3 h4 k hk
  obtain ⟨B1, B2, rfl, e1, e2⟩ := split_at B (st - m).toNat (by omega)
  simp only [List.length_append] at hb hl e2
  rw [hd] at h3 h4
  have hB1 : ∀ y ∈ B1, DLt y d := by
    by_cases hn : B1 = []
    · subst hn
      intro y hy
      cases hy
    · obtain ⟨L, y0, rfl⟩ := snoc_of hn
      simp at e1 e2 hb
      rcases h3 with h3 | h3
      · omega
      · rw [rdT (p := p ++ [d] ++ L) (s := B2 ++ s) (d := y0) (by simp) (by simp; omega)] at h3
        intro y hy
        exact (le_last (Sorted.of_append hB).1 hy).trans_lt h3
  have hB2 : ∀ y ∈ B2, DLe d y := by
    cases B2 with
    | nil => intro y hy; cases hy
    | cons z R =>
      simp at e1 e2 hb
      rcases h4 with h4 | h4
      · omega
      · rw [rdT (p := p ++ [d] ++ B1) (s := R ++ s) (d := z) (by simp) (by simp; omega)] at h4
        intro y hy
        have h5 : DLe d z := h4
        exact h5.trans (head_le (Sorted.of_append hB).2.1 hy)
  have := sym_l1 p (B2 ++ s) d st B1 [] a (by simp; omega) (by simp; omega) (by simp; omega) k (by omega)
  rw [← merge1 hB hB1 hB2, ha]
  rw [ha] at this
  simpa using this
theorem sym_b (p A s : List S61) (d : S61) (a m b : Int) (hA : DSorted A) (ha : a = p.length) (hm : m = p.length + A.length) (hl : (p.length + A.length + 1 + s.length : Int) ≤ 980) (k : Nat) (hk : 3000 ≤ k) :
    api_Duty_126.l2 k (p ++ A ++ [d] ++ s) m a m = some (p ++ dsrt (A ++ [d]) ++ s) := by
  have hL : ((p ++ A ++ [d] ++ s).length : Int) = p.length + A.length + 1 + s.length := by simp; omega
  have hd : rd_T61 (p ++ A ++ [d] ++ s) m = d := rdT (p := p ++ A) (s := s) (by simp) (by simp; omega)
  refine sym_l2 (p ++ A ++ [d] ++ s) m _ a m 1500 (by rw [hL]; omega) (by omega) (by rw [hL]; omega) (by omega) (by rw [hL]; omega) A.length a m (by omega) (by omega) (by omega) (by omega) (Or.inl rfl) (Or.inl rfl) ?_ k (by omega)
  intro st h1 h2 h3 h4 k hk
  obtain ⟨A1, A2, rfl, e1, e2⟩ := split_at A (st - a).toNat (by omega)
  simp only [List.length_append] at hm hl e2
  rw [hd] at h3 h4
  have hA1 : ∀ y ∈ A1, DLe y d := by
    by_cases hn : A1 = []
    · subst hn
      intro y hy
      cases hy
    · obtain ⟨L, y0, rfl⟩ := snoc_of hn
      simp at e1 e2 hm
      rcases h3 with h3 | h3
      · omega
      · rw [rdT (p := p ++ L) (s := A2 ++ [d] ++ s) (d := y0) (by simp) (by simp; omega)] at h3
        intro y hy
        have h5 : DLe y0 d := h3
        exact (le_last (Sorted.of_append hA).1 hy).trans h5
  have hA2 : ∀ y ∈ A2, DLt d y := by
    cases A2 with
    | nil => intro y hy; cases hy
    | cons z R =>
      simp at e1 e2 hm
      rcases h4 with h4 | h4
      · omega
      · rw [rdT (p := p ++ A1) (s := R ++ [d] ++ s) (d := z) (by simp) (by simp; omega)] at h4
        intro y hy
        exact h4.trans_le (head_le (Sorted.of_append hA).2.1 hy)
  have := sym_l3 (p ++ A1) s d st A2.length A2 [] m rfl (by simp; omega) (by simp; omega) (by simp; omega) k (by omega)
  rw [← merge2 hA hA1 hA2]
  simpa using this
end Go.Proofs.YtpklljejiofnfaaDoor.PAll
namespace Go.Proofs.YtpklljejiofnfaaDoor.PAll
open Go.RowKit Go.Proofs.YtpklljejiofnfaaDoorW.PrintWords Go.Proofs.YtpklljejiofnfaaDoorW.PrintLast
open Go.Proofs.YtpklljejiofnfaaDoorW.PrintMore
open StableSort
theorem dsrt_id {l : List S61} (h : DSorted l) : dsrt l = l := srt_id h
/-- symMergeCmpFunc. -/
theorem symMerge_eq (N : Nat) : ∀ (p A B s : List S61) (a m b : Int), A.length + B.length ≤ N → A ≠ [] → B ≠ [] → DSorted A → DSorted B → a = p.length → m = p.length + A.length → b = p.length + A.length + B.length →
    (p.length + A.length + B.length + s.length : Int) ≤ 980 → ∀ k, 8000 * N + 1 ≤ k → api_Duty_126.f k (p ++ A ++ B ++ s) a m b = some (p ++ dsrt (A ++ B) ++ s) := by
  induction N with
  | zero =>
    intro p A B s a m b hN hA
    exact absurd (List.length_eq_zero_iff.1 (by omega)) hA
  | succ N ih =>
    intro p A B s a m b hN hA hB hsA hsB ha hm hb hl k hk
    have hA' : 0 < A.length := List.length_pos_iff.2 hA
    have hB' : 0 < B.length := List.length_pos_iff.2 hB
    obtain ⟨k, rfl⟩ : ∃ m, k = m + 1 := ⟨k - 1, by omega⟩
    have hk1 : 8000 * N + 8000 ≤ k := by omega
    clear hk
    simp only [api_Duty_126.f]
    rw [wr (m - a) (by omega) (by omega), wr (b - m) (by omega) (by omega)]
    by_cases c1 : m - a = 1
    · rw [if_pos c1]
      obtain ⟨d, rfl⟩ : ∃ d, A = [d] := List.length_eq_one_iff.1 (by omega)
      simp only [List.length_cons, List.length_nil] at hm hb hl
      exact sym_a p B s d a m b hsB ha (by omega) (by omega) (by omega) k (by omega)
    · rw [if_neg c1]
      by_cases c2 : b - m = 1
      · rw [if_pos c2]
        obtain ⟨d, rfl⟩ : ∃ d, B = [d] := List.length_eq_one_iff.1 (by omega)
        simp only [List.length_cons, List.length_nil] at hb hl
        exact sym_b p A s d a m b hsA ha hm (by omega) k (by omega)
      · rw [if_neg c2, half_eq a b (by omega) (by omega) (by omega) (by omega)]
        obtain ⟨mid, hmid⟩ : ∃ mid, mid = (a + b) / 2 := ⟨_, rfl⟩
        rw [← hmid]
        have g1 : 2 * mid ≤ a + b := by omega
        have g2 : a + b ≤ 2 * mid + 1 := by omega
        clear hmid
        rw [wr (mid + m) (by omega) (by omega), wr (mid + m - b) (by omega) (by omega)]
        have hL : ((p ++ A ++ B ++ s).length : Int) = p.length + A.length + B.length + s.length := by simp; omega
        -- behind the search
        have key : ∀ (lo hi st : Int), (lo = a ∨ lo = mid + m - b ∧ a ≤ lo) → (hi = mid ∨ hi = m) → hi ≤ mid → hi ≤ m → lo ≤ st → st ≤ hi → (st = lo ∨ ¬ DLt (rd_T61 (p ++ A ++ B ++ s) (mid + m - 1 - (st - 1))) (rd_T61 (p ++ A ++ B ++ s) (st - 1))) → (st = hi ∨ DLt (rd_T61 (p ++ A ++ B ++ s) (mid + m - 1 - st)) (rd_T61 (p ++ A ++ B ++ s) st)) → mid + m - st ≤ b → ∀ k, 8000 * N + 4000 ≤ k →
            (if st < m then (api_Duty_126.j6 k (p ++ A ++ B ++ s) a m b mid st (wrap64 (mid + m - st)) (decide (m < (wrap64 (mid + m - st))))) else (api_Duty_126.j6 k (p ++ A ++ B ++ s) a m b mid st (wrap64 (mid + m - st)) false)) = some (p ++ dsrt (A ++ B) ++ s) := by
          intro lo hi st q1 q2 q3 q4 q5 q6 q7 q8 q9 k hk
          obtain ⟨A1, A2, rfl, e1, e2⟩ := split_at A (st - a).toNat (by omega)
          obtain ⟨B1, B2, rfl, e3, e4⟩ := split_at B (mid - st).toNat (by omega)
          simp only [List.length_append] at hN hA' hB' hm hb hl e2 e4
          have hA1B2 : ∀ x ∈ A1, ∀ y ∈ B2, DLe x y := by
            by_cases hn : A1 = []
            · subst hn
              intro x hx
              cases hx
            · obtain ⟨L, y0, rfl⟩ := snoc_of hn
              cases B2 with
              | nil => intro x _ y hy; cases hy
              | cons z R =>
                simp at e1 e2 e3 e4 hm hb
                rcases q7 with q7 | q7
                · omega
                · rw [rdT (i := st - 1) (p := p ++ L) (s := A2 ++ (B1 ++ z :: R) ++ s) (d := y0) (by simp) (by simp; omega), rdT (i := mid + m - 1 - (st - 1)) (p := p ++ (L ++ [y0]) ++ A2 ++ B1) (s := R ++ s) (d := z) (by simp) (by simp; omega)] at q7
                  intro x hx y hy
                  have q8 : DLe y0 z := q7
                  exact ((le_last (Sorted.of_append hsA).1 hx).trans q8).trans (head_le (Sorted.of_append hsB).2.1 hy)
          have hA2B1 : ∀ x ∈ A2, ∀ y ∈ B1, DLt y x := by
            by_cases hn : B1 = []
            · subst hn
              intro x _ y hy
              cases hy
            · obtain ⟨L, y0, rfl⟩ := snoc_of hn
              cases A2 with
              | nil => intro x hx; cases hx
              | cons z R =>
                simp at e1 e2 e3 e4 hm hb
                rcases q8 with q8 | q8
                · omega
                · rw [rdT (i := mid + m - 1 - st) (p := p ++ A1 ++ z :: R ++ L) (s := B2 ++ s) (d := y0) (by simp) (by simp; omega), rdT (i := st) (p := p ++ A1) (s := R ++ (L ++ [y0] ++ B2) ++ s) (d := z) (by simp) (by simp; omega)] at q8
                  intro x hx y hy
                  exact (Le.trans_lt (le_last (Sorted.of_append hsB).1 hy) q8).trans_le (head_le (Sorted.of_append hsA).2.1 hx)
          rw [wr (mid + m - st) (by omega) (by omega)]
          -- what j7 does
          have h7 : ∀ k, 8000 * N + 3000 ≤ k → api_Duty_126.j7 k (p ++ A1 ++ B1 ++ A2 ++ B2 ++ s) a b mid st (mid + m - st) = some (p ++ dsrt (A1 ++ A2 ++ (B1 ++ B2)) ++ s) := by
            intro k hk
            have h8 : ∀ (f : Bool), (f = true ↔ (A1 ≠ [] ∧ B1 ≠ [])) → ∀ k, 8000 * N + 2000 ≤ k → api_Duty_126.j8 k (p ++ A1 ++ B1 ++ A2 ++ B2 ++ s) a b mid st (mid + m - st) f = some (p ++ dsrt (A1 ++ A2 ++ (B1 ++ B2)) ++ s) := by
              intro f hf k hk
              obtain ⟨k, rfl⟩ : ∃ m, k = m + 1 := ⟨k - 1, by omega⟩
              rw [← merge3 hsA hsB hA1B2 hA2B1]
              have hlen : ((dsrt (A1 ++ B1)).length : Int) = A1.length + B1.length := by rw [srt_length]; simp
              -- the right half
              have hR : (if mid < mid + m - st then (if mid + m - st < b then ((api_Duty_126.f k (p ++ dsrt (A1 ++ B1) ++ A2 ++ B2 ++ s) mid (mid + m - st) b).bind fun t => (some t)) else some (p ++ dsrt (A1 ++ B1) ++ A2 ++ B2 ++ s)) else some (p ++ dsrt (A1 ++ B1) ++ A2 ++ B2 ++ s)) = some (p ++ (dsrt (A1 ++ B1) ++ dsrt (A2 ++ B2)) ++ s) := by
                by_cases r1 : mid < mid + m - st
                · rw [if_pos r1]
                  have hn2 : A2 ≠ [] := by
                    intro e
                    have := List.length_eq_zero_iff.2 e
                    omega
                  by_cases r2 : mid + m - st < b
                  · rw [if_pos r2]
                    have hn3 : B2 ≠ [] := by
                      intro e
                      have := List.length_eq_zero_iff.2 e
                      omega
                    have := ih (p ++ dsrt (A1 ++ B1)) A2 B2 s mid (mid + m - st) b (by omega) hn2 hn3 (Sorted.of_append hsA).2.1 (Sorted.of_append hsB).2.1 (by rw [List.length_append]; omega) (by rw [List.length_append]; omega) (by rw [List.length_append]; omega) (by rw [List.length_append]; omega) k (by omega)
                    rw [this]
                    simp
                  · rw [if_neg r2]
                    obtain rfl : B2 = [] := List.length_eq_zero_iff.1 (by omega)
                    simp only [List.append_nil]
                    rw [dsrt_id (Sorted.of_append hsA).2.1]
                    simp
                · rw [if_neg r1]
                  obtain rfl : A2 = [] := List.length_eq_zero_iff.1 (by omega)
                  rw [List.nil_append, dsrt_id (Sorted.of_append hsB).2.1]
                  simp
              simp only [api_Duty_126.j8]
              by_cases hff : f = true
              · rw [if_pos hff]
                obtain ⟨n1, n2⟩ := hf.1 hff
                have := ih p A1 B1 (A2 ++ B2 ++ s) a st mid (by omega) n1 n2 (Sorted.of_append hsA).1 (Sorted.of_append hsB).1 ha (by omega) (by omega) (by simp; omega) k (by omega)
                rw [show p ++ A1 ++ B1 ++ A2 ++ B2 ++ s = p ++ A1 ++ B1 ++ (A2 ++ B2 ++ s) by simp, this]
                simp only [Option.bind_some]
                rw [show p ++ dsrt (A1 ++ B1) ++ (A2 ++ B2 ++ s) = p ++ dsrt (A1 ++ B1) ++ A2 ++ B2 ++ s by simp]
                exact hR
              · rw [if_neg hff]
                have hid : A1 ++ B1 = dsrt (A1 ++ B1) := by
                  by_cases n1 : A1 = []
                  · subst n1
                    rw [List.nil_append, dsrt_id (Sorted.of_append hsB).1]
                  · have n2 : B1 = [] := by
                      apply Classical.byContradiction
                      intro n2
                      exact hff (hf.2 ⟨n1, n2⟩)
                    subst n2
                    rw [List.append_nil, dsrt_id (Sorted.of_append hsA).1]
                rw [show p ++ A1 ++ B1 ++ A2 ++ B2 ++ s = p ++ dsrt (A1 ++ B1) ++ A2 ++ B2 ++ s by rw [← hid]; simp]
                exact hR
            obtain ⟨k, rfl⟩ : ∃ m, k = m + 1 := ⟨k - 1, by omega⟩
            simp only [api_Duty_126.j7]
            by_cases r1 : a < st
            · rw [if_pos r1]
              refine h8 _ ?_ k (by omega)
              rw [decide_eq_true_eq, ← List.length_pos_iff, ← List.length_pos_iff]
              omega
            · rw [if_neg r1]
              refine h8 _ ?_ k (by omega)
              rw [← List.length_pos_iff, ← List.length_pos_iff]
              constructor
              · intro h
                cases h
              · omega
          have h6 : ∀ (f : Bool), (f = true ↔ (A2 ≠ [] ∧ B1 ≠ [])) → api_Duty_126.j6 k (p ++ (A1 ++ A2) ++ (B1 ++ B2) ++ s) a m b mid st (mid + m - st) f = some (p ++ dsrt (A1 ++ A2 ++ (B1 ++ B2)) ++ s) := by
            intro f hf
            obtain ⟨k, rfl⟩ : ∃ m, k = m + 1 := ⟨k - 1, by omega⟩
            simp only [api_Duty_126.j6]
            by_cases hff : f = true
            · rw [if_pos hff]
              obtain ⟨n1, n2⟩ := hf.1 hff
              have := rotate_eq st m (mid + m - st) (p ++ A1) A2 B1 (B2 ++ s) (by simp; omega) (by simp; omega) (by simp; omega) n1 n2 (by simp; omega) k (by omega)
              rw [show p ++ (A1 ++ A2) ++ (B1 ++ B2) ++ s = p ++ A1 ++ A2 ++ B1 ++ (B2 ++ s) by simp, this]
              simp only [Option.bind_some]
              rw [show p ++ A1 ++ B1 ++ A2 ++ (B2 ++ s) = p ++ A1 ++ B1 ++ A2 ++ B2 ++ s by simp]
              exact h7 k (by omega)
            · rw [if_neg hff]
              have hsw : A2 ++ B1 = B1 ++ A2 := by
                by_cases n1 : A2 = []
                · subst n1
                  simp
                · have n2 : B1 = [] := by
                    apply Classical.byContradiction
                    intro n2
                    exact hff (hf.2 ⟨n1, n2⟩)
                  subst n2
                  simp
              rw [show p ++ (A1 ++ A2) ++ (B1 ++ B2) ++ s = p ++ A1 ++ (A2 ++ B1) ++ B2 ++ s by simp, hsw, show p ++ A1 ++ (B1 ++ A2) ++ B2 ++ s = p ++ A1 ++ B1 ++ A2 ++ B2 ++ s by simp]
              exact h7 k (by omega)
          by_cases r1 : st < m
          · rw [if_pos r1]
            refine h6 _ ?_
            rw [decide_eq_true_eq, ← List.length_pos_iff, ← List.length_pos_iff]
            omega
          · rw [if_neg r1]
            refine h6 _ ?_
            rw [← List.length_pos_iff, ← List.length_pos_iff]
            constructor
            · intro h
              cases h
            · omega
        by_cases c3 : m > mid
        · rw [if_pos c3]
          obtain ⟨k, rfl⟩ : ∃ m, k = m + 1 := ⟨k - 1, by omega⟩
          simp only [api_Duty_126.j4]
          rw [wr (mid + m - 1) (by omega) (by omega)]
          exact sym_l4 (p ++ A ++ B ++ s) a m b mid (mid + m) (mid + m - 1) _ (mid + m - b) mid (8000 * N + 4000) (by rw [hL]; omega) (by omega) (by rw [hL]; omega) (by omega) (by rw [hL]; omega) (by omega) 1000 _ _ (by omega) (by omega) (by omega) (by omega) (Or.inl rfl) (Or.inl rfl)
            (fun st h1 h2 h3 h4 k hk => key (mid + m - b) mid st (Or.inr ⟨rfl, by omega⟩) (Or.inl rfl) (by omega) (by omega) h1 h2 h3 h4 (by omega) k hk) k (by omega)
        · rw [if_neg c3]
          obtain ⟨k, rfl⟩ : ∃ m, k = m + 1 := ⟨k - 1, by omega⟩
          simp only [api_Duty_126.j4]
          rw [wr (mid + m - 1) (by omega) (by omega)]
          exact sym_l4 (p ++ A ++ B ++ s) a m b mid (mid + m) (mid + m - 1) _ a m (8000 * N + 4000) (by rw [hL]; omega) (by omega) (by rw [hL]; omega) (by omega) (by rw [hL]; omega) (by omega) 1000 _ _ (by omega) (by omega) (by omega) (by omega) (Or.inl rfl) (Or.inl rfl)
            (fun st h1 h2 h3 h4 k hk => key a m st (Or.inl rfl) (Or.inr rfl) (by omega) (by omega) h1 h2 h3 h4 (by omega) k hk) k (by omega)
end Go.Proofs.YtpklljejiofnfaaDoor.PAll
namespace Go.Proofs.YtpklljejiofnfaaDoor.PAll
open Go.RowKit Go.Proofs.YtpklljejiofnfaaDoorW.PrintWords Go.Proofs.YtpklljejiofnfaaDoorW.PrintLast
open Go.Proofs.YtpklljejiofnfaaDoorW.PrintMore
open StableSort
def Full (bs : Nat) (bl : List (List S61)) : Prop := ∀ c ∈ bl, c.length = bs ∧ DSorted c
def Blk (bs : Nat) (l : List S61) : Prop := ∃ bl last, l = bl.flatten ++ last ∧ Full bs bl ∧ last.length ≤ bs ∧ DSorted last
theorem Full.length {bs : Nat} {bl : List (List S61)} (h : Full bs bl) : bl.flatten.length = bl.length * bs := by
  induction bl with
  | nil => simp
  | cons c bl ih =>
    rw [List.flatten_cons, List.length_append, ih (fun c hc => h c (List.mem_cons_of_mem _ hc)), (h c List.mem_cons_self).1, List.length_cons, Nat.succ_mul]
    omega
theorem Full.snoc {bs : Nat} {bl : List (List S61)} (h : Full bs bl) {c : List S61} (h1 : c.length = bs) (h2 : DSorted c) : Full bs (bl ++ [c]) := by
  intro d hd
  rcases List.mem_append.1 hd with hd | hd
  · exact h d hd
  · simp at hd
    subst hd
    exact ⟨h1, h2⟩
theorem Blk.sorted {bs : Nat} {l : List S61} (h : Blk bs l) (hb : l.length ≤ bs) (h0 : 0 < bs) : DSorted l := by
  obtain ⟨bl, last, rfl, hf, hl, hs⟩ := h
  rw [List.length_append, hf.length] at hb
  cases bl with
  | nil => simpa using hs
  | cons c bl =>
    rw [List.length_cons, Nat.succ_mul] at hb
    have h1 : last.length = 0 := by omega
    obtain rfl := List.length_eq_zero_iff.1 h1
    have h2 : bl.length = 0 := by
      rcases Nat.eq_zero_or_pos bl.length with h | h
      · exact h
      · have := Nat.mul_le_mul h (Nat.le_refl bs)
        omega
    obtain rfl := List.length_eq_zero_iff.1 h2
    simpa using (hf c List.mem_cons_self).2
theorem stable_l2 (n bs : Nat) (Kn T : Nat) (r : List S61) (hn : n ≤ 900) (hb0 : 0 < bs) (hb1 : bs ≤ 1800) (hT : ∀ N, N ≤ 1000 → 8000 * N + 1 ≤ T) (N : Nat) : ∀ (bl bd : List (List S61)) (last : List S61) (a b : Int), bl.length ≤ N → Full bs bl → last.length ≤ bs → DSorted last → Full (2 * bs) bd →
    a = bd.flatten.length → b = a + 2 * bs → n = bd.flatten.length + bl.flatten.length + last.length →
    (∀ x', Blk (2 * bs) x' → DSame (bd.flatten ++ bl.flatten ++ last) x' → ∀ k, Kn ≤ k → api_Duty_118.l1 k x' n (2 * bs) = some r) →
    ∀ k, Kn + T + N + 10 ≤ k → api_Duty_118.l2 k (bd.flatten ++ bl.flatten ++ last) n bs a b = some r := by
  induction N using Nat.strongRecOn with
  | _ N ih =>
  intro bl bd last a b hN hf hl hs hd ha hb hlen H k hk
  obtain ⟨k, rfl⟩ : ∃ m, k = m + 1 := ⟨k - 1, by omega⟩
  simp only [api_Duty_118.l2]
  rw [wr (2 * bs) (by omega) (by omega), wr (a + bs) (by omega) (by omega), wr (bs * 2) (by omega) (by omega), show (bs : Int) * 2 = 2 * bs by omega]
  cases bl with
  | nil =>
    simp only [List.flatten_nil, List.length_nil] at hlen
    rw [if_neg (by omega), if_neg (by omega)]
    refine H _ ⟨bd, last, by simp, hd, by omega, hs⟩ (Same.refl _) k (by omega)
  | cons A bl =>
    simp only [List.length_cons] at hN
    have hA := hf A List.mem_cons_self
    cases bl with
    | nil =>
      simp only [List.length_nil] at hN
      simp only [List.flatten_cons, List.flatten_nil, List.append_nil] at hlen ⊢
      have hres : ∀ x', x' = bd.flatten ++ dsrt (A ++ last) → Blk (2 * bs) x' ∧ DSame (bd.flatten ++ A ++ last) x' := by
        rintro x' rfl
        refine ⟨⟨bd, _, rfl, hd, by rw [srt_length, List.length_append]; omega, (srt_spec _).1⟩, ?_⟩
        have := (srt_spec (k0 := S61.f0) (k1 := S61.f1) (A ++ last)).2.left bd.flatten
        simpa using this
      by_cases hle : b ≤ n
      · rw [if_pos hle]
        have hne : last ≠ [] := by
          intro e
          have := List.length_eq_zero_iff.2 e
          omega
        have hneA : A ≠ [] := by
          intro e
          have := List.length_eq_zero_iff.2 e
          omega
        have := symMerge_eq (A.length + last.length) bd.flatten A last [] a (a + bs) b (Nat.le_refl _) hneA hne hA.2 hs ha (by omega) (by omega) (by simp only [List.length_append, List.length_cons, List.length_nil, List.flatten_append, List.flatten_cons, List.flatten_nil, List.append_nil, List.nil_append]; omega) k (by have := hT (A.length + last.length) (by omega); omega)
        simp only [List.append_nil] at this
        rw [this]
        simp only [Option.bind_some]
        rw [wr (b + 2 * bs) (by omega) (by omega)]
        have hlen2 : (dsrt (A ++ last)).length = 2 * bs := by rw [srt_length, List.length_append]; omega
        have := ih 0 (by omega) [] (bd ++ [dsrt (A ++ last)]) [] b (b + 2 * bs) (by simp) (by intro c hc; cases hc) (by simp) Sorted.nil (hd.snoc hlen2 (srt_spec _).1) (by simp only [List.length_append, List.length_cons, List.length_nil, List.flatten_append, List.flatten_cons, List.flatten_nil, List.append_nil, List.nil_append, hlen2]; omega) rfl (by simp only [List.length_append, List.length_cons, List.length_nil, List.flatten_append, List.flatten_cons, List.flatten_nil, List.append_nil, List.nil_append, hlen2]; omega) ?_ k (by omega)
        · simpa using this
        · intro x' hx hsm k hk
          refine H x' hx ?_ k hk
          have h1 := (hres _ rfl).2
          simp only [List.flatten_cons, List.flatten_nil, List.append_nil]
          exact h1.trans (by simpa using hsm)
      · rw [if_neg hle]
        by_cases hm : a + bs < n
        · rw [if_pos hm]
          have hne : last ≠ [] := by
            intro e
            have := List.length_eq_zero_iff.2 e
            omega
          have hneA : A ≠ [] := by
            intro e
            have := List.length_eq_zero_iff.2 e
            omega
          have := symMerge_eq (A.length + last.length) bd.flatten A last [] a (a + bs) n (Nat.le_refl _) hneA hne hA.2 hs ha (by omega) (by omega) (by simp only [List.length_append, List.length_cons, List.length_nil, List.flatten_append, List.flatten_cons, List.flatten_nil, List.append_nil, List.nil_append]; omega) k (by have := hT (A.length + last.length) (by omega); omega)
          simp only [List.append_nil] at this
          rw [this]
          simp only [Option.bind_some]
          refine H _ (hres _ rfl).1 ?_ k (by omega)
          simp only [List.flatten_cons, List.flatten_nil, List.append_nil]
          exact (hres _ rfl).2
        · rw [if_neg hm]
          obtain rfl : last = [] := List.length_eq_zero_iff.1 (by omega)
          refine H _ ⟨bd, A, by simp, hd, by omega, hA.2⟩ ?_ k (by omega)
          simp only [List.flatten_cons, List.flatten_nil, List.append_nil]
          exact Same.refl _
    | cons B bl =>
      simp only [List.length_cons] at hN
      have hB := hf B (List.mem_cons_of_mem _ List.mem_cons_self)
      simp only [List.flatten_cons, List.length_append] at hlen
      rw [if_pos (by omega)]
      have hneA : A ≠ [] := by
        intro e
        have := List.length_eq_zero_iff.2 e
        omega
      have hneB : B ≠ [] := by
        intro e
        have := List.length_eq_zero_iff.2 e
        omega
      have := symMerge_eq (A.length + B.length) bd.flatten A B (bl.flatten ++ last) a (a + bs) b (Nat.le_refl _) hneA hneB hA.2 hB.2 ha (by omega) (by omega) (by simp only [List.length_append, List.length_cons, List.length_nil, List.flatten_append, List.flatten_cons, List.flatten_nil, List.append_nil, List.nil_append]; omega) k (by have := hT (A.length + B.length) (by omega); omega)
      rw [show bd.flatten ++ (A :: B :: bl).flatten ++ last = bd.flatten ++ A ++ B ++ (bl.flatten ++ last) by simp, this]
      simp only [Option.bind_some]
      rw [wr (b + 2 * bs) (by omega) (by omega)]
      have hlen2 : (dsrt (A ++ B)).length = 2 * bs := by rw [srt_length, List.length_append]; omega
      have := ih (N - 2) (by omega) bl (bd ++ [dsrt (A ++ B)]) last b (b + 2 * bs) (by omega) (fun c hc => hf c (List.mem_cons_of_mem _ (List.mem_cons_of_mem _ hc))) hl hs (hd.snoc hlen2 (srt_spec _).1) (by simp only [List.length_append, List.length_cons, List.length_nil, List.flatten_append, List.flatten_cons, List.flatten_nil, List.append_nil, List.nil_append, hlen2]; omega) rfl (by simp only [List.length_append, List.length_cons, List.length_nil, List.flatten_append, List.flatten_cons, List.flatten_nil, List.append_nil, List.nil_append, hlen2]; omega) ?_ k (by omega)
      · simpa using this
      · intro x' hx hsm k hk
        refine H x' hx ?_ k hk
        have h1 := ((srt_spec (k0 := S61.f0) (k1 := S61.f1) (A ++ B)).2.left bd.flatten).right (bl.flatten ++ last)
        refine Same.trans (by simpa using h1) (by simpa using hsm)
set_option maxRecDepth 100000 in
theorem stable_l1 (n : Nat) (T : Nat) (r : List S61) (hn : n ≤ 900) (hT : ∀ N, N ≤ 1000 → 8000 * N + 1 ≤ T) (M : Nat) : ∀ (x : List S61) (bs : Nat), n ≤ bs * 2 ^ M → x.length = n → Blk bs x → 0 < bs → bs ≤ 1800 → dsrt x = r →
    ∀ k, (M + 1) * (T + 2000) ≤ k → api_Duty_118.l1 k x n bs = some r := by
  induction M with
  | zero =>
    intro x bs hM hx hB hb0 hb1 hr k hk
    rw [Nat.pow_zero, Nat.mul_one] at hM
    obtain ⟨k, rfl⟩ : ∃ m, k = m + 1 := ⟨k - 1, by omega⟩
    simp only [api_Duty_118.l1]
    rw [if_neg (by omega), ← hr, dsrt_id (hB.sorted (by omega) hb0)]
  | succ M ih =>
    intro x bs hM hx hB hb0 hb1 hr k hk
    rw [Nat.succ_mul] at hk
    obtain ⟨Z, hZ⟩ : ∃ Z, Z = (M + 1) * (T + 2000) := ⟨_, rfl⟩
    rw [← hZ] at hk
    have HZ := Aside0.mk hZ
    clear hZ
    have HM := Aside0.mk hM
    clear hM
    obtain ⟨k, rfl⟩ : ∃ m, k = m + 1 := ⟨k - 1, by omega⟩
    have hk2 : Z + T + 900 + 10 ≤ k := by omega
    clear hk
    simp only [api_Duty_118.l1]
    by_cases hlt : (bs : Int) < n
    · rw [if_pos hlt, wr (2 * bs) (by omega) (by omega)]
      obtain ⟨bl, last, rfl, hf, hl, hs⟩ := hB
      rw [List.length_append] at hx
      have hbl : bl.length ≤ 900 := by
        have h1 := hf.length
        have h2 : bl.length * 1 ≤ bl.length * bs := Nat.mul_le_mul (Nat.le_refl _) hb0
        omega
      have := stable_l2 n bs Z T r hn hb0 hb1 hT 900 bl [] last 0 (2 * bs) hbl hf hl hs (by intro c hc; cases hc) rfl (by omega) (by simp only [List.length_append, List.length_cons, List.length_nil, List.flatten_append, List.flatten_cons, List.flatten_nil, List.append_nil, List.nil_append]; omega) ?_ k hk2
      · simpa using this
      · intro x' hx' hsm k hk
        simp only [List.flatten_nil, List.nil_append] at hsm
        have h3 := ih x' (2 * bs) (by have hM := HM.out; rw [Nat.pow_succ, Nat.mul_comm (2 ^ M) 2, ← Nat.mul_assoc, Nat.mul_comm bs 2] at hM; exact hM) (by rw [← hsm.length, List.length_append]; exact hx) hx' (by omega) (by omega) ((srt_same hsm).symm.trans hr) k (by rw [← HZ.out]; exact hk)
        simpa using h3
    · rw [if_neg hlt, ← hr, dsrt_id (hB.sorted (by omega) hb0)]
end Go.Proofs.YtpklljejiofnfaaDoor.PAll
namespace Go.Proofs.YtpklljejiofnfaaDoor.PAll
open Go.RowKit Go.Proofs.YtpklljejiofnfaaDoorW.PrintWords Go.Proofs.YtpklljejiofnfaaDoorW.PrintLast
open Go.Proofs.YtpklljejiofnfaaDoorW.PrintMore
open StableSort
set_option linter.unusedSimpArgs false
set_option maxRecDepth 100000 in
theorem stable_l0 (n : Nat) (F T : Nat) (hn : n ≤ 900) (hT : ∀ N, N ≤ 1000 → 8000 * N + 1 ≤ T) (hF1 : ∀ c, c ≤ 20 → c * 2000 + 1 ≤ F) (hF2 : 7 * (T + 2000) ≤ F) (N : Nat) : ∀ (rest : List S61) (bd : List (List S61)) (a b : Int), rest.length ≤ N → Full 20 bd →
    a = bd.flatten.length → b = a + 20 → n = bd.flatten.length + rest.length → ∀ k, F + N + 5 ≤ k → api_Duty_118.l0 k (bd.flatten ++ rest) n 20 a b = some (dsrt (bd.flatten ++ rest)) := by
  induction N using Nat.strongRecOn with
  | _ N ih =>
  intro rest bd a b hN hd ha hb hlen k hk
  obtain ⟨k, rfl⟩ : ∃ m, k = m + 1 := ⟨k - 1, by omega⟩
  simp only [api_Duty_118.l0]
  by_cases hle : b ≤ n
  · rw [if_pos hle]
    obtain ⟨c, rest, rfl, e1, e2⟩ := split_at rest 20 (by omega)
    simp only [List.length_append] at hN hlen e2
    have := insertion_eq a b bd.flatten c rest ha (by omega) (by omega) k (by have := hF1 c.length (by omega); omega)
    rw [show bd.flatten ++ (c ++ rest) = bd.flatten ++ c ++ rest by simp, this]
    simp only [Option.bind_some]
    rw [wr (b + 20) (by omega) (by omega)]
    have hlen2 : (dsrt c).length = 20 := by rw [srt_length]; exact e1
    have := ih (N - 20) (by omega) rest (bd ++ [dsrt c]) b (b + 20) (by omega) (hd.snoc hlen2 (srt_spec _).1) (by simp only [List.length_append, List.flatten_append, List.flatten_cons, List.flatten_nil, List.append_nil, hlen2]; omega) rfl (by simp only [List.length_append, List.flatten_append, List.flatten_cons, List.flatten_nil, List.append_nil, hlen2]; omega) k (by omega)
    simp only [List.flatten_append, List.flatten_cons, List.flatten_nil, List.append_nil] at this
    rw [this]
    have h1 := ((srt_spec (k0 := S61.f0) (k1 := S61.f1) c).2.left bd.flatten).right rest
    rw [show dsrt (bd.flatten ++ c ++ rest) = dsrt (bd.flatten ++ dsrt c ++ rest) from srt_same h1]
  · rw [if_neg hle]
    have := insertion_eq a n bd.flatten rest [] ha (by omega) (by simp only [List.length_nil]; omega) k (by have := hF1 rest.length (by omega); omega)
    simp only [List.append_nil] at this
    rw [this]
    simp only [Option.bind_some]
    have h1 := (srt_spec (k0 := S61.f0) (k1 := S61.f1) rest).2.left bd.flatten
    have := stable_l1 n T (dsrt (bd.flatten ++ rest)) hn hT 6 (bd.flatten ++ dsrt rest) 20 (by omega) (by rw [List.length_append, srt_length]; omega) ⟨bd, _, rfl, hd, by rw [srt_length]; omega, (srt_spec _).1⟩ (by omega) (by omega) (srt_same h1).symm k (by omega)
    simpa using this
set_option maxRecDepth 100000 in
theorem sortStable_eq (x : List S61) (hx : x.length ≤ 900) : ∃ K, ∀ k, K ≤ k → api_Duty_96.f k x = some (dsrt x) := by
  obtain ⟨T, hT⟩ : ∃ T, ∀ N, N ≤ 1000 → 8000 * N + 1 ≤ T := ⟨8000 * 1000 + 1, fun N h => Nat.succ_le_succ (Nat.mul_le_mul (Nat.le_refl _) h)⟩
  obtain ⟨F1, hF1⟩ : ∃ F, ∀ c, c ≤ 20 → c * 2000 + 1 ≤ F := ⟨20 * 2000 + 1, fun N h => Nat.succ_le_succ (Nat.mul_le_mul h (Nat.le_refl _))⟩
  refine ⟨F1 + 7 * (T + 2000) + 900 + 5, fun k hk => ?_⟩
  unfold api_Duty_96.f api_Duty_118.f
  have := stable_l0 x.length (F1 + 7 * (T + 2000)) T hx hT (fun c hc => by have := hF1 c hc; omega) (by omega) 900 x [] 0 20 hx (by intro c hc; cases hc) rfl rfl (by simp) k hk
  simp only [List.flatten_nil, List.nil_append] at this
  rw [this]
  rfl
theorem rdL {x p s : List (List S61)} {d : List S61} {i : Int} (h : x = p ++ d :: s) (hi : i = p.length) : rd_L6 x i = d := by
  subst h hi
  simp [rd_L6, List.getD_eq_getElem?_getD]
theorem concat_l1 (ls : List (List S61)) (hl : ls.length ≤ 1000) (ht : ls.flatten.length ≤ 900) : ∀ (b a : List (List S61)) (i : Int), ls = a ++ b → i = a.length → ∀ k, b.length + 1 ≤ k → api_Duty_95.l1 k a.flatten ls ls.length i = some ls.flatten := by
  intro b
  induction b with
  | nil =>
    intro a i h hi k hk
    obtain ⟨k, rfl⟩ : ∃ m, k = m + 1 := ⟨k - 1, by omega⟩
    simp only [api_Duty_95.l1]
    have h2 : ls.length = a.length := by rw [h]; simp
    rw [if_neg (by omega), h]
    simp
  | cons d b ih =>
    intro a i h hi k hk
    simp only [List.length_cons] at hk
    obtain ⟨k, rfl⟩ : ∃ m, k = m + 1 := ⟨k - 1, by omega⟩
    simp only [api_Duty_95.l1]
    have h2 : ls.length = a.length + b.length + 1 := by rw [h]; simp; omega
    have h3 : ls.flatten.length = a.flatten.length + d.length + b.flatten.length := by rw [h]; simp only [List.flatten_append, List.flatten_cons, List.length_append]; omega
    rw [if_pos (by omega), if_pos (by omega), if_pos (by omega), rdL h hi, if_pos (by omega), wr (i + 1) (by omega) (by omega)]
    have := ih (a ++ [d]) (i + 1) (by rw [h]; simp) (by simp; omega) k (by omega)
    simpa using this
theorem concat_l0 (ls : List (List S61)) (hl : ls.length ≤ 1000) (ht : ls.flatten.length ≤ 900) : ∀ (b a : List (List S61)) (i x3 : Int), ls = a ++ b → i = a.length → x3 = a.flatten.length → ∀ k, b.length + ls.length + 3 ≤ k → api_Duty_95.l0 k ls x3 ls ls.length i = some ls.flatten := by
  intro b
  induction b with
  | nil =>
    intro a i x3 h hi h3 k hk
    obtain ⟨k, rfl⟩ : ∃ m, k = m + 1 := ⟨k - 1, by omega⟩
    simp only [api_Duty_95.l0]
    have h2 : ls.length = a.length := by rw [h]; simp
    have h4 : ls.flatten = a.flatten := by rw [h]; simp
    rw [if_neg (by omega)]
    unfold api_Duty_117.f
    rw [h4] at ht
    rw [if_pos (by omega)]
    simp only [Option.bind_some]
    have := concat_l1 ls hl (by rw [h4]; exact ht) ls [] 0 rfl rfl k (by omega)
    simpa using this
  | cons d b ih =>
    intro a i x3 h hi h3 k hk
    simp only [List.length_cons] at hk
    obtain ⟨k, rfl⟩ : ∃ m, k = m + 1 := ⟨k - 1, by omega⟩
    simp only [api_Duty_95.l0]
    have h2 : ls.length = a.length + b.length + 1 := by rw [h]; simp; omega
    have h4 : ls.flatten.length = a.flatten.length + d.length + b.flatten.length := by rw [h]; simp only [List.flatten_append, List.flatten_cons, List.length_append]; omega
    rw [if_pos (by omega), if_pos (by omega), if_pos (by omega), rdL h hi, wr (x3 + d.length) (by omega) (by omega), if_neg (by omega), wr (i + 1) (by omega) (by omega)]
    refine ih (a ++ [d]) (i + 1) _ (by rw [h]; simp) (by simp; omega) ?_ k (by omega)
    simp only [List.flatten_append, List.flatten_cons, List.flatten_nil, List.append_nil, List.length_append]
    omega
theorem duty_Merge_eq (ls : List (List S61)) (hl : ls.length ≤ 1000) (ht : ls.flatten.length ≤ 900) : ∃ K, ∀ k, K ≤ k → duty_Merge.f k ls = some (dsrt ls.flatten) := by
  obtain ⟨K, hK⟩ := sortStable_eq ls.flatten ht
  refine ⟨K + 2 * ls.length + 3, fun k hk => ?_⟩
  unfold duty_Merge.f api_Duty_95.f
  rw [concat_l0 ls hl ht ls [] 0 0 rfl rfl rfl k (by omega)]
  simp only [Option.bind_some]
  rw [hK k (by omega)]
  rfl
end Go.Proofs.YtpklljejiofnfaaDoor.PAll
