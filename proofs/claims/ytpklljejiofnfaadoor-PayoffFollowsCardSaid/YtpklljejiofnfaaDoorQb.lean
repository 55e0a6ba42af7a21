import Derived.Test.YtpklljejiofnfaaDoorQa
import Derived.Test.YtpklljejiofnfaaDoorPAllx7
set_option linter.unusedVariables false
set_option linter.unusedSimpArgs false
namespace StableSort
theorem ins_perm {α : Type} {k0 k1 : α → Int} (d : α) (l : List α) : (ins k0 k1 d l).Perm (d :: l) := by
  induction l with
  | nil => exact List.Perm.refl _
  | cons y l ih =>
    unfold ins
    split
    · exact List.Perm.refl _
    · exact (ih.cons y).trans (List.Perm.swap d y l)
theorem srt_perm {α : Type} {k0 k1 : α → Int} (l : List α) : (srt k0 k1 l).Perm l := by
  have key : ∀ (l a : List α), (l.foldl (fun q d => ins k0 k1 d q) a).Perm (a ++ l) := by
    intro l
    induction l with
    | nil => intro a; simp
    | cons d l ih =>
      intro a
      simp only [List.foldl_cons]
      refine (ih _).trans ?_
      refine ((ins_perm d a).append_right l).trans ?_
      exact (List.perm_middle (l₁ := a) (a := d) (l₂ := l)).symm
  simpa [srt] using key l []
end StableSort
namespace Go.Proofs.YtpklljejiofnfaaDoor.PAll
open Go.RowKit Go.Proofs.YtpklljejiofnfaaDoorW.PrintWords Go.Proofs.YtpklljejiofnfaaDoorW.PrintLast
open Go.Proofs.YtpklljejiofnfaaDoorW.PrintMore
open StableSort
/-! Answers from some number of rounds on -/
end Go.Proofs.YtpklljejiofnfaaDoor.PAll
namespace Go.Proofs.YtpklljejiofnfaaDoorW.PrintWords
section
variable {α β : Type} {f g : Nat → Option α} {r : α}
theorem Ev.pos {c : Prop} [Decidable c] (hc : c) (h : Ev f r) : Ev (fun k => if c then f k else g k) r := by
  obtain ⟨K, h⟩ := h
  exact ⟨K, fun k hk => by simp only [if_pos hc]; exact h k hk⟩
theorem Ev.neg {c : Prop} [Decidable c] (hc : ¬ c) (h : Ev g r) : Ev (fun k => if c then f k else g k) r := by
  obtain ⟨K, h⟩ := h
  exact ⟨K, fun k hk => by simp only [if_neg hc]; exact h k hk⟩
theorem Ev.val {a : Option α} (h : a = some r) : Ev (fun _ => a) r := ⟨0, fun _ _ => h⟩
theorem Ev.got {a : Option β} {x : β} {f : Nat → β → Option α} (h : a = some x) (k : Ev (fun n => f n x) r) : Ev (fun n => a.bind (f n)) r := by
  subst h
  exact k
theorem Ev.mk {K : Nat} (h : ∀ k, K ≤ k → f k = some r) : Ev f r := ⟨K, h⟩
theorem Ev.to {r' : α} (h : Ev f r) (e : r = r') : Ev f r' := e ▸ h
theorem Ev.all {s : Nat → Option α} (h : Ev f r) (e : ∀ k, s k = f k) : Ev s r := Ev.congr e h
end
end Go.Proofs.YtpklljejiofnfaaDoorW.PrintWords
namespace Go.Proofs.YtpklljejiofnfaaDoor.PAll
open Go.RowKit Go.Proofs.YtpklljejiofnfaaDoorW.PrintWords Go.Proofs.YtpklljejiofnfaaDoorW.PrintLast
open Go.Proofs.YtpklljejiofnfaaDoorW.PrintMore
open StableSort
/-! The dice -/
def Seeds (s : List Int) : Prop := s.length ≤ 300 ∧ ∀ x ∈ s, 0 ≤ x ∧ x ≤ 255
theorem pick_ok {s : List Int} (hs : Seeds s) (p a : Int) (hp : 0 ≤ p) (hp1 : p ≤ 300) (ha : 1 ≤ a) : ∃ v p', storagebarterplay_Dice_Pick.f s p a = some (v, p') ∧ 0 ≤ v ∧ v < a ∧ 0 ≤ p' ∧ p' ≤ 300 := by
  obtain ⟨hs, hb⟩ := hs
  unfold storagebarterplay_Dice_Pick.f
  by_cases h : p ≥ s.length
  · rw [if_pos h]
    exact ⟨0, p, rfl, by omega, by omega, hp, hp1⟩
  · rw [if_neg h, wr (p + 1) (by omega) (by omega), wr (p + 1 - 1) (by omega) (by omega), if_pos (by omega), if_pos (by omega), if_neg (by omega)]
    have hr : 0 ≤ rd s (p + 1 - 1) ∧ rd s (p + 1 - 1) ≤ 255 := by
      unfold rd
      rw [List.getD_eq_getElem?_getD, List.getElem?_eq_getElem (by omega)]
      exact hb _ (List.getElem_mem _)
    rw [wr (rd s (p + 1 - 1)) (by omega) (by omega), Int.tmod_eq_emod_of_nonneg hr.1]
    exact ⟨_, _, rfl, Int.emod_nonneg _ (by omega), Int.emod_lt_of_pos _ (by omega), by omega, by omega⟩
theorem checksB_snoc (hi x : Int) (hx : x ≤ hi) (cs : List Int) : ∀ last, checksB hi last cs = true → (∀ y ∈ cs, y < x) → last < x → checksB hi last (cs ++ [x]) = true := by
  induction cs with
  | nil => intro last _ _ h; simp [checksB, h, hx]
  | cons c cs ih =>
    intro last h1 h2 h3
    simp only [checksB, List.cons_append, Bool.and_eq_true, decide_eq_true_eq] at h1 ⊢
    exact ⟨h1.1, ih c h1.2 (fun y hy => h2 y (List.mem_cons_of_mem _ hy)) (h2 c List.mem_cons_self)⟩
theorem checksB_length (hi : Int) (cs : List Int) : ∀ last, checksB hi last cs = true → (cs.length : Int) ≤ hi - last ∨ cs = [] := by
  induction cs with
  | nil => intro _ _; exact Or.inr rfl
  | cons c cs ih =>
    intro last h
    simp only [checksB, Bool.and_eq_true, decide_eq_true_eq] at h
    left
    simp only [List.length_cons]
    rcases ih c h.2 with h1 | h1
    · omega
    · subst h1
      simp only [List.length_nil]
      omega
theorem arr_l0 {s : List Int} (hs : Seeds s) (f1 f2 st te : Int) (h0 : 0 ≤ st) (h1 : st ≤ 100) (h2 : 0 ≤ te) (h3 : te ≤ 100) (d : Nat) : ∀ (x6 p : Int) (cs : List Int), 0 ≤ p → p ≤ 300 → st < x6 → st + te + 1 - x6 ≤ d → cs.length + d ≤ 1000 → checksB (st + te) st cs = true → (∀ y ∈ cs, y < x6) →
    ∃ cs' p', 0 ≤ p' ∧ p' ≤ 300 ∧ checksB (st + te) st cs' = true ∧ Ev (fun k => storagebarterplay_Dice_Arrangement.l0 k x6 s p f1 f2 st te cs) (f1, f2, st, te, cs', p') := by
  induction d with
  | zero =>
    intro x6 p cs hp hp1 h6 hd hc hk1 hk2
    refine ⟨cs, p, hp, hp1, hk1, Ev.step (fun k => storagebarterplay_Dice_Arrangement.l0.eq_2 ..) ?_⟩
    rw [wr (st + te) (by omega) (by omega)]
    exact Ev.neg (by omega) (Ev.now _)
  | succ d ih =>
    intro x6 p cs hp hp1 h6 hd hc hk1 hk2
    by_cases hle : x6 ≤ st + te
    · obtain ⟨v, p1, e1, _, _, hq, hq1⟩ := pick_ok hs p 3 hp hp1 (by omega)
      by_cases hv : v = 0
      · obtain ⟨cs', p', g1, g2, g3, g4⟩ := ih (x6 + 1) p1 (cs ++ [x6]) hq hq1 (by omega) (by omega) (by simp; omega) (checksB_snoc _ _ hle cs st hk1 hk2 h6) (by
          intro y hy
          rcases List.mem_append.1 hy with hy | hy
          · have := hk2 y hy
            omega
          · simp at hy
            omega)
        refine ⟨cs', p', g1, g2, g3, Ev.step (fun k => storagebarterplay_Dice_Arrangement.l0.eq_2 ..) ?_⟩
        rw [wr (st + te) (by omega) (by omega), wr (x6 + 1) (by omega) (by omega)]
        exact Ev.pos hle (Ev.got e1 (Ev.pos hv (Ev.pos (by omega) g4)))
      · obtain ⟨cs', p', g1, g2, g3, g4⟩ := ih (x6 + 1) p1 cs hq hq1 (by omega) (by omega) (by omega) hk1 (fun y hy => by have := hk2 y hy; omega)
        refine ⟨cs', p', g1, g2, g3, Ev.step (fun k => storagebarterplay_Dice_Arrangement.l0.eq_2 ..) ?_⟩
        rw [wr (st + te) (by omega) (by omega), wr (x6 + 1) (by omega) (by omega)]
        exact Ev.pos hle (Ev.got e1 (Ev.neg hv g4))
    · refine ⟨cs, p, hp, hp1, hk1, Ev.step (fun k => storagebarterplay_Dice_Arrangement.l0.eq_2 ..) ?_⟩
      rw [wr (st + te) (by omega) (by omega)]
      exact Ev.neg hle (Ev.now _)
/-- An arrangement of the dice. -/
structure ArrOk (a : S45) : Prop where
  a0 : 1 ≤ a.f0
  a1 : a.f0 ≤ 3
  b0 : 1 ≤ a.f1
  b1 : a.f1 ≤ 3
  ab : a.f0 ≠ a.f1
  s0 : 0 ≤ a.f2
  s1 : a.f2 ≤ 2
  t0 : 1 ≤ a.f3
  t1 : a.f3 ≤ 3
  cs : checksB (a.f2 + a.f3) a.f2 a.f4 = true
theorem arr_ok {s : List Int} (hs : Seeds s) (p : Int) (hp : 0 ≤ p) (hp1 : p ≤ 300) : ∃ (a : S45) (p' : Int), ArrOk a ∧ 0 ≤ p' ∧ p' ≤ 300 ∧ Ev (fun k => storagebarterplay_Dice_Arrangement.f k s p 3) (a.f0, a.f1, a.f2, a.f3, a.f4, p') := by
  obtain ⟨v1, p1, e1, a1, b1, c1, d1⟩ := pick_ok hs p 3 hp hp1 (by omega)
  obtain ⟨v2, p2, e2, a2, b2, c2, d2⟩ := pick_ok hs p1 3 c1 d1 (by omega)
  obtain ⟨v3, p3, e3, a3, b3, c3, d3⟩ := pick_ok hs p2 3 c2 d2 (by omega)
  obtain ⟨v4, p4, e4, a4, b4, c4, d4⟩ := pick_ok hs p3 2 c3 d3 (by omega)
  obtain ⟨cs', p', g1, g2, g3, g4⟩ := arr_l0 hs (1 + v1) (1 + (1 + v1 + v4) % 3) v2 (1 + v3) a2 (by omega) (by omega) (by omega) 10 (v2 + 1) p4 [] c4 d4 (by omega) (by omega) (by simp) rfl (by simp)
  refine ⟨⟨1 + v1, 1 + (1 + v1 + v4) % 3, v2, 1 + v3, cs'⟩, p', ⟨by simp only; omega, by simp only; omega, by simp only; omega, by simp only; omega, by simp only; omega, a2, by simp only; omega, by simp only; omega, by simp only; omega, g3⟩, g1, g2, ?_⟩
  unfold storagebarterplay_Dice_Arrangement.f
  refine Ev.got e1 (Ev.got e2 (Ev.got e3 ?_))
  rw [wr (3 - 1) (by omega) (by omega)]
  refine Ev.got e4 (Ev.neg (by omega) ?_)
  simp only
  rw [wr (v2 + 1) (by omega) (by omega), wr (1 + v3) (by omega) (by omega), wr (1 + v1) (by omega) (by omega), wr (1 + v1 + v4) (by omega) (by omega), Int.tmod_eq_emod_of_nonneg (by omega), wr (1 + (1 + v1 + v4) % 3) (by omega) (by omega)]
  exact g4
theorem game_l0 {s : List Int} (hs : Seeds s) (st : Bool) (wo : Int) (d : Nat) (hd : d ≤ 10) : ∀ (l : List S45) (p : Int), 0 ≤ p → p ≤ 300 → l.length + d ≤ 100 → (∀ a ∈ l, ArrOk a) →
    ∃ l' p', 0 ≤ p' ∧ p' ≤ 300 ∧ l'.length = l.length + d ∧ (∀ a ∈ l', ArrOk a) ∧ Ev (fun k => storagebarterplay_Dice_Game.l0 k d s p l st wo) (l', st, wo, p') := by
  induction d with
  | zero =>
    intro l p hp hp1 hl ha
    exact ⟨l, p, hp, hp1, rfl, ha, Ev.step (fun k => storagebarterplay_Dice_Game.l0.eq_2 ..) (Ev.neg (by omega) (Ev.now _))⟩
  | succ d ih =>
    intro l p hp hp1 hl ha
    obtain ⟨a, p1, h1, h2, h3, h4⟩ := arr_ok hs p hp hp1
    obtain ⟨l', p', g1, g2, g3, g4, g5⟩ := ih (by omega) (l ++ [a]) p1 h2 h3 (by
      simp only [List.length_append, List.length_cons, List.length_nil]
      omega) (by
      intro x hx
      rcases List.mem_append.1 hx with hx | hx
      · exact ha x hx
      · simp at hx
        rw [hx]
        exact h1)
    refine ⟨l', p', g1, g2, by rw [g3]; simp; omega, g4, Ev.step (fun k => storagebarterplay_Dice_Game.l0.eq_2 ..) (Ev.pos (by omega) (Ev.bind h4 ?_))⟩
    refine Ev.pos (by omega) ?_
    rw [wr (((d + 1 : Nat) : Int) - 1) (by omega) (by omega), show ((d + 1 : Nat) : Int) - 1 = d by omega]
    exact g5
theorem game_ok {s : List Int} (hs : Seeds s) (n : Int) (hn : 1 ≤ n) (hn1 : n ≤ 5) (p : Int) (hp : 0 ≤ p) (hp1 : p ≤ 300) : ∃ (l : List S45) (st : Bool) (wo p' : Int), 0 ≤ p' ∧ p' ≤ 300 ∧ 1 ≤ l.length ∧ (l.length : Int) ≤ n ∧ (∀ a ∈ l, ArrOk a) ∧ 0 ≤ wo ∧ wo ≤ 100 ∧ Ev (fun k => storagebarterplay_Dice_Game.f k s p n) (l, st, wo, p') := by
  obtain ⟨v1, p1, e1, a1, b1, c1, d1⟩ := pick_ok hs p 3 hp hp1 (by omega)
  obtain ⟨v2, p2, e2, a2, b2, c2, d2⟩ := pick_ok hs p1 6 c1 d1 (by omega)
  obtain ⟨v3, p3, e3, a3, b3, c3, d3⟩ := pick_ok hs p2 n c2 d2 hn
  obtain ⟨l, p', g1, g2, g3, g4, g5⟩ := game_l0 hs (decide (v1 > 0)) (rd [100, 60, 30, 20, 5, 0] v2) (1 + v3).toNat (by omega) [] p3 c3 d3 (by simp; omega) (by simp)
  simp only [List.length_nil] at g3
  have hw : 0 ≤ rd [100, 60, 30, 20, 5, 0] v2 ∧ rd [100, 60, 30, 20, 5, 0] v2 ≤ 100 := by
    obtain rfl | rfl | rfl | rfl | rfl | rfl : v2 = 0 ∨ v2 = 1 ∨ v2 = 2 ∨ v2 = 3 ∨ v2 = 4 ∨ v2 = 5 := by omega
    all_goals exact ⟨by decide, by decide⟩
  refine ⟨l, decide (v1 > 0), rd [100, 60, 30, 20, 5, 0] v2, p', g1, g2, by omega, by omega, g4, hw.1, hw.2, ?_⟩
  unfold storagebarterplay_Dice_Game.f
  refine Ev.got e1 (Ev.got rfl (Ev.got e2 (Ev.pos a2 (Ev.pos (by simp; omega) (Ev.got e3 ?_)))))
  simp only
  rw [wr (1 + v3) (by omega) (by omega)]
  rw [show ((1 + v3).toNat : Int) = 1 + v3 by omega] at g5
  exact g5
/-! Who has it; which arrangements are valid; the plan of one; costs and totals -/
theorem rd_at {l : List Int} {i : Nat} (h : i < l.length) : rd l (i : Int) = l[i] := by simp [rd, List.getD_eq_getElem?_getD, h]
theorem has_l0 (l : List Int) (x : Int) (hl : l.length ≤ 9223372036854775806) (d : Nat) : ∀ i : Nat, i + d = l.length → Ev (fun k => storagebarterref28_Has.l0 k l x i) ((l.drop i).contains x) := by
  induction d with
  | zero =>
    intro i hi
    refine Ev.step (fun k => storagebarterref28_Has.l0.eq_2 ..) (Ev.neg (by omega) ((Ev.now _).to ?_))
    rw [List.drop_of_length_le (by omega)]
    rfl
  | succ d ih =>
    intro i hi
    refine Ev.step (fun k => storagebarterref28_Has.l0.eq_2 ..) (Ev.pos (by omega) (Ev.pos (by omega) ?_))
    rw [rd_at (show i < l.length by omega), List.drop_eq_getElem_cons (show i < l.length by omega), wr ((i : Int) + 1) (by omega) (by omega)]
    by_cases h : l[i] = x
    · refine Ev.pos h ((Ev.now _).to ?_)
      simp [h]
    · refine Ev.neg h ((ih (i + 1) (by omega)).to ?_)
      have h' : ¬ x = l[i] := fun e => h e.symm
      rw [List.contains_cons, beq_eq_false_iff_ne.mpr h']
      rfl
theorem has_eq (l : List Int) (x : Int) (hl : l.length ≤ 9223372036854775806) : Ev (fun k => storagebarterref28_Has.f k l x) (l.contains x) := (has_l0 l x hl l.length 0 (by omega)).to (by simp)
theorem refValid_l0 (a0 a1 a2 a3 : Int) (l : List Int) (hl : l.length ≤ 9223372036854775806) (hs : -9223372036854775808 ≤ a2 + a3) (hs1 : a2 + a3 ≤ 9223372036854775807) (d : Nat) : ∀ (i : Nat) (last : Int), i + d = l.length → Ev (fun k => storagebarterref28_Valid.l0 k last i a0 a1 a2 a3 l) (checksB (a2 + a3) last (l.drop i)) := by
  induction d with
  | zero =>
    intro i last hi
    refine Ev.step (fun k => storagebarterref28_Valid.l0.eq_2 ..) (Ev.neg (by omega) ((Ev.now _).to ?_))
    rw [List.drop_of_length_le (by omega)]
    rfl
  | succ d ih =>
    intro i last hi
    refine Ev.step (fun k => storagebarterref28_Valid.l0.eq_2 ..) (Ev.pos (by omega) (Ev.pos (by omega) ?_))
    rw [rd_at (show i < l.length by omega), List.drop_eq_getElem_cons (show i < l.length by omega), wr ((i : Int) + 1) (by omega) (by omega), wr (a2 + a3) hs hs1]
    simp only [checksB]
    by_cases h1 : l[i] ≤ last
    · refine Ev.pos h1 ((Ev.now _).to ?_)
      rw [decide_eq_false (show ¬ last < l[i] by omega)]
      rfl
    · by_cases h2 : l[i] > a2 + a3
      · refine Ev.neg h1 (Ev.pos h2 ((Ev.now _).to ?_))
        rw [decide_eq_false (show ¬ l[i] ≤ a2 + a3 by omega)]
        simp
      · refine Ev.neg h1 (Ev.neg h2 ((ih (i + 1) l[i] (by omega)).to ?_))
        rw [decide_eq_true (show last < l[i] by omega), decide_eq_true (show l[i] ≤ a2 + a3 by omega)]
        rfl
theorem refValid_j0 (b : Bool) (a0 a1 a2 a3 : Int) (l : List Int) (h : b = false → -9223372036854775808 ≤ a2 + a3 ∧ a2 + a3 ≤ 9223372036854775807) (hl : l.length ≤ 9223372036854775806) : Ev (fun k => storagebarterref28_Valid.j0 k b a0 a1 a2 a3 l) (!b && checksB (a2 + a3) a2 l) := by
  refine Ev.step (fun k => storagebarterref28_Valid.j0.eq_2 ..) ?_
  cases b with
  | true => exact Ev.pos rfl (Ev.now _)
  | false => exact Ev.neg (by simp) ((refValid_l0 a0 a1 a2 a3 l hl (h rfl).1 (h rfl).2 l.length 0 a2 (by omega)).to (by simp))
theorem refValid_eq (a0 a1 a2 a3 : Int) (l : List Int) (hl : l.length ≤ 9223372036854775806) : Ev (fun k => storagebarterref28_Valid.f k a0 a1 a2 a3 l) (validB a0 a1 a2 a3 l) := by
  unfold storagebarterref28_Valid.f validB
  have jt := refValid_j0 true a0 a1 a2 a3 l (by simp) hl
  by_cases p1 : a0 = a1
  · exact Ev.pos p1 (jt.to (by simp [p1]))
  refine Ev.neg p1 ?_
  by_cases p2 : a0 < 1
  · exact Ev.pos p2 (jt.to (by simp [show ¬ 1 ≤ a0 by omega]))
  refine Ev.neg p2 ?_
  by_cases p3 : a0 > 16
  · exact Ev.pos p3 (jt.to (by simp [show ¬ a0 ≤ 16 by omega]))
  refine Ev.neg p3 ?_
  by_cases p4 : a1 < 1
  · exact Ev.pos p4 (jt.to (by simp [show ¬ 1 ≤ a1 by omega]))
  refine Ev.neg p4 ?_
  by_cases p5 : a1 > 16
  · exact Ev.pos p5 (jt.to (by simp [show ¬ a1 ≤ 16 by omega]))
  refine Ev.neg p5 ?_
  by_cases p6 : a2 < 0
  · exact Ev.pos p6 (jt.to (by simp [show ¬ 0 ≤ a2 by omega]))
  refine Ev.neg p6 ?_
  by_cases p7 : a2 > 16
  · exact Ev.pos p7 (jt.to (by
      by_cases p8 : 1 ≤ a3
      · simp [show ¬ a2 + a3 ≤ 16 by omega]
      · rw [decide_eq_false p8]; simp))
  refine Ev.neg p7 ?_
  by_cases p8 : a3 < 1
  · exact Ev.pos p8 (jt.to (by simp [show ¬ 1 ≤ a3 by omega]))
  refine Ev.neg p8 ?_
  by_cases p9 : a3 > 16
  · exact Ev.pos p9 (jt.to (by simp [show ¬ a3 ≤ 16 by omega]))
  refine Ev.neg p9 ?_
  rw [wr (a2 + a3) (by omega) (by omega)]
  refine (refValid_j0 (decide (a2 + a3 > 16)) a0 a1 a2 a3 l (fun _ => by omega) hl).to ?_
  simp [p1, show 1 ≤ a0 by omega, show a0 ≤ 16 by omega, show 1 ≤ a1 by omega, show a1 ≤ 16 by omega, show 0 ≤ a2 by omega, show 1 ≤ a3 by omega, show a3 ≤ 16 by omega]
  by_cases h : a2 + a3 ≤ 16
  · rw [decide_eq_true h, decide_eq_false (show ¬ 16 < a2 + a3 by omega)]; rfl
  · rw [decide_eq_false h, decide_eq_true (show 16 < a2 + a3 by omega)]; rfl
theorem validB_facts {a0 a1 a2 a3 : Int} {l : List Int} (h : validB a0 a1 a2 a3 l = true) : 1 ≤ a0 ∧ a0 ≤ 16 ∧ 1 ≤ a1 ∧ a1 ≤ 16 ∧ a0 ≠ a1 ∧ 0 ≤ a2 ∧ 1 ≤ a3 ∧ a3 ≤ 16 ∧ a2 + a3 ≤ 16 ∧ checksB (a2 + a3) a2 l = true := by
  unfold validB at h
  simp only [Bool.and_eq_true, decide_eq_true_eq] at h
  obtain ⟨⟨⟨⟨⟨⟨⟨⟨⟨h1, h2⟩, h3⟩, h4⟩, h5⟩, h6⟩, h7⟩, h8⟩, h9⟩, h10⟩ := h
  exact ⟨h1, h2, h3, h4, h5, h6, h7, h8, h9, h10⟩
theorem ArrOk.valid {a : S45} (h : ArrOk a) : validB a.f0 a.f1 a.f2 a.f3 a.f4 = true := by
  unfold validB
  have := h.a0; have := h.a1; have := h.b0; have := h.b1; have := h.ab; have := h.s0; have := h.s1; have := h.t0; have := h.t1
  simp only [Bool.and_eq_true, decide_eq_true_eq]
  refine ⟨⟨⟨⟨⟨⟨⟨⟨⟨?_, ?_⟩, ?_⟩, ?_⟩, ?_⟩, ?_⟩, ?_⟩, ?_⟩, ?_⟩, h.cs⟩ <;> omega
theorem valid_checks {a0 a1 a2 a3 : Int} {l : List Int} (h : validB a0 a1 a2 a3 l = true) : l.length ≤ 16 := by
  have := validB_facts h
  rcases checksB_length _ _ _ this.2.2.2.2.2.2.2.2.2 with h1 | h1
  · omega
  · rw [h1]; simp
theorem both_eq (a : S45) (t s k : Int) : storagebarterref28_both.f a.f0 a.f1 a.f2 a.f3 a.f4 t s k = some (duty_both a.f0 a.f1 s t k) := rfl
theorem refPlan_l1 (a : S45) (s : Int) (st : Bool) (h0 : 0 ≤ a.f2) (h1 : a.f2 ≤ 16) (h2 : 0 ≤ a.f3) (h3 : a.f3 ≤ 16) (hl : a.f4.length ≤ 16) (d : Nat) : ∀ (acc : List S61) (t : Int), 0 ≤ t → a.f2 + a.f3 + 1 - t = d → acc.length + 4 * d ≤ 1000 →
    Ev (fun k => storagebarterref28_Plan.l1 k s st acc t a.f0 a.f1 a.f2 a.f3 a.f4) (acc ++ duty_PlanMid a.f0 a.f1 s a.f4 d t ++ (if st = true then duty_both a.f0 a.f1 s (a.f2 + a.f3 + 1) 7 else []), 0) := by
  induction d with
  | zero =>
    intro acc t ht hd hc
    refine Ev.step (fun k => storagebarterref28_Plan.l1.eq_2 ..) ?_
    rw [wr (a.f2 + a.f3) (by omega) (by omega)]
    refine Ev.neg (by omega) ?_
    cases st with
    | true =>
      refine Ev.pos rfl ?_
      rw [wr (a.f2 + a.f3 + 1) (by omega) (by omega)]
      refine Ev.got (both_eq a _ _ _) (Ev.pos (by simp only [duty_both, List.length_cons, List.length_nil]; omega) ((Ev.now _).to ?_))
      simp [duty_PlanMid]
    | false => exact Ev.neg (by simp) ((Ev.now _).to (by simp [duty_PlanMid]))
  | succ d ih =>
    intro acc t ht hd hc
    refine Ev.step (fun k => storagebarterref28_Plan.l1.eq_2 ..) ?_
    rw [wr (a.f2 + a.f3) (by omega) (by omega)]
    refine Ev.pos (by omega) (Ev.got (both_eq a _ _ _) (Ev.pos (by simp only [duty_both, List.length_cons, List.length_nil]; omega) (Ev.got rfl (Ev.bind (has_eq a.f4 t (by omega)) ?_))))
    rw [wr (t + 1) (by omega) (by omega)]
    by_cases hc : a.f4.contains t = true
    · refine Ev.pos hc (Ev.got (both_eq a _ _ _) (Ev.pos (by simp only [duty_both, List.length_append, List.length_cons, List.length_nil]; omega) ((ih _ (t + 1) (by omega) (by omega) (by simp only [duty_both, List.length_append, List.length_cons, List.length_nil]; omega)).to ?_)))
      simp [duty_PlanMid, duty_PlanStep, List.contains_iff_mem.1 hc]
    · refine Ev.neg hc ((ih _ (t + 1) (by omega) (by omega) (by simp only [duty_both, List.length_append, List.length_cons, List.length_nil]; omega)).to ?_)
      have hc' : ¬ t ∈ a.f4 := fun h => hc (List.contains_iff_mem.2 h)
      simp [duty_PlanMid, duty_PlanStep, hc']
theorem refPlan_eq (a : S45) (s : Int) (st : Bool) (hl : a.f4.length ≤ 9223372036854775806) : Ev (fun k => storagebarterref28_Plan.f k a.f0 a.f1 a.f2 a.f3 a.f4 s st) (if s < 0 ∨ 6 ≤ s then ([], 1) else if validB a.f0 a.f1 a.f2 a.f3 a.f4 = false then ([], 44) else (duty_PlanOf a.f0 a.f1 a.f2 a.f3 a.f4 s st, 0)) := by
  unfold storagebarterref28_Plan.f
  by_cases h0 : s < 0
  · refine Ev.pos h0 (Ev.step (fun k => storagebarterref28_Plan.j0.eq_2 ..) (Ev.pos rfl ((Ev.now _).to ?_)))
    rw [if_pos (Or.inl h0)]
  refine Ev.neg h0 (Ev.step (fun k => storagebarterref28_Plan.j0.eq_2 ..) ?_)
  by_cases h6 : s ≥ 6
  · refine Ev.pos (by simp; omega) ((Ev.now _).to ?_)
    rw [if_pos (Or.inr h6)]
  refine Ev.neg (by simp; omega) (Ev.bind (refValid_eq a.f0 a.f1 a.f2 a.f3 a.f4 hl) ?_)
  rw [if_neg (by omega)]
  by_cases hv : validB a.f0 a.f1 a.f2 a.f3 a.f4 = true
  · refine Ev.pos hv ?_
    rw [if_neg (by simp [hv])]
    have hf := validB_facts hv
    have hcl := valid_checks hv
    have L : ∀ (x : Int) (acc : List S61), x ≤ 4 → acc.length ≤ 100 → ∀ {R}, Ev (fun k => storagebarterref28_Plan.l0 k s st (acc ++ duty_both a.f0 a.f1 s a.f2 x) (x + 1) a.f0 a.f1 a.f2 a.f3 a.f4) R → 0 ≤ x → Ev (fun k => storagebarterref28_Plan.l0 k s st acc x a.f0 a.f1 a.f2 a.f3 a.f4) R := by
      intro x acc hx hacc R hR hx0
      refine Ev.step (fun k => storagebarterref28_Plan.l0.eq_2 ..) (Ev.pos hx (Ev.got (both_eq a _ _ _) (Ev.pos (by simp only [duty_both, List.length_cons, List.length_nil]; omega) ?_)))
      rw [wr (x + 1) (by omega) (by omega)]
      exact hR
    refine L 1 _ (by omega) (by simp) (L 2 _ (by omega) (by simp [duty_both]) (L 3 _ (by omega) (by simp [duty_both]) (L 4 _ (by omega) (by simp [duty_both]) ?_ (by omega)) (by omega)) (by omega)) (by omega)
    refine Ev.step (fun k => storagebarterref28_Plan.l0.eq_2 ..) (Ev.neg (by omega) ?_)
    rw [wr (a.f2 + 1) (by omega) (by omega)]
    refine (refPlan_l1 a s st (by omega) (by omega) (by omega) (by omega) hcl a.f3.toNat _ _ (by omega) (by omega) (by simp [duty_both]; omega)).to ?_
    simp [duty_PlanOf, duty_PlanHead]
  · refine Ev.neg hv ((Ev.now _).to ?_)
    rw [if_pos (by simpa using hv)]
end Go.Proofs.YtpklljejiofnfaaDoor.PAll
