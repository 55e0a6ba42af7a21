/- Proved: for every list of seeds, in the drawn game of up to four slots the payoff that the program tells for following is, for each peer, the worth of its kept shards less the totals of its duties, slot by slot. Conditions: the package variable duty.costs reads as it is laid, as the card ties it; no other. -/
import Derived.Test.YtpklljejiofnfaaDoorQc
import Derived.Test.YtpklljejiofnfaaDoorPAllx15
set_option linter.unusedVariables false
set_option linter.unusedSimpArgs false
namespace Go.Proofs.YtpklljejiofnfaaDoor.PAll
open Go.RowKit Go.Proofs.YtpklljejiofnfaaDoorW.PrintWords Go.Proofs.YtpklljejiofnfaaDoorW.PrintLast
open Go.Proofs.YtpklljejiofnfaaDoorW.PrintMore
open StableSort
/-! Following, slot by slot -/
def isOf (a : S45) (p : Int) : Bool := decide (a.f0 = p) || decide (a.f1 = p)
theorem isOf_left {a : S45} {p : Int} (h : a.f0 = p) : isOf a p = true := by simp [isOf, h]
theorem isOf_right {a : S45} {p : Int} (h : a.f1 = p) : isOf a p = true := by simp [isOf, h]
theorem isOf_none {a : S45} {p : Int} (h : a.f0 ≠ p) (h1 : a.f1 ≠ p) : ¬ isOf a p = true := by simp [isOf, h, h1]
def slotsOf : List S45 → Int → Int
  | [], _ => 0
  | a :: l, p => (if isOf a p = true then 1 else 0) + slotsOf l p
theorem slotsOf_bd (l : List S45) (p : Int) : 0 ≤ slotsOf l p ∧ slotsOf l p ≤ l.length := by
  induction l with
  | nil => simp [slotsOf]
  | cons a l ih =>
    simp only [slotsOf, List.length_cons]
    split <;> omega
theorem follow_l0 (p : Int) (pl : List S61) (hpl : pl.length ≤ 1000) (l : List S45) (st : Bool) (wo : Int) (hl : l.length ≤ 6) (h0 : 0 ≤ wo) (h1 : wo ≤ 1073741824) (d : Nat) : ∀ (i : Nat) (n : Int), i + d = l.length → 0 ≤ n → n ≤ i → Ev (fun k => payoff_Follow.l0 k p pl n l l.length i l st wo) (wo * (n + slotsOf (l.drop i) p) - tot pl p, 0) := by
  induction d with
  | zero =>
    intro i n hi hn hn1
    refine Ev.step (fun k => payoff_Follow.l0.eq_2 ..) (Ev.neg (by omega) (Ev.bind (dutyTotal_eq p pl (by omega)) ((Ev.now _).to ?_)))
    rw [List.drop_of_length_le (by omega)]
    have ht := tot_bd pl p
    have hw : 0 ≤ wo * n := Int.mul_nonneg h0 hn
    have hw1 : wo * n ≤ 1073741824 * 6 := Int.mul_le_mul h1 (by omega) hn (by omega)
    rw [wr (wo * n) (by omega) (by omega), wr _ (by omega) (by omega)]
    simp [slotsOf]
  | succ d ih =>
    intro i n hi hn hn1
    have hlt : i < l.length := by omega
    refine Ev.step (fun k => payoff_Follow.l0.eq_2 ..) (Ev.pos (by omega) (Ev.pos (by omega) (Ev.pos (by omega) ?_)))
    rw [rdA_at hlt, wr ((i : Int) + 1) (by omega) (by omega), wr (n + 1) (by omega) (by omega), List.drop_eq_getElem_cons hlt]
    simp only [slotsOf]
    by_cases e0 : l[i].f0 = p
    · refine Ev.pos e0 ((ih (i + 1) (n + 1) (by omega) (by omega) (by omega)).to ?_)
      rw [if_pos (isOf_left e0), Int.add_assoc]
    · by_cases e1 : l[i].f1 = p
      · refine Ev.neg e0 (Ev.pos e1 ((ih (i + 1) (n + 1) (by omega) (by omega) (by omega)).to ?_))
        rw [if_pos (isOf_right e1), Int.add_assoc]
      · refine Ev.neg e0 (Ev.neg e1 ((ih (i + 1) n (by omega) (by omega) (by omega)).to ?_))
        rw [if_neg (isOf_none e0 e1), Int.zero_add]
theorem planOf_length {st : Bool} {l : List S45} (h : l.all (fun a => validB a.f0 a.f1 a.f2 a.f3 a.f4) = true) : (planOf st l).length ≤ 74 * l.length := by
  unfold planOf
  rw [srt_length]
  exact plansOf_flatten st l h 0
theorem gameB_facts {l : List S45} {wo : Int} (h : gameB l wo = true) : l.length ≤ 6 ∧ 0 ≤ wo ∧ wo ≤ 1073741824 ∧ l.all (fun a => validB a.f0 a.f1 a.f2 a.f3 a.f4) = true := by
  unfold gameB at h
  simp only [Bool.and_eq_true, decide_eq_true_eq] at h
  exact ⟨h.1.1.1, h.1.1.2, h.1.2, h.2⟩
/-- What following is worth. -/
def followOf (st : Bool) (l : List S45) (wo p : Int) : Int := wo * slotsOf l p - tot (planOf st l) p
theorem follow_eq (l : List S45) (st : Bool) (wo p : Int) (hl : l.length ≤ 1000000) (hc : ∀ a ∈ l, a.f4.length ≤ 9223372036854775807) : Ev (fun k => payoff_Follow.f k l st wo p) (if gameB l wo = true then if p < 1 ∨ peers l < p then (0, 1) else (followOf st l wo p, 0) else (0, 44)) := by
  unfold payoff_Follow.f
  refine Ev.bind (playPlan_eq l st wo hl hc) ?_
  by_cases h : gameB l wo = true
  · rw [if_pos h, if_pos h]
    refine Ev.pos rfl ?_
    have hf := gameB_facts h
    by_cases h1 : p < 1
    · refine Ev.pos h1 ((Ev.now _).to ?_)
      rw [if_pos (Or.inl h1)]
    · refine Ev.neg h1 (Ev.bind (playPeers_eq l st wo hl) ?_)
      by_cases h2 : p > peers l
      · refine Ev.pos h2 ((Ev.now _).to ?_)
        rw [if_pos (Or.inr h2)]
      · refine Ev.neg h2 ?_
        rw [if_neg (by omega)]
        have hp := planOf_length (st := st) hf.2.2.2
        refine (follow_l0 p (planOf st l) (by omega) l st wo hf.1 hf.2.1 hf.2.2.1 l.length 0 0 (by omega) (by omega) (by omega)).to ?_
        simp [followOf]
  · rw [if_neg h, if_neg h]
    exact Ev.neg (by decide) (Ev.now _)
theorem side_eq (a : S45) (p : Int) : storagebarterref29_Side.f a.f0 a.f1 a.f2 a.f3 a.f4 p = some (if p = a.f0 then 0 else if p = a.f1 then 1 else -1) := by
  unfold storagebarterref29_Side.f
  repeat' split
  all_goals rfl
def wantL (st : Bool) (wo p : Int) : List S45 → Int → Int
  | [], _ => 0
  | a :: l, i => (if isOf a p = true then wo - tot (duty_PlanOf a.f0 a.f1 a.f2 a.f3 a.f4 i st) p else 0) + wantL st wo p l (i + 1)
theorem both_tot {a b s t k p : Int} (ha : a ≠ p) (hb : b ≠ p) : tot (duty_both a b s t k) p = 0 := tot_none (by
  intro d hd
  simp only [duty_both, List.mem_cons, List.not_mem_nil, or_false] at hd
  rcases hd with rfl | rfl
  · exact ha
  · exact hb)
theorem mid_tot {a b s : Int} {cs : List Int} {p : Int} (ha : a ≠ p) (hb : b ≠ p) (n : Nat) : ∀ t, tot (duty_PlanMid a b s cs n t) p = 0 := by
  induction n with
  | zero => intro t; rfl
  | succ n ih =>
    intro t
    simp only [duty_PlanMid, duty_PlanStep, tot_append]
    rw [ih, both_tot ha hb]
    split
    · rw [both_tot ha hb]; rfl
    · rfl
theorem not_of_tot {a : S45} {p : Int} (h : isOf a p = false) (i : Int) (st : Bool) : tot (duty_PlanOf a.f0 a.f1 a.f2 a.f3 a.f4 i st) p = 0 := by
  simp only [isOf, Bool.or_eq_false_iff, decide_eq_false_iff_not] at h
  unfold duty_PlanOf duty_PlanHead
  simp only [List.flatMap_cons, List.flatMap_nil, List.append_nil, tot_append]
  rw [both_tot h.1 h.2, both_tot h.1 h.2, both_tot h.1 h.2, both_tot h.1 h.2, mid_tot h.1 h.2]
  split
  · rw [both_tot h.1 h.2]; rfl
  · rfl
theorem want_follow (st : Bool) (wo p : Int) (l : List S45) : ∀ i, wantL st wo p l i = wo * slotsOf l p - ((plansOf st l i).map (fun m => tot m p)).sum := by
  induction l with
  | nil => intro i; simp [wantL, slotsOf, plansOf]
  | cons a l ih =>
    intro i
    simp only [wantL, slotsOf, plansOf, List.map_cons, List.sum_cons]
    rw [ih (i + 1)]
    by_cases h : isOf a p = true
    · rw [if_pos h, if_pos h, Int.mul_add, Int.mul_one]
      omega
    · rw [if_neg h, if_neg h, not_of_tot (by simpa using h), Int.zero_add, Int.zero_add, Int.zero_add]
theorem law_l1 (st : Bool) (wo p : Int) (h0 : 0 ≤ wo) (h1 : wo ≤ 1073741824) (l : List S45) (hl : l.length ≤ 6) (hv : l.all (fun a => validB a.f0 a.f1 a.f2 a.f3 a.f4) = true) {R : Bool} (F : Ev (fun k => storagebarterlaw32_PayoffFollows.l1 k p (wantL st wo p l 0) l l.length l.length l st wo) R) (d : Nat) : ∀ (i : Nat) (acc : Int), i + d = l.length → -10000 * i ≤ acc → acc ≤ 1073741824 * i → acc + wantL st wo p (l.drop i) i = wantL st wo p l 0 →
    Ev (fun k => storagebarterlaw32_PayoffFollows.l1 k p acc l l.length i l st wo) R := by
  induction d with
  | zero =>
    intro i acc hi _ _ ha
    rw [List.drop_of_length_le (by omega)] at ha
    simp only [wantL, Int.add_zero] at ha
    rw [ha, show (i : Int) = l.length by omega]
    exact F
  | succ d ih =>
    intro i acc hi hb0 hb1 ha
    have hlt : i < l.length := by omega
    have hvi := List.all_eq_true.1 hv l[i] (List.getElem_mem _)
    rw [List.drop_eq_getElem_cons hlt] at ha
    simp only [wantL] at ha
    refine Ev.step (fun k => storagebarterlaw32_PayoffFollows.l1.eq_2 ..) (Ev.pos (by omega) (Ev.pos (by omega) (Ev.pos (by omega) ?_)))
    rw [rdA_at hlt, wr ((i : Int) + 1) (by omega) (by omega)]
    refine Ev.got (side_eq l[i] p) ?_
    have hpl := planOf1_length l[i] hvi i st
    have ht := tot_bd (duty_PlanOf l[i].f0 l[i].f1 l[i].f2 l[i].f3 l[i].f4 i st) p
    by_cases h : isOf l[i] p = true
    · rw [if_pos h] at ha
      have hs : (if p = l[i].f0 then (0 : Int) else if p = l[i].f1 then 1 else -1) ≥ 0 := by
        simp only [isOf, Bool.or_eq_true, decide_eq_true_eq] at h
        split
        · omega
        · split
          · omega
          · omega
      refine Ev.pos hs (Ev.bind (refPlan_eq l[i] i st (by have := valid_checks hvi; omega)) ?_)
      rw [if_neg (by omega), if_neg (by simp [hvi])]
      refine Ev.bind (refTotal_eq p _ (by simp only; omega)) ?_
      simp only
      rw [wr (wo - _) (by omega) (by omega), wr (acc + _) (by omega) (by omega)]
      exact ih (i + 1) _ (by omega) (by omega) (by omega) (by simp only [Int.natCast_add, Int.natCast_one] at *; omega)
    · rw [if_neg h] at ha
      have hs : ¬ (if p = l[i].f0 then (0 : Int) else if p = l[i].f1 then 1 else -1) ≥ 0 := by
        simp only [isOf, Bool.or_eq_true, decide_eq_true_eq] at h
        rw [if_neg (by omega), if_neg (by omega)]
        omega
      refine Ev.neg hs (ih (i + 1) acc (by omega) (by omega) (by omega) (by simp only [Int.natCast_add, Int.natCast_one] at *; omega))
theorem law_l0 (st : Bool) (wo : Int) (h0 : 0 ≤ wo) (h1 : wo ≤ 100) (l : List S45) (hl : l.length ≤ 6) (ha : ∀ a ∈ l, ArrOk a) (hP : peers l ≤ 3) (d : Nat) : ∀ p : Int, 1 ≤ p → p ≤ 4 → 4 - p = d → Ev (fun k => storagebarterlaw32_PayoffFollows.l0 k p l st wo) true := by
  have hv : l.all (fun a => validB a.f0 a.f1 a.f2 a.f3 a.f4) = true := List.all_eq_true.2 (fun a h => (ha a h).valid)
  have hg := gameB_of ha hl h0 (by omega)
  have hcl : ∀ a ∈ l, a.f4.length ≤ 9223372036854775807 := fun a h => by have := valid_checks (ha a h).valid; omega
  induction d with
  | zero =>
    intro p hp hp1 hd
    refine Ev.step (fun k => storagebarterlaw32_PayoffFollows.l0.eq_2 ..) (Ev.bind (refPeers_eq l st wo (by omega)) (Ev.neg (by omega) (Ev.now _)))
  | succ d ih =>
    intro p hp hp1 hd
    refine Ev.step (fun k => storagebarterlaw32_PayoffFollows.l0.eq_2 ..) (Ev.bind (refPeers_eq l st wo (by omega)) ?_)
    by_cases hle : p ≤ peers l
    · refine Ev.pos hle (law_l1 st wo p h0 (by omega) l hl hv ?_ l.length 0 0 (by omega) (by omega) (by omega) (by simp))
      refine Ev.step (fun k => storagebarterlaw32_PayoffFollows.l1.eq_2 ..) (Ev.neg (by omega) (Ev.bind (follow_eq l st wo p (by omega) hcl) ?_))
      rw [if_pos hg, if_neg (by omega)]
      refine Ev.pos rfl (Ev.pos ?_ ?_)
      · simp only
        rw [want_follow, followOf, planOf_tot]
      · rw [wr (p + 1) (by omega) (by omega)]
        exact ih (p + 1) (by omega) (by omega) (by omega)
    · exact Ev.neg hle (Ev.now _)
theorem byte_of {x : Int} (h : (Lit.int .u8 x).wf = true) : 0 ≤ x ∧ x ≤ 255 := by
  simp [Lit.wf, IntKind.min, IntKind.max, IntKind.signed, IntKind.bits] at h
  omega
theorem new_ok {l0 : List Int} (hw : ∀ x ∈ l0, (Lit.int .u8 x).wf = true) : ∃ s, storagebarterplay_New.f l0 = some (s, 0) ∧ Seeds s := by
  have hb : ∀ x ∈ l0, 0 ≤ x ∧ x ≤ 255 := fun x hx => byte_of (hw x hx)
  unfold storagebarterplay_New.f
  by_cases h : (l0.length : Int) > 300
  · rw [if_pos h, if_pos (by omega)]
    exact ⟨_, rfl, by rw [List.length_take]; omega, fun x hx => hb x (List.mem_of_mem_take hx)⟩
  · rw [if_neg h]
    exact ⟨_, rfl, by omega, hb⟩
theorem sane32 : Ev (fun k => storagebarterlaw32_sane.f k) true := Ev.of storagebarterlaw32_sane.mono (k := 60) (by decide +kernel)
theorem payoffFollows_pure : storagebarterlaw32_PayoffFollows.Pure := by
  intro l0 hl hl2 hw
  obtain ⟨s, hN, hs⟩ := new_ok hw
  obtain ⟨l, st, wo, p, e1, e2, e3, e4, e5, e6, e7, e8⟩ := game_ok hs 4 (by omega) (by omega) 0 (by omega) (by omega)
  have hP : peers l ≤ 3 := peersL_le l 3 (fun a ha => ⟨(e5 a ha).a1, (e5 a ha).b1⟩) 0 (by omega)
  have : Ev (fun k => storagebarterlaw32_PayoffFollows.f k l0) true := by
    unfold storagebarterlaw32_PayoffFollows.f
    refine Ev.bind sane32 (Ev.pos rfl (Ev.got hN (Ev.bind e8 ?_)))
    exact law_l0 st wo e6 e7 l (by omega) e5 hP 3 1 (by omega) (by omega) (by omega)
  exact this.rounds
end Go.Proofs.YtpklljejiofnfaaDoor.PAll
namespace Go.Proofs.YtpklljejiofnfaaDoor.Pure
open Go.Proofs.YtpklljejiofnfaaDoor.PAll
theorem PayoffFollows : storagebarterlaw32_PayoffFollows.Pure := payoffFollows_pure
end Go.Proofs.YtpklljejiofnfaaDoor.Pure
