import Derived.Test.YtpklljejiofnfaaDoorQb
set_option linter.unusedVariables false
set_option linter.unusedSimpArgs false
namespace Go.Proofs.YtpklljejiofnfaaDoor.PAll
open Go.RowKit Go.Proofs.YtpklljejiofnfaaDoorW.PrintWords Go.Proofs.YtpklljejiofnfaaDoorW.PrintLast
open Go.Proofs.YtpklljejiofnfaaDoorW.PrintMore
open StableSort
/-! Costs and totals -/
def cost (k : Int) : Int := if k = 1 then 8 else if k = 2 then 8 else if k = 3 then 1 else if k = 4 then 2 else if k = 5 then 1 else if k = 6 then 1 else if k = 7 then 8 else 0
theorem cost_bd (k : Int) : 0 ≤ cost k ∧ cost k ≤ 8 := by
  unfold cost
  repeat' split
  all_goals omega
theorem refCost_eq (k : Int) : storagebarterref28_Cost.f k = some (cost k) := by
  unfold storagebarterref28_Cost.f cost
  repeat' split
  all_goals rfl
theorem dutyCost_eq (k : Int) : duty_Cost.f k = some (cost k) := by
  unfold duty_Cost.f
  by_cases h0 : k < 0
  · rw [if_pos h0]
    unfold cost
    simp [show k ≠ 1 by omega, show k ≠ 2 by omega, show k ≠ 3 by omega, show k ≠ 4 by omega, show k ≠ 5 by omega, show k ≠ 6 by omega, show k ≠ 7 by omega]
  · by_cases h8 : k ≥ 8
    · rw [if_neg h0, if_pos h8]
      unfold cost
      simp [show k ≠ 1 by omega, show k ≠ 2 by omega, show k ≠ 3 by omega, show k ≠ 4 by omega, show k ≠ 5 by omega, show k ≠ 6 by omega, show k ≠ 7 by omega]
    · rw [if_neg h0, if_neg h8]
      obtain rfl | rfl | rfl | rfl | rfl | rfl | rfl | rfl : k = 0 ∨ k = 1 ∨ k = 2 ∨ k = 3 ∨ k = 4 ∨ k = 5 ∨ k = 6 ∨ k = 7 := by omega
      all_goals rfl
def tot (l : List S61) (p : Int) : Int := (l.map (fun d => if d.f2 = p then cost d.f3 else 0)).sum
theorem tot_nil (p : Int) : tot [] p = 0 := rfl
theorem tot_cons (d : S61) (l : List S61) (p : Int) : tot (d :: l) p = (if d.f2 = p then cost d.f3 else 0) + tot l p := by simp [tot]
theorem tot_append (l m : List S61) (p : Int) : tot (l ++ m) p = tot l p + tot m p := by simp [tot]
theorem tot_bd (l : List S61) (p : Int) : 0 ≤ tot l p ∧ tot l p ≤ 8 * l.length := by
  induction l with
  | nil => simp [tot]
  | cons d l ih =>
    rw [tot_cons]
    have := cost_bd d.f3
    simp only [List.length_cons]
    split <;> omega
theorem tot_perm {l m : List S61} (h : l.Perm m) (p : Int) : tot l p = tot m p := by
  induction h with
  | nil => rfl
  | cons d _ ih => rw [tot_cons, tot_cons, ih]
  | swap a b l => simp only [tot_cons]; omega
  | trans _ _ h1 h2 => exact h1.trans h2
theorem tot_srt (l : List S61) (p : Int) : tot (dsrt l) p = tot l p := tot_perm (srt_perm l) p
theorem tot_flatten (ls : List (List S61)) (p : Int) : tot ls.flatten p = (ls.map (fun l => tot l p)).sum := by
  induction ls with
  | nil => rfl
  | cons l ls ih => rw [List.flatten_cons, tot_append, ih]; simp
theorem tot_none {l : List S61} {p : Int} (h : ∀ d ∈ l, d.f2 ≠ p) : tot l p = 0 := by
  induction l with
  | nil => rfl
  | cons d l ih => rw [tot_cons, if_neg (h d List.mem_cons_self), ih (fun x hx => h x (List.mem_cons_of_mem _ hx))]; rfl
theorem rdT_at {l : List S61} {i : Nat} (h : i < l.length) : rd_T61 l (i : Int) = l[i] := by simp [rd_T61, List.getD_eq_getElem?_getD, h]
theorem rdA_at {l : List S45} {i : Nat} (h : i < l.length) : rd_T45 l (i : Int) = l[i] := by simp [rd_T45, List.getD_eq_getElem?_getD, h]
theorem refTotal_l0 (p : Int) (l : List S61) (hl : l.length ≤ 1000000) (d : Nat) : ∀ (i : Nat) (acc : Int), i + d = l.length → 0 ≤ acc → acc + 8 * d ≤ 100000000 → Ev (fun k => storagebarterref28_Total.l0 k l p acc i) (acc + tot (l.drop i) p) := by
  induction d with
  | zero =>
    intro i acc hi h0 h1
    refine Ev.step (fun k => storagebarterref28_Total.l0.eq_2 ..) (Ev.neg (by omega) ((Ev.now _).to ?_))
    rw [List.drop_of_length_le (by omega), tot_nil, Int.add_zero]
  | succ d ih =>
    intro i acc hi h0 h1
    have hc := cost_bd (l[i]'(by omega)).f3
    refine Ev.step (fun k => storagebarterref28_Total.l0.eq_2 ..) (Ev.pos (by omega) (Ev.pos (by omega) ?_))
    rw [rdT_at (show i < l.length by omega), List.drop_eq_getElem_cons (show i < l.length by omega), wr ((i : Int) + 1) (by omega) (by omega), tot_cons]
    by_cases h : (l[i]'(by omega)).f2 = p
    · refine Ev.pos h (Ev.got (refCost_eq _) ?_)
      rw [wr (acc + cost _) (by omega) (by omega)]
      refine (ih (i + 1) _ (by omega) (by omega) (by omega)).to ?_
      rw [if_pos h]
      omega
    · refine Ev.neg h ((ih (i + 1) acc (by omega) (by omega) (by omega)).to ?_)
      rw [if_neg h]
      omega
theorem refTotal_eq (p : Int) (l : List S61) (hl : l.length ≤ 1000000) : Ev (fun k => storagebarterref28_Total.f k l p) (tot l p) := (refTotal_l0 p l hl l.length 0 0 (by omega) (by omega) (by omega)).to (by simp)
theorem dutyTotal_l0 (p : Int) (l : List S61) (hl : l.length ≤ 1000000) (d : Nat) : ∀ (i : Nat) (acc : Int), i + d = l.length → 0 ≤ acc → acc + 8 * d ≤ 100000000 → Ev (fun k => duty_Total.l0 k p acc l l.length i) (acc + tot (l.drop i) p) := by
  induction d with
  | zero =>
    intro i acc hi h0 h1
    refine Ev.step (fun k => duty_Total.l0.eq_2 ..) (Ev.neg (by omega) ((Ev.now _).to ?_))
    rw [List.drop_of_length_le (by omega), tot_nil, Int.add_zero]
  | succ d ih =>
    intro i acc hi h0 h1
    have hc := cost_bd (l[i]'(by omega)).f3
    refine Ev.step (fun k => duty_Total.l0.eq_2 ..) (Ev.pos (by omega) (Ev.pos (by omega) (Ev.pos (by omega) ?_)))
    rw [rdT_at (show i < l.length by omega), List.drop_eq_getElem_cons (show i < l.length by omega), wr ((i : Int) + 1) (by omega) (by omega), tot_cons]
    by_cases h : (l[i]'(by omega)).f2 = p
    · refine Ev.pos h (Ev.got (dutyCost_eq _) ?_)
      rw [wr (acc + cost _) (by omega) (by omega)]
      refine (ih (i + 1) _ (by omega) (by omega) (by omega)).to ?_
      rw [if_pos h]
      omega
    · refine Ev.neg h ((ih (i + 1) acc (by omega) (by omega) (by omega)).to ?_)
      rw [if_neg h]
      omega
theorem dutyTotal_eq (p : Int) (l : List S61) (hl : l.length ≤ 1000000) : Ev (fun k => duty_Total.f k l p) (tot l p) := (dutyTotal_l0 p l hl l.length 0 0 (by omega) (by omega) (by omega)).to (by simp)
/-! The greatest number of a peer -/
def peersL : List S45 → Int → Int
  | [], n => n
  | a :: l, n => peersL l (mx (mx n a.f0) a.f1)
def peers (l : List S45) : Int := peersL l 0
theorem refPeers_l0 (l : List S45) (st : Bool) (wo : Int) (hl : l.length ≤ 1000000) (d : Nat) : ∀ (i : Nat) (n : Int), i + d = l.length → Ev (fun k => storagebarterref31_Peers.l0 k n i l st wo) (peersL (l.drop i) n) := by
  induction d with
  | zero =>
    intro i n hi
    refine Ev.step (fun k => storagebarterref31_Peers.l0.eq_2 ..) (Ev.neg (by omega) ((Ev.now _).to ?_))
    rw [List.drop_of_length_le (by omega)]
    rfl
  | succ d ih =>
    intro i n hi
    refine Ev.step (fun k => storagebarterref31_Peers.l0.eq_2 ..) (Ev.pos (by omega) (Ev.pos (by omega) ?_))
    rw [rdA_at (show i < l.length by omega), List.drop_eq_getElem_cons (show i < l.length by omega), wr ((i : Int) + 1) (by omega) (by omega)]
    exact ih (i + 1) _ (by omega)
theorem refPeers_eq (l : List S45) (st : Bool) (wo : Int) (hl : l.length ≤ 1000000) : Ev (fun k => storagebarterref31_Peers.f k l st wo) (peers l) := (refPeers_l0 l st wo hl l.length 0 0 (by omega)).to (by simp [peers])
theorem playPeers_l0 (l : List S45) (hl : l.length ≤ 1000000) (d : Nat) : ∀ (i : Nat) (n : Int), i + d = l.length → Ev (fun k => play_Peers.l0 k n l l.length i) (peersL (l.drop i) n) := by
  induction d with
  | zero =>
    intro i n hi
    refine Ev.step (fun k => play_Peers.l0.eq_2 ..) (Ev.neg (by omega) ((Ev.now _).to ?_))
    rw [List.drop_of_length_le (by omega)]
    rfl
  | succ d ih =>
    intro i n hi
    refine Ev.step (fun k => play_Peers.l0.eq_2 ..) (Ev.pos (by omega) (Ev.pos (by omega) (Ev.pos (by omega) ?_)))
    rw [rdA_at (show i < l.length by omega), List.drop_eq_getElem_cons (show i < l.length by omega), wr ((i : Int) + 1) (by omega) (by omega)]
    exact ih (i + 1) _ (by omega)
theorem playPeers_eq (l : List S45) (st : Bool) (wo : Int) (hl : l.length ≤ 1000000) : Ev (fun k => play_Peers.f k l st wo) (peers l) := (playPeers_l0 l hl l.length 0 0 (by omega)).to (by simp [peers])
theorem peersL_ge (l : List S45) : ∀ n, n ≤ peersL l n ∧ ∀ a ∈ l, a.f0 ≤ peersL l n ∧ a.f1 ≤ peersL l n := by
  induction l with
  | nil => intro n; exact ⟨Int.le_refl _, fun a h => by cases h⟩
  | cons b l ih =>
    intro n
    have h := ih (mx (mx n b.f0) b.f1)
    have h1 : n ≤ mx (mx n b.f0) b.f1 ∧ b.f0 ≤ mx (mx n b.f0) b.f1 ∧ b.f1 ≤ mx (mx n b.f0) b.f1 := by unfold mx; omega
    refine ⟨by unfold peersL; omega, fun a ha => ?_⟩
    unfold peersL
    rcases List.mem_cons.1 ha with rfl | ha
    · omega
    · exact h.2 a ha
theorem peersL_le (l : List S45) (m : Int) (h : ∀ a ∈ l, a.f0 ≤ m ∧ a.f1 ≤ m) : ∀ n, n ≤ m → peersL l n ≤ m := by
  induction l with
  | nil => intro n h; exact h
  | cons b l ih =>
    intro n hn
    unfold peersL
    have := h b List.mem_cons_self
    exact ih (fun a ha => h a (List.mem_cons_of_mem _ ha)) _ (by unfold mx; omega)
/-! Which games are valid, and their plans -/
def gameB (l : List S45) (wo : Int) : Bool := decide (l.length ≤ 6) && decide (0 ≤ wo) && decide (wo ≤ 1073741824) && l.all (fun a => validB a.f0 a.f1 a.f2 a.f3 a.f4)
theorem dutyValid_ev (a : S45) (hl : a.f4.length ≤ 9223372036854775807) : Ev (fun k => duty_Valid.f k a.f0 a.f1 a.f2 a.f3 a.f4) (validB a.f0 a.f1 a.f2 a.f3 a.f4) := Ev.of (duty_Valid.mono _ _ _ _ _) (duty_Valid_eq _ _ _ _ _ hl)
theorem validX_l0 (l : List S45) (hl : l.length ≤ 1000000) (hc : ∀ a ∈ l, a.f4.length ≤ 9223372036854775807) (d : Nat) : ∀ i : Nat, i + d = l.length → ∃ r : Int, -1 ≤ r ∧ (0 ≤ r ↔ (l.drop i).all (fun a => validB a.f0 a.f1 a.f2 a.f3 a.f4) = false) ∧ Ev (fun k => api_Arrangement_115.l0 k l l.length i) r := by
  induction d with
  | zero =>
    intro i hi
    refine ⟨-1, by omega, ?_, Ev.step (fun k => api_Arrangement_115.l0.eq_2 ..) (Ev.neg (by omega) (Ev.now _))⟩
    rw [List.drop_of_length_le (by omega)]
    simp
  | succ d ih =>
    intro i hi
    have hlt : i < l.length := by omega
    obtain ⟨r, h1, h2, h3⟩ := ih (i + 1) (by omega)
    have hv := dutyValid_ev l[i] (hc _ (List.getElem_mem _))
    have hx : Ev (fun k => play_Valid_1.f k l[i].f0 l[i].f1 l[i].f2 l[i].f3 l[i].f4) (!validB l[i].f0 l[i].f1 l[i].f2 l[i].f3 l[i].f4) := by
      unfold play_Valid_1.f
      exact Ev.bind hv (Ev.now _)
    by_cases h : validB l[i].f0 l[i].f1 l[i].f2 l[i].f3 l[i].f4 = true
    · refine ⟨r, h1, ?_, Ev.step (fun k => api_Arrangement_115.l0.eq_2 ..) (Ev.pos (by omega) (Ev.pos (by omega) (Ev.pos (by omega) ?_)))⟩
      · rw [h2, List.drop_eq_getElem_cons hlt, List.all_cons, h]
        rfl
      · rw [rdA_at hlt, wr ((i : Int) + 1) (by omega) (by omega)]
        exact Ev.bind hx (Ev.neg (by simp [h]) h3)
    · refine ⟨i, by omega, ?_, Ev.step (fun k => api_Arrangement_115.l0.eq_2 ..) (Ev.pos (by omega) (Ev.pos (by omega) (Ev.pos (by omega) ?_)))⟩
      · rw [List.drop_eq_getElem_cons hlt, List.all_cons]
        have h' : validB l[i].f0 l[i].f1 l[i].f2 l[i].f3 l[i].f4 = false := by simpa using h
        rw [h']
        simp
      · rw [rdA_at hlt]
        exact Ev.bind hx (Ev.pos (by simpa using h) (Ev.now _))
theorem playValid_eq (l : List S45) (st : Bool) (wo : Int) (hl : l.length ≤ 1000000) (hc : ∀ a ∈ l, a.f4.length ≤ 9223372036854775807) : Ev (fun k => play_Valid.f k l st wo) (gameB l wo) := by
  unfold play_Valid.f gameB
  by_cases h1 : l.length ≤ 6
  · refine Ev.pos (by omega) ?_
    by_cases h2 : 0 ≤ wo
    · refine Ev.pos h2 ?_
      by_cases h3 : wo ≤ 1073741824
      · refine Ev.pos h3 ?_
        obtain ⟨r, e1, e2, e3⟩ := validX_l0 l hl hc l.length 0 (by omega)
        have hx : Ev (fun k => api_Arrangement_91.f k l) (decide (r ≥ 0)) := by
          unfold api_Arrangement_91.f
          exact Ev.bind e3 (Ev.now _)
        refine Ev.bind hx ((Ev.now _).to ?_)
        rw [decide_eq_true h1, decide_eq_true h2, decide_eq_true h3]
        rw [List.drop_zero] at e2
        by_cases h : 0 ≤ r
        · rw [decide_eq_true h, e2.1 h]; rfl
        · rw [decide_eq_false h]
          have : ¬ l.all (fun a => validB a.f0 a.f1 a.f2 a.f3 a.f4) = false := fun e => h (e2.2 e)
          simpa using this
      · exact Ev.neg h3 ((Ev.now _).to (by simp [h3]))
    · exact Ev.neg h2 ((Ev.now _).to (by simp [h2]))
  · exact Ev.neg (by omega) ((Ev.now _).to (by simp [h1]))
theorem gameB_of {l : List S45} {wo : Int} (h : ∀ a ∈ l, ArrOk a) (hl : l.length ≤ 6) (h0 : 0 ≤ wo) (h1 : wo ≤ 1073741824) : gameB l wo = true := by
  unfold gameB
  rw [decide_eq_true hl, decide_eq_true h0, decide_eq_true h1]
  simp only [Bool.true_and, List.all_eq_true]
  exact fun a ha => (h a ha).valid
/-- The plan of each slot, from the number i on. -/
def plansOf (st : Bool) : List S45 → Int → List (List S61)
  | [], _ => []
  | a :: l, i => duty_PlanOf a.f0 a.f1 a.f2 a.f3 a.f4 i st :: plansOf st l (i + 1)
def planOf (st : Bool) (l : List S45) : List S61 := dsrt (plansOf st l 0).flatten
theorem plansOf_length (st : Bool) (l : List S45) : ∀ i, (plansOf st l i).length = l.length := by
  induction l with
  | nil => intro i; rfl
  | cons a l ih => intro i; simp [plansOf, ih]
theorem planOf1_length (a : S45) (h : validB a.f0 a.f1 a.f2 a.f3 a.f4 = true) (i : Int) (st : Bool) : (duty_PlanOf a.f0 a.f1 a.f2 a.f3 a.f4 i st).length ≤ 74 := by
  have hf := validB_facts h
  have hm := duty_PlanMid_length a.f0 a.f1 i a.f4 a.f3.toNat (a.f2 + 1)
  unfold duty_PlanOf
  have hh : (duty_PlanHead a.f0 a.f1 i a.f2).length = 8 := rfl
  have ht : (if st = true then duty_both a.f0 a.f1 i (a.f2 + a.f3 + 1) 7 else []).length ≤ 2 := by split <;> simp [duty_both]
  simp only [List.length_append]
  omega
theorem plansOf_flatten (st : Bool) (l : List S45) (h : l.all (fun a => validB a.f0 a.f1 a.f2 a.f3 a.f4) = true) : ∀ i, (plansOf st l i).flatten.length ≤ 74 * l.length := by
  induction l with
  | nil => intro i; simp [plansOf]
  | cons a l ih =>
    intro i
    rw [List.all_cons, Bool.and_eq_true] at h
    have := ih h.2 (i + 1)
    have := planOf1_length a h.1 i st
    simp only [plansOf, List.flatten_cons, List.length_append, List.length_cons]
    omega
theorem dutyPlan_eq (a : S45) (s : Int) (st : Bool) (h : validB a.f0 a.f1 a.f2 a.f3 a.f4 = true) (h0 : 0 ≤ s) (h1 : s < 6) : duty_Plan.f a.f0 a.f1 a.f2 a.f3 a.f4 s st = some (duty_PlanOf a.f0 a.f1 a.f2 a.f3 a.f4 s st, 0) := by
  unfold duty_Plan.f
  rw [if_neg (by omega), if_neg (by simp [h])]
theorem playPlan_l0 (l : List S45) (st : Bool) (wo : Int) (hl : l.length ≤ 6) (h : l.all (fun a => validB a.f0 a.f1 a.f2 a.f3 a.f4) = true) (d : Nat) : ∀ (i : Nat) (acc : List (List S61)), i + d = l.length → acc.length = i → acc ++ plansOf st (l.drop i) i = plansOf st l 0 → Ev (fun k => play_Plan.l0 k acc l l.length i l st wo) (planOf st l, 0) := by
  induction d with
  | zero =>
    intro i acc hi ha he
    refine Ev.step (fun k => play_Plan.l0.eq_2 ..) (Ev.neg (by omega) ?_)
    rw [List.drop_of_length_le (by omega)] at he
    simp only [plansOf, List.append_nil] at he
    have hf := plansOf_flatten st l h 0
    obtain ⟨K, hK⟩ := duty_Merge_eq (plansOf st l 0) (by rw [plansOf_length]; omega) (by omega)
    rw [he]
    exact Ev.bind ⟨K, hK⟩ (Ev.now _)
  | succ d ih =>
    intro i acc hi ha he
    have hlt : i < l.length := by omega
    have hv := List.all_eq_true.1 h l[i] (List.getElem_mem _)
    refine Ev.step (fun k => play_Plan.l0.eq_2 ..) (Ev.pos (by omega) (Ev.pos (by omega) (Ev.pos (by omega) ?_)))
    rw [rdA_at hlt, wr ((i : Int) + 1) (by omega) (by omega)]
    refine Ev.got (dutyPlan_eq l[i] i st hv (by omega) (by omega)) (Ev.pos (by omega) (ih (i + 1) _ (by omega) (by simp [ha]) ?_))
    rw [List.drop_eq_getElem_cons hlt] at he
    simp only [plansOf] at he
    rw [List.append_assoc]
    exact he
theorem playPlan_eq (l : List S45) (st : Bool) (wo : Int) (hl : l.length ≤ 1000000) (hc : ∀ a ∈ l, a.f4.length ≤ 9223372036854775807) : Ev (fun k => play_Plan.f k l st wo) (if gameB l wo = true then (planOf st l, 0) else ([], 44)) := by
  unfold play_Plan.f
  refine Ev.bind (playValid_eq l st wo hl hc) ?_
  by_cases h : gameB l wo = true
  · refine Ev.pos h ?_
    rw [if_pos h]
    unfold gameB at h
    simp only [Bool.and_eq_true, decide_eq_true_eq] at h
    exact playPlan_l0 l st wo h.1.1.1 h.2 l.length 0 [] (by omega) rfl rfl
  · rw [if_neg h]
    exact Ev.neg h (Ev.now _)
theorem planOf_tot (st : Bool) (l : List S45) (p : Int) : tot (planOf st l) p = ((plansOf st l 0).map (fun m => tot m p)).sum := by
  unfold planOf
  rw [tot_srt, tot_flatten]
end Go.Proofs.YtpklljejiofnfaaDoor.PAll
