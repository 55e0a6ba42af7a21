-- Printed by this session's own program (not print.sh's)
import Derived.Test.YtccchkjbcokfnaaDoorPDutyAllx0
import Derived.Test.YtccchkjbcokfnaaDoorPDutyAllx1
import Derived.Test.YtccchkjbcokfnaaDoorPDutyAllx3
import Derived.Test.YtccchkjbcokfnaaDoorPDutyAllx4
import Derived.Test.YtccchkjbcokfnaaDoorPDutyAllx9
namespace Go.Proofs.YtccchkjbcokfnaaDoor.PDutyAll
open Go.RowKit Go.Proofs.YtccchkjbcokfnaaDoorW.PrintWords Go.Proofs.YtccchkjbcokfnaaDoorW.PrintLast Go.Proofs.YtccchkjbcokfnaaDoorW.PrintMore
attribute [local go_sem] max2_int min2_int max_two min_two max_three min_three max_four min_four   -- for this text's walks alone
set_option linter.unusedVariables false
set_option linter.unusedSimpArgs false

attribute [local go_sem high] eqA42
/-! ### storagebarterlaw28_DutyAll: function 4 -/
mutual
def storagebarterlaw28_DutyAll.l0 : Nat → List (List (S42)) → Int → Int → List Int → Int → Option (Bool)
  | 0, _, _, _, _, _ => none
  | k + 1, x4, x5, x6, x212000, x212001 => if x6 > 0 then ((storagebarterplay_Dice_Arrangement.f k x212000 x212001 4).bind fun bt214 => ((storagebarterplay_Dice_Pick.f x212000 bt214.2.2.2.2.2 2).bind fun bt222 => ((duty_Plan.f bt214.1 bt214.2.1 bt214.2.2.1 bt214.2.2.2.1 bt214.2.2.2.2.1 x6 (bt222.1 == 0)).bind fun bt224 => (if bt224.2 = 0 then (if x4.length < 5864062014805 then (storagebarterlaw28_DutyAll.l0 k (x4 ++ [bt224.1]) (wrap64 (x5 + (bt224.1.length : Int))) (wrap64 (x6 - 1)) x212000 bt222.2) else (none)) else (some false))))) else ((duty_Merge.f k x4).bind fun t231 => (if (t231.length : Int) = x5 then (if 8 ≤ 35184372088832 then (storagebarterlaw28_DutyAll.l1 k x4 x5 t231 (List.replicate 8 0) t231 (t231.length : Int) 0) else (none)) else (some false)))
def storagebarterlaw28_DutyAll.l1 : Nat → List (List (S42)) → Int → List (S42) → List Int → List (S42) → Int → Int → Option (Bool)
  | 0, _, _, _, _, _, _, _ => none
  | k + 1, x4, x5, x9, x10, x55, x56, x57 => if x57 < x56 then (if 0 ≤ x57 then (if x57 < (x55.length : Int) then (if x57 > 0 then (if 0 ≤ (wrap64 (x57 - 1)) then (if (wrap64 (x57 - 1)) < (x9.length : Int) then (if ((rd_T42 x9 (wrap64 (x57 - 1))).f0) > ((rd_T42 x55 x57).f0) then (storagebarterlaw28_DutyAll.j2 k x4 x5 x9 x10 x55 x56 x57 true ((rd_T42 x55 x57).f0) ((rd_T42 x55 x57).f1) ((rd_T42 x55 x57).f2) ((rd_T42 x55 x57).f3)) else (if ((rd_T42 x9 (wrap64 (x57 - 1))).f0) = ((rd_T42 x55 x57).f0) then (storagebarterlaw28_DutyAll.j2 k x4 x5 x9 x10 x55 x56 x57 (decide (((rd_T42 x9 (wrap64 (x57 - 1))).f1) > ((rd_T42 x55 x57).f1))) ((rd_T42 x55 x57).f0) ((rd_T42 x55 x57).f1) ((rd_T42 x55 x57).f2) ((rd_T42 x55 x57).f3)) else (storagebarterlaw28_DutyAll.j2 k x4 x5 x9 x10 x55 x56 x57 false ((rd_T42 x55 x57).f0) ((rd_T42 x55 x57).f1) ((rd_T42 x55 x57).f2) ((rd_T42 x55 x57).f3)))) else (none)) else (none)) else (storagebarterlaw28_DutyAll.j2 k x4 x5 x9 x10 x55 x56 x57 false ((rd_T42 x55 x57).f0) ((rd_T42 x55 x57).f1) ((rd_T42 x55 x57).f2) ((rd_T42 x55 x57).f3))) else (none)) else (none)) else (storagebarterlaw28_DutyAll.l3 k x5 x9 0 1)
def storagebarterlaw28_DutyAll.j2 : Nat → List (List (S42)) → Int → List (S42) → List Int → List (S42) → Int → Int → Bool → Int → Int → Int → Int → Option (Bool)
  | 0, _, _, _, _, _, _, _, _, _, _, _, _ => none
  | k + 1, x4, x5, x9, x10, x55, x56, x57, x96, x239000, x239001, x239002, x239003 => if x96 = true then (some false) else (storagebarterlaw28_DutyAll.l2 k x4 x5 x9 x10 (-1) x55 x56 x57 x4 (x4.length : Int) 0 x239000 x239001 x239002 x239003)
def storagebarterlaw28_DutyAll.l2 : Nat → List (List (S42)) → Int → List (S42) → List Int → Int → List (S42) → Int → Int → List (List (S42)) → Int → Int → Int → Int → Int → Int → Option (Bool)
  | 0, _, _, _, _, _, _, _, _, _, _, _, _, _, _, _ => none
  | k + 1, x4, x5, x9, x10, x13, x55, x56, x57, x97, x98, x99, x239000, x239001, x239002, x239003 => if x99 < x98 then (if 0 ≤ x99 then (if x99 < (x97.length : Int) then (if ((rd_L5 x97 x99).length : Int) > 0 then (if 0 < ((rd_L5 x97 x99).length : Int) then (if ((rd_T42 (rd_L5 x97 x99) 0).f1) = x239001 then (storagebarterlaw28_DutyAll.l2 k x4 x5 x9 x10 x99 x55 x56 x57 x97 x98 (wrap64 (x99 + 1)) x239000 x239001 x239002 x239003) else (storagebarterlaw28_DutyAll.l2 k x4 x5 x9 x10 x13 x55 x56 x57 x97 x98 (wrap64 (x99 + 1)) x239000 x239001 x239002 x239003)) else (none)) else (storagebarterlaw28_DutyAll.l2 k x4 x5 x9 x10 x13 x55 x56 x57 x97 x98 (wrap64 (x99 + 1)) x239000 x239001 x239002 x239003)) else (none)) else (none)) else (if x13 < 0 then (some false) else (if x239001 < 0 then (some false) else (if x239001 ≥ (x10.length : Int) then (some false) else (if 0 ≤ x239001 then (if x239001 < (x10.length : Int) then (if 0 ≤ x13 then (if x13 < (x4.length : Int) then (if (rd x10 x239001) ≥ ((rd_L5 x4 x13).length : Int) then (some false) else (if 0 ≤ (rd x10 x239001) then (if (rd x10 x239001) < ((rd_L5 x4 x13).length : Int) then (if (!(((rd_T42 (rd_L5 x4 x13) (rd x10 x239001)).f0) == x239000) || (!(((rd_T42 (rd_L5 x4 x13) (rd x10 x239001)).f1) == x239001) || (!(((rd_T42 (rd_L5 x4 x13) (rd x10 x239001)).f2) == x239002) || (!(((rd_T42 (rd_L5 x4 x13) (rd x10 x239001)).f3) == x239003))))) = true then (some false) else (storagebarterlaw28_DutyAll.l1 k x4 x5 x9 (x10.set (x239001 : Int).toNat (wrap64 ((rd x10 x239001) + 1))) x55 x56 (wrap64 (x57 + 1)))) else (none)) else (none))) else (none)) else (none)) else (none)) else (none)))))
def storagebarterlaw28_DutyAll.l3 : Nat → Int → List (S42) → Int → Int → Option (Bool)
  | 0, _, _, _, _ => none
  | k + 1, x5, x9, x16, x17 => if x17 ≤ 4 then ((duty_Of.f k x9 x17).bind fun t251 => (storagebarterlaw28_DutyAll.l3 k x5 x9 (wrap64 (x16 + (t251.length : Int))) (wrap64 (x17 + 1)))) else (some (x16 == x5))
end
def storagebarterlaw28_DutyAll.f (k : Nat) (l0 : List Int) : Option (Bool) := (storagebarterlaw28_sane.f k).bind fun t208 => (if t208 = true then ((storagebarterplay_New.f l0).bind fun bt209 => ((storagebarterplay_Dice_Pick.f bt209.1 bt209.2 5).bind fun bt212 => (storagebarterlaw28_DutyAll.l0 k ([] : List (List (S42))) 0 bt212.1 bt209.1 bt212.2))) else (some false))
theorem storagebarterlaw28_DutyAll.mono_l : ∀ k, (∀ y0 y1 y2 y3 y4, LeO (storagebarterlaw28_DutyAll.l0 k y0 y1 y2 y3 y4) (storagebarterlaw28_DutyAll.l0 (k + 1) y0 y1 y2 y3 y4)) ∧ (∀ y0 y1 y2 y3 y4 y5 y6, LeO (storagebarterlaw28_DutyAll.l1 k y0 y1 y2 y3 y4 y5 y6) (storagebarterlaw28_DutyAll.l1 (k + 1) y0 y1 y2 y3 y4 y5 y6)) ∧ (∀ y0 y1 y2 y3 y4 y5 y6 y7 y8 y9 y10 y11, LeO (storagebarterlaw28_DutyAll.j2 k y0 y1 y2 y3 y4 y5 y6 y7 y8 y9 y10 y11) (storagebarterlaw28_DutyAll.j2 (k + 1) y0 y1 y2 y3 y4 y5 y6 y7 y8 y9 y10 y11)) ∧ (∀ y0 y1 y2 y3 y4 y5 y6 y7 y8 y9 y10 y11 y12 y13 y14, LeO (storagebarterlaw28_DutyAll.l2 k y0 y1 y2 y3 y4 y5 y6 y7 y8 y9 y10 y11 y12 y13 y14) (storagebarterlaw28_DutyAll.l2 (k + 1) y0 y1 y2 y3 y4 y5 y6 y7 y8 y9 y10 y11 y12 y13 y14)) ∧ (∀ y0 y1 y2 y3, LeO (storagebarterlaw28_DutyAll.l3 k y0 y1 y2 y3) (storagebarterlaw28_DutyAll.l3 (k + 1) y0 y1 y2 y3))
  | 0 => ⟨fun _ _ _ _ _ r h => by simp [storagebarterlaw28_DutyAll.l0] at h, fun _ _ _ _ _ _ _ r h => by simp [storagebarterlaw28_DutyAll.l1] at h, fun _ _ _ _ _ _ _ _ _ _ _ _ r h => by simp [storagebarterlaw28_DutyAll.j2] at h, fun _ _ _ _ _ _ _ _ _ _ _ _ _ _ _ r h => by simp [storagebarterlaw28_DutyAll.l2] at h, fun _ _ _ _ r h => by simp [storagebarterlaw28_DutyAll.l3] at h⟩
  | k + 1 => by
    obtain ⟨ih0, ih1, ih2, ih3, ih4⟩ := storagebarterlaw28_DutyAll.mono_l k
    refine ⟨?_, ?_, ?_, ?_, ?_⟩
    · intro y0 y1 y2 y3 y4
      unfold storagebarterlaw28_DutyAll.l0
      repeat' first
      | (with_reducible exact ih0 _ _ _ _ _)
      | (with_reducible exact ih1 _ _ _ _ _ _ _)
      | (with_reducible exact ih2 _ _ _ _ _ _ _ _ _ _ _ _)
      | (with_reducible exact ih3 _ _ _ _ _ _ _ _ _ _ _ _ _ _ _)
      | (with_reducible exact ih4 _ _ _ _)
      | (with_reducible exact duty_Merge.mono _ _)
      | (with_reducible exact duty_Of.mono _ _ _)
      | (with_reducible exact storagebarterlaw28_sane.mono _)
      | (with_reducible exact storagebarterplay_Dice_Arrangement.mono _ _ _ _)
      | (with_reducible exact LeO.refl _)
      | (with_reducible exact LeO.none _)
      | (with_reducible refine LeO.ite ?_ ?_)
      | (with_reducible refine LeO.bind ?_ (fun _ => ?_))
      | exact ih0 _ _ _ _ _
      | exact ih1 _ _ _ _ _ _ _
      | exact ih2 _ _ _ _ _ _ _ _ _ _ _ _
      | exact ih3 _ _ _ _ _ _ _ _ _ _ _ _ _ _ _
      | exact ih4 _ _ _ _
      | exact duty_Merge.mono _ _
      | exact duty_Of.mono _ _ _
      | exact storagebarterlaw28_sane.mono _
      | exact storagebarterplay_Dice_Arrangement.mono _ _ _ _
      | exact LeO.none _
      | refine LeO.ite ?_ ?_
      | refine LeO.bind ?_ (fun _ => ?_)
    · intro y0 y1 y2 y3 y4 y5 y6
      unfold storagebarterlaw28_DutyAll.l1
      repeat' first
      | (with_reducible exact ih0 _ _ _ _ _)
      | (with_reducible exact ih1 _ _ _ _ _ _ _)
      | (with_reducible exact ih2 _ _ _ _ _ _ _ _ _ _ _ _)
      | (with_reducible exact ih3 _ _ _ _ _ _ _ _ _ _ _ _ _ _ _)
      | (with_reducible exact ih4 _ _ _ _)
      | (with_reducible exact duty_Merge.mono _ _)
      | (with_reducible exact duty_Of.mono _ _ _)
      | (with_reducible exact storagebarterlaw28_sane.mono _)
      | (with_reducible exact storagebarterplay_Dice_Arrangement.mono _ _ _ _)
      | (with_reducible exact LeO.refl _)
      | (with_reducible exact LeO.none _)
      | (with_reducible refine LeO.ite ?_ ?_)
      | (with_reducible refine LeO.bind ?_ (fun _ => ?_))
      | exact ih0 _ _ _ _ _
      | exact ih1 _ _ _ _ _ _ _
      | exact ih2 _ _ _ _ _ _ _ _ _ _ _ _
      | exact ih3 _ _ _ _ _ _ _ _ _ _ _ _ _ _ _
      | exact ih4 _ _ _ _
      | exact duty_Merge.mono _ _
      | exact duty_Of.mono _ _ _
      | exact storagebarterlaw28_sane.mono _
      | exact storagebarterplay_Dice_Arrangement.mono _ _ _ _
      | exact LeO.none _
      | refine LeO.ite ?_ ?_
      | refine LeO.bind ?_ (fun _ => ?_)
    · intro y0 y1 y2 y3 y4 y5 y6 y7 y8 y9 y10 y11
      unfold storagebarterlaw28_DutyAll.j2
      repeat' first
      | (with_reducible exact ih0 _ _ _ _ _)
      | (with_reducible exact ih1 _ _ _ _ _ _ _)
      | (with_reducible exact ih2 _ _ _ _ _ _ _ _ _ _ _ _)
      | (with_reducible exact ih3 _ _ _ _ _ _ _ _ _ _ _ _ _ _ _)
      | (with_reducible exact ih4 _ _ _ _)
      | (with_reducible exact duty_Merge.mono _ _)
      | (with_reducible exact duty_Of.mono _ _ _)
      | (with_reducible exact storagebarterlaw28_sane.mono _)
      | (with_reducible exact storagebarterplay_Dice_Arrangement.mono _ _ _ _)
      | (with_reducible exact LeO.refl _)
      | (with_reducible exact LeO.none _)
      | (with_reducible refine LeO.ite ?_ ?_)
      | (with_reducible refine LeO.bind ?_ (fun _ => ?_))
      | exact ih0 _ _ _ _ _
      | exact ih1 _ _ _ _ _ _ _
      | exact ih2 _ _ _ _ _ _ _ _ _ _ _ _
      | exact ih3 _ _ _ _ _ _ _ _ _ _ _ _ _ _ _
      | exact ih4 _ _ _ _
      | exact duty_Merge.mono _ _
      | exact duty_Of.mono _ _ _
      | exact storagebarterlaw28_sane.mono _
      | exact storagebarterplay_Dice_Arrangement.mono _ _ _ _
      | exact LeO.none _
      | refine LeO.ite ?_ ?_
      | refine LeO.bind ?_ (fun _ => ?_)
    · intro y0 y1 y2 y3 y4 y5 y6 y7 y8 y9 y10 y11 y12 y13 y14
      unfold storagebarterlaw28_DutyAll.l2
      repeat' first
      | (with_reducible exact ih0 _ _ _ _ _)
      | (with_reducible exact ih1 _ _ _ _ _ _ _)
      | (with_reducible exact ih2 _ _ _ _ _ _ _ _ _ _ _ _)
      | (with_reducible exact ih3 _ _ _ _ _ _ _ _ _ _ _ _ _ _ _)
      | (with_reducible exact ih4 _ _ _ _)
      | (with_reducible exact duty_Merge.mono _ _)
      | (with_reducible exact duty_Of.mono _ _ _)
      | (with_reducible exact storagebarterlaw28_sane.mono _)
      | (with_reducible exact storagebarterplay_Dice_Arrangement.mono _ _ _ _)
      | (with_reducible exact LeO.refl _)
      | (with_reducible exact LeO.none _)
      | (with_reducible refine LeO.ite ?_ ?_)
      | (with_reducible refine LeO.bind ?_ (fun _ => ?_))
      | exact ih0 _ _ _ _ _
      | exact ih1 _ _ _ _ _ _ _
      | exact ih2 _ _ _ _ _ _ _ _ _ _ _ _
      | exact ih3 _ _ _ _ _ _ _ _ _ _ _ _ _ _ _
      | exact ih4 _ _ _ _
      | exact duty_Merge.mono _ _
      | exact duty_Of.mono _ _ _
      | exact storagebarterlaw28_sane.mono _
      | exact storagebarterplay_Dice_Arrangement.mono _ _ _ _
      | exact LeO.none _
      | refine LeO.ite ?_ ?_
      | refine LeO.bind ?_ (fun _ => ?_)
    · intro y0 y1 y2 y3
      unfold storagebarterlaw28_DutyAll.l3
      repeat' first
      | (with_reducible exact ih0 _ _ _ _ _)
      | (with_reducible exact ih1 _ _ _ _ _ _ _)
      | (with_reducible exact ih2 _ _ _ _ _ _ _ _ _ _ _ _)
      | (with_reducible exact ih3 _ _ _ _ _ _ _ _ _ _ _ _ _ _ _)
      | (with_reducible exact ih4 _ _ _ _)
      | (with_reducible exact duty_Merge.mono _ _)
      | (with_reducible exact duty_Of.mono _ _ _)
      | (with_reducible exact storagebarterlaw28_sane.mono _)
      | (with_reducible exact storagebarterplay_Dice_Arrangement.mono _ _ _ _)
      | (with_reducible exact LeO.refl _)
      | (with_reducible exact LeO.none _)
      | (with_reducible refine LeO.ite ?_ ?_)
      | (with_reducible refine LeO.bind ?_ (fun _ => ?_))
      | exact ih0 _ _ _ _ _
      | exact ih1 _ _ _ _ _ _ _
      | exact ih2 _ _ _ _ _ _ _ _ _ _ _ _
      | exact ih3 _ _ _ _ _ _ _ _ _ _ _ _ _ _ _
      | exact ih4 _ _ _ _
      | exact duty_Merge.mono _ _
      | exact duty_Of.mono _ _ _
      | exact storagebarterlaw28_sane.mono _
      | exact storagebarterplay_Dice_Arrangement.mono _ _ _ _
      | exact LeO.none _
      | refine LeO.ite ?_ ?_
      | refine LeO.bind ?_ (fun _ => ?_)
theorem storagebarterlaw28_DutyAll.mono : ∀ a0 k, LeO (storagebarterlaw28_DutyAll.f k a0) (storagebarterlaw28_DutyAll.f (k + 1) a0) := by
  intro a0 k
  obtain ⟨ih0, ih1, ih2, ih3, ih4⟩ := storagebarterlaw28_DutyAll.mono_l k
  unfold storagebarterlaw28_DutyAll.f
  repeat' first
      | (with_reducible exact ih0 _ _ _ _ _)
      | (with_reducible exact ih1 _ _ _ _ _ _ _)
      | (with_reducible exact ih2 _ _ _ _ _ _ _ _ _ _ _ _)
      | (with_reducible exact ih3 _ _ _ _ _ _ _ _ _ _ _ _ _ _ _)
      | (with_reducible exact ih4 _ _ _ _)
      | (with_reducible exact duty_Merge.mono _ _)
      | (with_reducible exact duty_Of.mono _ _ _)
      | (with_reducible exact storagebarterlaw28_sane.mono _)
      | (with_reducible exact storagebarterplay_Dice_Arrangement.mono _ _ _ _)
      | (with_reducible exact LeO.refl _)
      | (with_reducible exact LeO.none _)
      | (with_reducible refine LeO.ite ?_ ?_)
      | (with_reducible refine LeO.bind ?_ (fun _ => ?_))
      | exact ih0 _ _ _ _ _
      | exact ih1 _ _ _ _ _ _ _
      | exact ih2 _ _ _ _ _ _ _ _ _ _ _ _
      | exact ih3 _ _ _ _ _ _ _ _ _ _ _ _ _ _ _
      | exact ih4 _ _ _ _
      | exact duty_Merge.mono _ _
      | exact duty_Of.mono _ _ _
      | exact storagebarterlaw28_sane.mono _
      | exact storagebarterplay_Dice_Arrangement.mono _ _ _ _
      | exact LeO.none _
      | refine LeO.ite ?_ ?_
      | refine LeO.bind ?_ (fun _ => ?_)
set_option maxHeartbeats 8000000 in
set_option maxRecDepth 100000 in
theorem storagebarterlaw28_DutyAll.calls (k : Nat) (A0 : Option Addr) (c0 : Nat) (l0 : List Int) (r : Bool) (w : World) (hr0 : Kd.C (Kd.int .u8) w A0 l0.length l0) (hc0 : l0.length ≤ c0) (hG : GOK w) (h : storagebarterlaw28_DutyAll.f k l0 = some r) :
    Calls Tryd.prog 4 #[.slice A0 l0.length c0] w fun e w' => e = .returned (.bool r) ∧ Below w.heap.size w w' := by
  have hu42 := Tryd.underlying42
  have HR0 := Aside0.mk hr0
  have HC0 := Aside0.mk hc0
  clear hr0 hc0
  have HGOK := Aside0.mk hG
  clear hG
  have HB := Aside0.mk (Below.refl w.heap.size w)
  have H : ((storagebarterlaw28_sane.f k).bind fun t208 => (if t208 = true then ((storagebarterplay_New.f l0).bind fun bt209 => ((storagebarterplay_Dice_Pick.f bt209.1 bt209.2 5).bind fun bt212 => (storagebarterlaw28_DutyAll.l0 k ([] : List (List (S42))) 0 bt212.1 bt209.1 bt212.2))) else (some false))) = some r := h
  clear h
  replace H := Option.bind_eq_some_iff.mp H
  obtain ⟨t208, A20, H⟩ := H
  replace H : (if t208 = true then ((storagebarterplay_New.f l0).bind fun bt209 => ((storagebarterplay_Dice_Pick.f bt209.1 bt209.2 5).bind fun bt212 => (storagebarterlaw28_DutyAll.l0 k ([] : List (List (S42))) 0 bt212.1 bt209.1 bt212.2))) else (some false)) = some r := H
  have A2 := Aside0.mk A20
  clear A20
  by_cases c3 : t208 = true
  ·subst c3
   have H1 : ((storagebarterplay_New.f l0).bind fun bt209 => ((storagebarterplay_Dice_Pick.f bt209.1 bt209.2 5).bind fun bt212 => (storagebarterlaw28_DutyAll.l0 k ([] : List (List (S42))) 0 bt212.1 bt209.1 bt212.2))) = some r := by rw [if_pos rfl] at H; exact H
   clear H
   have H := H1
   clear H1
   replace H := Option.bind_eq_some_iff.mp H
   obtain ⟨⟨t209, t210⟩, A40, H⟩ := H
   replace H : ((storagebarterplay_Dice_Pick.f t209 t210 5).bind fun bt212 => (storagebarterlaw28_DutyAll.l0 k ([] : List (List (S42))) 0 bt212.1 t209 bt212.2)) = some r := H
   have A4 := Aside0.mk A40
   clear A40
   replace H := Option.bind_eq_some_iff.mp H
   obtain ⟨⟨t212, t213⟩, A50, H⟩ := H
   replace H : (storagebarterlaw28_DutyAll.l0 k ([] : List (List (S42))) 0 t212 t209 t213) = some r := H
   have A5 := Aside0.mk A50
   clear A50
   have H' := Aside0.mk H
   clear H
   go_enter Tryd.func4, Tryd.ntmps4
   go_wp2_with (first | (go_at_call 5; (with_reducible refine (storagebarterlaw28_sane.calls k  true _ ?side1 A2.out).mono ?_); (case side1 => exact GOK.below HGOK.out (by repeat (first | (with_reducible first | exact HB.out | apply below_alloc | apply pw_below_drewN | apply below_drew1) | exact HB.out))); rintro e w6 ⟨rfl, hb⟩; have n0_ := Aside0.mk (below_step (by repeat (first | (with_reducible first | exact HB.out | apply below_alloc | apply pw_below_drewN | apply below_drew1) | exact HB.out)) hb); clear HB; have HB := n0_; clear n0_; (try clear hb); (try clear hb2); (try clear hk); (try clear hi)) | (go_at_call 6; (with_reducible refine (storagebarterplay_New.calls _ _ l0 t209 t210 w _ ?side1 ?side2 ?side3 A4.out).mono ?_); (case side1 => repeat (first | (with_reducible first | exact HB.out | apply below_alloc | apply pw_below_drewN | apply below_drew1) | exact HB.out)); (case side2 => exact HR0.out); (case side3 => exact HC0.out); rintro e w7 ⟨g211, rfl, hi, hb, hb2⟩; have n0_ := Aside0.mk (hb); have n1_ := Aside0.mk (hi); clear HB; have HB := n0_; have HI211 := n1_; clear n0_ n1_; (try clear hb); (try clear hb2); (try clear hk); (try clear hi)) | (go_at_call 7; (with_reducible refine (storagebarterplay_Dice_Pick.calls g211 t209 t210 5 t212 t213 w _ ?side1 ?side2 A5.out).mono ?_); (case side1 => repeat (first | (with_reducible first | exact HI211.out | apply IsS46.alloc | apply IsS46.drewN | apply IsS46.drew | apply IsS46.set_1) | exact HI211.out)); (case side2 => repeat (first | (with_reducible first | exact HB.out | apply below_alloc | apply pw_below_drewN | apply below_drew1 | refine below_set ?_ (IsS46.ge HI211.out)) | exact HB.out)); rintro e w8 ⟨rfl, hi, hb, hk⟩; have n0_ := Aside0.mk (hb); have n1_ := Aside0.mk (hi); clear HB; clear HI211; have HB := n0_; have HI211 := n1_; clear n0_ n1_; (try clear hb); (try clear hb2); (try clear hk); (try clear hi)))
   repeat (go_quiet (fail); try go_wp2_with (first | (go_at_call 5; (with_reducible refine (storagebarterlaw28_sane.calls k  true _ ?side1 A2.out).mono ?_); (case side1 => exact GOK.below HGOK.out (by repeat (first | (with_reducible first | exact HB.out | apply below_alloc | apply pw_below_drewN | apply below_drew1) | exact HB.out))); rintro e w6 ⟨rfl, hb⟩; have n0_ := Aside0.mk (below_step (by repeat (first | (with_reducible first | exact HB.out | apply below_alloc | apply pw_below_drewN | apply below_drew1) | exact HB.out)) hb); clear HB; have HB := n0_; clear n0_; (try clear hb); (try clear hb2); (try clear hk); (try clear hi)) | (go_at_call 6; (with_reducible refine (storagebarterplay_New.calls _ _ l0 t209 t210 w _ ?side1 ?side2 ?side3 A4.out).mono ?_); (case side1 => repeat (first | (with_reducible first | exact HB.out | apply below_alloc | apply pw_below_drewN | apply below_drew1) | exact HB.out)); (case side2 => exact HR0.out); (case side3 => exact HC0.out); rintro e w7 ⟨g211, rfl, hi, hb, hb2⟩; have n0_ := Aside0.mk (hb); have n1_ := Aside0.mk (hi); clear HB; have HB := n0_; have HI211 := n1_; clear n0_ n1_; (try clear hb); (try clear hb2); (try clear hk); (try clear hi)) | (go_at_call 7; (with_reducible refine (storagebarterplay_Dice_Pick.calls g211 t209 t210 5 t212 t213 w _ ?side1 ?side2 A5.out).mono ?_); (case side1 => repeat (first | (with_reducible first | exact HI211.out | apply IsS46.alloc | apply IsS46.drewN | apply IsS46.drew | apply IsS46.set_1) | exact HI211.out)); (case side2 => repeat (first | (with_reducible first | exact HB.out | apply below_alloc | apply pw_below_drewN | apply below_drew1 | refine below_set ?_ (IsS46.ge HI211.out)) | exact HB.out)); rintro e w8 ⟨rfl, hi, hb, hk⟩; have n0_ := Aside0.mk (hb); have n1_ := Aside0.mk (hi); clear HB; clear HI211; have HB := n0_; have HI211 := n1_; clear n0_ n1_; (try clear hb); (try clear hb2); (try clear hk); (try clear hi))))
   go_loopg [4, 5, 6] k (fun kq v4 v5 v6 w' => ∃ (x4_1 : List (List (S42))) (x5_1 : Int) (x6_1 : Int) (x212001_1 : Int), v5 = .int .i64 x5_1 ∧ v6 = .int .i64 x6_1 ∧ Aside0 (storagebarterlaw28_DutyAll.l0 kq x4_1 x5_1 x6_1 t209 x212001_1 = some r) ∧ Aside0 (kq ≤ k) ∧ Aside0 (Kd.S (Kd.slice 42 k42) 28 w' w.heap.size (fun _ => True) v4 x4_1) ∧ Aside0 (IsS46 w w' g211 t209 x212001_1) ∧ Aside0 (Below w.heap.size w w'))
   case atStart => exact ⟨(([] : List (List (S42)))), (0), (t212), (t213), (by first | rfl | (simp; done) | (simp [*]; done)), (by first | rfl | (simp; done) | (simp [*]; done)), H', ⟨Nat.le_refl _⟩, ⟨by first | exact Kd.S_nil _ _ _ _ _ | exact Kd.N_nil _ _ _ _ _ | exact Kd.V_nil _ _ _ _ _ | exact Kd.Q_nil _ _ _ _ _ | exact Kd.R_nil _ _ _ _ _⟩, ⟨by repeat (first | (with_reducible first | exact HI211.out | apply IsS46.alloc | apply IsS46.drewN | apply IsS46.drew | apply IsS46.set_1) | exact HI211.out)⟩, ⟨by repeat (first | (with_reducible first | exact HB.out | apply below_alloc | apply pw_below_drewN | apply below_drew1 | refine below_set ?_ (IsS46.ge HI211.out)) | exact HB.out)⟩⟩
   case round =>
    clear H'
    try clear p2
    try clear c3
    try clear c4
    obtain ⟨x4_1, x5_1, x6_1, x212001_1, rfl, rfl, HA, HK1, HO_4, HI211, HB⟩ := hrel
    cases gk with
    | zero => exact absurd HA.out (by simp [storagebarterlaw28_DutyAll.l0])
    | succ k1 =>
     have H := HA.out
     clear HA
     simp only [storagebarterlaw28_DutyAll.l0] at H
     by_cases c9 : x6_1 > 0
     ·rw [if_pos c9] at H
      have c9b0 : decide (0 < x6_1) = true := decide_eq_true c9
      clear c9
      replace H := Option.bind_eq_some_iff.mp H
      obtain ⟨⟨t214, t215, t216, t217, t218, t221⟩, A100, H⟩ := H
      replace H : ((storagebarterplay_Dice_Pick.f t209 t221 2).bind fun bt222 => ((duty_Plan.f t214 t215 t216 t217 t218 x6_1 (bt222.1 == 0)).bind fun bt224 => (if bt224.2 = 0 then (if x4_1.length < 5864062014805 then (storagebarterlaw28_DutyAll.l0 k1 (x4_1 ++ [bt224.1]) (wrap64 (x5_1 + (bt224.1.length : Int))) (wrap64 (x6_1 - 1)) t209 bt222.2) else (none)) else (some false)))) = some r := H
      have A10 := Aside0.mk A100
      clear A100
      replace H := Option.bind_eq_some_iff.mp H
      obtain ⟨⟨t222, t223⟩, A110, H⟩ := H
      replace H : ((duty_Plan.f t214 t215 t216 t217 t218 x6_1 (t222 == 0)).bind fun bt224 => (if bt224.2 = 0 then (if x4_1.length < 5864062014805 then (storagebarterlaw28_DutyAll.l0 k1 (x4_1 ++ [bt224.1]) (wrap64 (x5_1 + (bt224.1.length : Int))) (wrap64 (x6_1 - 1)) t209 t223) else (none)) else (some false))) = some r := H
      have A11 := Aside0.mk A110
      clear A110
      replace H := Option.bind_eq_some_iff.mp H
      obtain ⟨⟨t224, t227⟩, A120, H⟩ := H
      replace H : (if t227 = 0 then (if x4_1.length < 5864062014805 then (storagebarterlaw28_DutyAll.l0 k1 (x4_1 ++ [t224]) (wrap64 (x5_1 + (t224.length : Int))) (wrap64 (x6_1 - 1)) t209 t223) else (none)) else (some false)) = some r := H
      have A12 := Aside0.mk A120
      clear A120
      by_cases c13 : t227 = 0
      ·rw [if_pos c13] at H
       have c13b0 : (t227 == 0) = true := beq_iff_eq.mpr c13
       have c13b1 : (t227 != 0) = false := bne_eq_false_iff_eq.mpr c13
       clear c13
       by_cases c14 : x4_1.length < 5864062014805
       ·rw [if_pos c14] at H
        have LMc14 := Aside0.mk c14
        clear c14
        obtain ⟨y228, hy228⟩ : ∃ y_ : List (List (S42)), y_ = (x4_1 ++ [t224]) := ⟨_, rfl⟩
        replace H : (storagebarterlaw28_DutyAll.l0 k1 y228 (wrap64 (x5_1 + (t224.length : Int))) (wrap64 (x6_1 - 1)) t209 t223) = some r := by first | (rw [hy228]; with_reducible exact H) | (have H2_ := (Option.bind_some _ _).symm.trans H; rw [hy228]; with_reducible exact H2_) | (have H2_ := (Option.bind_some _ _).symm.trans H; with_reducible exact H2_) | with_reducible exact H | (rw [hy228]; exact H) | exact H
        have Ny228 := Aside0.mk hy228
        clear hy228
        have H' := Aside0.mk H
        clear H
        go_wp2_with (first | (go_at_call 9; (with_reducible refine (storagebarterplay_Dice_Arrangement.calls k1 g211 t209 x212001_1 4 t214 t215 t216 t217 t218 t221 w _ ?side1 ?side2 A10.out).mono ?_); (case side1 => repeat (first | (with_reducible first | exact HI211.out | apply IsS46.alloc | apply IsS46.drewN | apply IsS46.drew | apply IsS46.set_1) | exact HI211.out)); (case side2 => repeat (first | (with_reducible first | exact HB.out | apply below_alloc | apply pw_below_drewN | apply below_drew1 | refine below_set ?_ (IsS46.ge HI211.out)) | exact HB.out)); rintro e w15 ⟨v219, rfl, ho0, hi, hb, hk⟩; have n0_ := Aside0.mk (Kd.S_mono (Kd.S_keep (IsS46.apartS (show IsS46 w _ g211 t209 x212001_1 from by repeat (first | (with_reducible first | exact HI211.out | apply IsS46.alloc | apply IsS46.drewN | apply IsS46.drew | apply IsS46.set_1) | exact HI211.out)) (by (with_reducible repeat (first | apply Kd.S_alloc | apply Kd.S_drewN | apply Kd.S_drew)); exact HO_4.out) (by decide)) hk (fun _ h => h.2)) (fun _ h => h.1)); have n1_ := Aside0.mk (Kd.R_lower ho0 (below_size (by repeat (first | (with_reducible first | exact HB.out | apply below_alloc | apply pw_below_drewN | apply below_drew1 | refine below_set ?_ (IsS46.ge HI211.out)) | exact HB.out)))); have n2_ := Aside0.mk (hb); have n3_ := Aside0.mk (hi); clear HO_4; clear HB; clear HI211; have HO_4 := n0_; have HO220 := n1_; have HB := n2_; have HI211 := n3_; clear n0_ n1_ n2_ n3_; (try clear hb); (try clear hb2); (try clear hk); (try clear hi); (try clear ho0)) | (go_at_call 7; (with_reducible refine (storagebarterplay_Dice_Pick.calls g211 t209 t221 2 t222 t223 w _ ?side1 ?side2 A11.out).mono ?_); (case side1 => repeat (first | (with_reducible first | exact HI211.out | apply IsS46.alloc | apply IsS46.drewN | apply IsS46.drew | apply IsS46.set_1) | exact HI211.out)); (case side2 => repeat (first | (with_reducible first | exact HB.out | apply below_alloc | apply pw_below_drewN | apply below_drew1 | refine below_set ?_ (IsS46.ge HI211.out)) | exact HB.out)); rintro e w16 ⟨rfl, hi, hb, hk⟩; have n0_ := Aside0.mk (Kd.S_mono (Kd.S_keep (IsS46.apartS (show IsS46 w _ g211 t209 t221 from by repeat (first | (with_reducible first | exact HI211.out | apply IsS46.alloc | apply IsS46.drewN | apply IsS46.drew | apply IsS46.set_1) | exact HI211.out)) (by (with_reducible repeat (first | apply Kd.S_alloc | apply Kd.S_drewN | apply Kd.S_drew)); exact HO_4.out) (by decide)) hk (fun _ h => h.2)) (fun _ h => h.1)); have n1_ := Aside0.mk (Kd.R_mono (Kd.R_keep (IsS46.apart (show IsS46 w _ g211 t209 t221 from by repeat (first | (with_reducible first | exact HI211.out | apply IsS46.alloc | apply IsS46.drewN | apply IsS46.drew | apply IsS46.set_1) | exact HI211.out)) (by (with_reducible repeat (first | apply Kd.R_alloc | apply Kd.R_drewN | apply Kd.R_drew)); exact HO220.out) (by decide)) hk (fun _ h => h.2)) (fun _ h => h.1)); have n2_ := Aside0.mk (hb); have n3_ := Aside0.mk (hi); clear HO_4; clear HO220; clear HB; clear HI211; have HO_4 := n0_; have HO220 := n1_; have HB := n2_; have HI211 := n3_; clear n0_ n1_ n2_ n3_; (try clear hb); (try clear hb2); (try clear hk); (try clear hi); obtain ⟨Ao17, co17, eo17⟩ := Kd.R_slice HO220.out; subst eo17) | (go_at_call 16; (with_reducible refine (duty_Plan.calls t214 t215 t216 t217 _ _ t218 x6_1 (t222 == 0) t224 t227 _ ?side1 ?side2 A12.out).mono ?_); (case side1 => repeat (first | exact (Kd.R_reads' HO220.out).2.2 | (with_reducible refine Kd.C_alloc ?_ _) | (with_reducible refine Kd.C_drewN ?_ _) | (with_reducible refine Kd.C_drew ?_))); (case side2 => exact (Kd.R_reads' HO220.out).2.1); rintro e w18 ⟨v225, rfl, ho0, hb⟩; have n0_ := Aside0.mk (Kd.S_elder' (by (with_reducible repeat (first | apply Kd.S_alloc | apply Kd.S_drewN | apply Kd.S_drew)); exact HO_4.out) (Kd.R_base ho0) hb); have n1_ := Aside0.mk (Kd.R_below (by (with_reducible repeat (first | apply Kd.R_alloc | apply Kd.R_drewN | apply Kd.R_drew)); exact HO220.out) hb); have n2_ := Aside0.mk (Kd.R_lower ho0 (below_size (by repeat (first | (with_reducible first | exact HB.out | apply below_alloc | apply pw_below_drewN | apply below_drew1 | refine below_set ?_ (IsS46.ge HI211.out)) | exact HB.out)))); have n3_ := Aside0.mk (IsS46.below (by repeat (first | (with_reducible first | exact HI211.out | apply IsS46.alloc | apply IsS46.drewN | apply IsS46.drew | apply IsS46.set_1) | exact HI211.out)) hb); have n4_ := Aside0.mk (below_step (by repeat (first | (with_reducible first | exact HB.out | apply below_alloc | apply pw_below_drewN | apply below_drew1 | refine below_set ?_ (IsS46.ge HI211.out)) | exact HB.out)) hb); clear HO_4; clear HO220; clear HI211; clear HB; have HO_4 := n0_; have HO220 := n1_; have HO226 := n2_; have HI211 := n3_; have HB := n4_; clear n0_ n1_ n2_ n3_ n4_; (try clear hb); (try clear hb2); (try clear hk); (try clear hi); (try clear ho0); obtain ⟨Ao20, co20, eo20⟩ := Kd.R_slice HO226.out; subst eo20) | ((with_reducible refine gate_builtin (b := .append) (xs := #[.tmp 40, .tmp 42]) rfl ?_); (try (refine gate_guard (by rfl) ?_; dsimp only)); at_builtin; refine Kd.S_append (Kd.slice 42 k42) (w0 := w) w.heap.size rfl (.tmp 40) (.tmp 42) 26 28 (.slice none 0 0) 24 rfl Tryd.underlying26 info28 rfl (by decide) (by omega) u4 x4_1 t224 [.slice Ao20 t224.length co20] (fun _ => True) (fun k_ => some k_ = (.slice Ao20 t224.length co20 : Value).ownBlock) rfl rfl ?aP (fun k_ hk_ => ((Kd.R_mono (ok' := fun k_ => ((fun _ => True)) k_ ∧ some k_ ≠ (u4 : Value).ownBlock) (Kd.R_apart' (HO226.out) (Kd.S_typed HO_4.out) (by decide)) (fun k_ hk => ⟨trivial, hk.2⟩))).1 k_ hk_.symm) ?aF ?aO ?aB ?aS ?aL ?_; (case aP => exact Kd.M_row (Kd.R_mono (Kd.R_tight rfl (Kd.R_mono (ok' := fun k_ => ((fun _ => True)) k_ ∧ some k_ ≠ (u4 : Value).ownBlock) (Kd.R_apart' (HO226.out) (Kd.S_typed HO_4.out) (by decide)) (fun k_ hk => ⟨trivial, hk.2⟩))) (fun _ h_ => h_))); (case aB => exact (by repeat (first | (with_reducible first | exact HB.out | apply below_alloc | apply pw_below_drewN | apply below_drew1 | refine below_set ?_ (IsS46.ge HI211.out)) | exact HB.out))); (case aF => exact (fun _ _ => trivial)); (case aO => exact (by (with_reducible repeat (first | apply Kd.S_alloc | apply Kd.S_drewN | apply Kd.S_drew)); exact Kd.S_mono HO_4.out (fun k_ hk => ⟨trivial, fun e_ => hk.2 e_⟩))); (case aS => exact (below_size (by repeat (first | (with_reducible first | exact HB.out | apply below_alloc | apply pw_below_drewN | apply below_drew1 | refine below_set ?_ (IsS46.ge HI211.out)) | exact HB.out)))); (case aL => have := LMc14.out; omega); intro v229 w19 ho hb hg hat; rw [← Ny228.out] at ho; have n0_ := Aside0.mk (IsS46.grown (by repeat (first | (with_reducible first | exact HI211.out | apply IsS46.alloc | apply IsS46.drewN | apply IsS46.drew | apply IsS46.set_1) | exact HI211.out)) hg (IsS46.own_neS HI211.out HO_4.out (by decide))); have n1_ := Aside0.mk (Kd.R_over' (by (with_reducible repeat (first | apply Kd.R_alloc | apply Kd.R_drewN | apply Kd.R_drew)); exact HO220.out) (Kd.S_typed (by (with_reducible repeat (first | apply Kd.S_alloc | apply Kd.S_drewN | apply Kd.S_drew)); exact HO_4.out)) (by decide) hg); have n2_ := Aside0.mk (hb); have n3_ := Aside0.mk (ho); clear HI211; clear HO220; clear HB; clear HO_4; clear HO226; have HI211 := n0_; have HO220 := n1_; have HB := n2_; have HO230 := n3_; clear n0_ n1_ n2_ n3_; clear ho hb hg hat))
        repeat (go_quiet (fail); try go_wp2_with (first | (go_at_call 9; (with_reducible refine (storagebarterplay_Dice_Arrangement.calls k1 g211 t209 x212001_1 4 t214 t215 t216 t217 t218 t221 w _ ?side1 ?side2 A10.out).mono ?_); (case side1 => repeat (first | (with_reducible first | exact HI211.out | apply IsS46.alloc | apply IsS46.drewN | apply IsS46.drew | apply IsS46.set_1) | exact HI211.out)); (case side2 => repeat (first | (with_reducible first | exact HB.out | apply below_alloc | apply pw_below_drewN | apply below_drew1 | refine below_set ?_ (IsS46.ge HI211.out)) | exact HB.out)); rintro e w15 ⟨v219, rfl, ho0, hi, hb, hk⟩; have n0_ := Aside0.mk (Kd.S_mono (Kd.S_keep (IsS46.apartS (show IsS46 w _ g211 t209 x212001_1 from by repeat (first | (with_reducible first | exact HI211.out | apply IsS46.alloc | apply IsS46.drewN | apply IsS46.drew | apply IsS46.set_1) | exact HI211.out)) (by (with_reducible repeat (first | apply Kd.S_alloc | apply Kd.S_drewN | apply Kd.S_drew)); exact HO_4.out) (by decide)) hk (fun _ h => h.2)) (fun _ h => h.1)); have n1_ := Aside0.mk (Kd.R_lower ho0 (below_size (by repeat (first | (with_reducible first | exact HB.out | apply below_alloc | apply pw_below_drewN | apply below_drew1 | refine below_set ?_ (IsS46.ge HI211.out)) | exact HB.out)))); have n2_ := Aside0.mk (hb); have n3_ := Aside0.mk (hi); clear HO_4; clear HB; clear HI211; have HO_4 := n0_; have HO220 := n1_; have HB := n2_; have HI211 := n3_; clear n0_ n1_ n2_ n3_; (try clear hb); (try clear hb2); (try clear hk); (try clear hi); (try clear ho0)) | (go_at_call 7; (with_reducible refine (storagebarterplay_Dice_Pick.calls g211 t209 t221 2 t222 t223 w _ ?side1 ?side2 A11.out).mono ?_); (case side1 => repeat (first | (with_reducible first | exact HI211.out | apply IsS46.alloc | apply IsS46.drewN | apply IsS46.drew | apply IsS46.set_1) | exact HI211.out)); (case side2 => repeat (first | (with_reducible first | exact HB.out | apply below_alloc | apply pw_below_drewN | apply below_drew1 | refine below_set ?_ (IsS46.ge HI211.out)) | exact HB.out)); rintro e w16 ⟨rfl, hi, hb, hk⟩; have n0_ := Aside0.mk (Kd.S_mono (Kd.S_keep (IsS46.apartS (show IsS46 w _ g211 t209 t221 from by repeat (first | (with_reducible first | exact HI211.out | apply IsS46.alloc | apply IsS46.drewN | apply IsS46.drew | apply IsS46.set_1) | exact HI211.out)) (by (with_reducible repeat (first | apply Kd.S_alloc | apply Kd.S_drewN | apply Kd.S_drew)); exact HO_4.out) (by decide)) hk (fun _ h => h.2)) (fun _ h => h.1)); have n1_ := Aside0.mk (Kd.R_mono (Kd.R_keep (IsS46.apart (show IsS46 w _ g211 t209 t221 from by repeat (first | (with_reducible first | exact HI211.out | apply IsS46.alloc | apply IsS46.drewN | apply IsS46.drew | apply IsS46.set_1) | exact HI211.out)) (by (with_reducible repeat (first | apply Kd.R_alloc | apply Kd.R_drewN | apply Kd.R_drew)); exact HO220.out) (by decide)) hk (fun _ h => h.2)) (fun _ h => h.1)); have n2_ := Aside0.mk (hb); have n3_ := Aside0.mk (hi); clear HO_4; clear HO220; clear HB; clear HI211; have HO_4 := n0_; have HO220 := n1_; have HB := n2_; have HI211 := n3_; clear n0_ n1_ n2_ n3_; (try clear hb); (try clear hb2); (try clear hk); (try clear hi); obtain ⟨Ao17, co17, eo17⟩ := Kd.R_slice HO220.out; subst eo17) | (go_at_call 16; (with_reducible refine (duty_Plan.calls t214 t215 t216 t217 _ _ t218 x6_1 (t222 == 0) t224 t227 _ ?side1 ?side2 A12.out).mono ?_); (case side1 => repeat (first | exact (Kd.R_reads' HO220.out).2.2 | (with_reducible refine Kd.C_alloc ?_ _) | (with_reducible refine Kd.C_drewN ?_ _) | (with_reducible refine Kd.C_drew ?_))); (case side2 => exact (Kd.R_reads' HO220.out).2.1); rintro e w18 ⟨v225, rfl, ho0, hb⟩; have n0_ := Aside0.mk (Kd.S_elder' (by (with_reducible repeat (first | apply Kd.S_alloc | apply Kd.S_drewN | apply Kd.S_drew)); exact HO_4.out) (Kd.R_base ho0) hb); have n1_ := Aside0.mk (Kd.R_below (by (with_reducible repeat (first | apply Kd.R_alloc | apply Kd.R_drewN | apply Kd.R_drew)); exact HO220.out) hb); have n2_ := Aside0.mk (Kd.R_lower ho0 (below_size (by repeat (first | (with_reducible first | exact HB.out | apply below_alloc | apply pw_below_drewN | apply below_drew1 | refine below_set ?_ (IsS46.ge HI211.out)) | exact HB.out)))); have n3_ := Aside0.mk (IsS46.below (by repeat (first | (with_reducible first | exact HI211.out | apply IsS46.alloc | apply IsS46.drewN | apply IsS46.drew | apply IsS46.set_1) | exact HI211.out)) hb); have n4_ := Aside0.mk (below_step (by repeat (first | (with_reducible first | exact HB.out | apply below_alloc | apply pw_below_drewN | apply below_drew1 | refine below_set ?_ (IsS46.ge HI211.out)) | exact HB.out)) hb); clear HO_4; clear HO220; clear HI211; clear HB; have HO_4 := n0_; have HO220 := n1_; have HO226 := n2_; have HI211 := n3_; have HB := n4_; clear n0_ n1_ n2_ n3_ n4_; (try clear hb); (try clear hb2); (try clear hk); (try clear hi); (try clear ho0); obtain ⟨Ao20, co20, eo20⟩ := Kd.R_slice HO226.out; subst eo20) | ((with_reducible refine gate_builtin (b := .append) (xs := #[.tmp 40, .tmp 42]) rfl ?_); (try (refine gate_guard (by rfl) ?_; dsimp only)); at_builtin; refine Kd.S_append (Kd.slice 42 k42) (w0 := w) w.heap.size rfl (.tmp 40) (.tmp 42) 26 28 (.slice none 0 0) 24 rfl Tryd.underlying26 info28 rfl (by decide) (by omega) u4 x4_1 t224 [.slice Ao20 t224.length co20] (fun _ => True) (fun k_ => some k_ = (.slice Ao20 t224.length co20 : Value).ownBlock) rfl rfl ?aP (fun k_ hk_ => ((Kd.R_mono (ok' := fun k_ => ((fun _ => True)) k_ ∧ some k_ ≠ (u4 : Value).ownBlock) (Kd.R_apart' (HO226.out) (Kd.S_typed HO_4.out) (by decide)) (fun k_ hk => ⟨trivial, hk.2⟩))).1 k_ hk_.symm) ?aF ?aO ?aB ?aS ?aL ?_; (case aP => exact Kd.M_row (Kd.R_mono (Kd.R_tight rfl (Kd.R_mono (ok' := fun k_ => ((fun _ => True)) k_ ∧ some k_ ≠ (u4 : Value).ownBlock) (Kd.R_apart' (HO226.out) (Kd.S_typed HO_4.out) (by decide)) (fun k_ hk => ⟨trivial, hk.2⟩))) (fun _ h_ => h_))); (case aB => exact (by repeat (first | (with_reducible first | exact HB.out | apply below_alloc | apply pw_below_drewN | apply below_drew1 | refine below_set ?_ (IsS46.ge HI211.out)) | exact HB.out))); (case aF => exact (fun _ _ => trivial)); (case aO => exact (by (with_reducible repeat (first | apply Kd.S_alloc | apply Kd.S_drewN | apply Kd.S_drew)); exact Kd.S_mono HO_4.out (fun k_ hk => ⟨trivial, fun e_ => hk.2 e_⟩))); (case aS => exact (below_size (by repeat (first | (with_reducible first | exact HB.out | apply below_alloc | apply pw_below_drewN | apply below_drew1 | refine below_set ?_ (IsS46.ge HI211.out)) | exact HB.out)))); (case aL => have := LMc14.out; omega); intro v229 w19 ho hb hg hat; rw [← Ny228.out] at ho; have n0_ := Aside0.mk (IsS46.grown (by repeat (first | (with_reducible first | exact HI211.out | apply IsS46.alloc | apply IsS46.drewN | apply IsS46.drew | apply IsS46.set_1) | exact HI211.out)) hg (IsS46.own_neS HI211.out HO_4.out (by decide))); have n1_ := Aside0.mk (Kd.R_over' (by (with_reducible repeat (first | apply Kd.R_alloc | apply Kd.R_drewN | apply Kd.R_drew)); exact HO220.out) (Kd.S_typed (by (with_reducible repeat (first | apply Kd.S_alloc | apply Kd.S_drewN | apply Kd.S_drew)); exact HO_4.out)) (by decide) hg); have n2_ := Aside0.mk (hb); have n3_ := Aside0.mk (ho); clear HI211; clear HO220; clear HB; clear HO_4; clear HO226; have HI211 := n0_; have HO220 := n1_; have HB := n2_; have HO230 := n3_; clear n0_ n1_ n2_ n3_; clear ho hb hg hat)))
        go_roundg k1
        case measure => have := HK1.out; omega
        case rel => exact ⟨(y228), (wrap64 (x5_1 + (t224.length : Int))), (wrap64 (x6_1 - 1)), (t223), (by first | rfl | (simp; done) | (simp [*]; done)), (by first | rfl | (simp; done) | (simp [*]; done)), H', ⟨by have := HK1.out; omega⟩, ⟨by (with_reducible repeat (first | apply Kd.S_alloc | apply Kd.S_drewN | apply Kd.S_drew)); exact HO230.out⟩, ⟨by repeat (first | (with_reducible first | exact HI211.out | apply IsS46.alloc | apply IsS46.drewN | apply IsS46.drew | apply IsS46.set_1) | exact HI211.out)⟩, ⟨by repeat (first | (with_reducible first | exact HB.out | apply below_alloc | apply pw_below_drewN | apply below_drew1 | refine below_set ?_ (IsS46.ge HI211.out)) | exact HB.out)⟩⟩
       ·rw [if_neg c14] at H
        exact absurd H (by simp)
      ·rw [if_neg c13] at H
       have c13b0 : (t227 == 0) = false := beq_eq_false_iff_ne.mpr c13
       have c13b1 : (t227 != 0) = true := bne_iff_ne.mpr c13
       obtain rfl := Option.some.inj H
       go_wp2_with (first | (go_at_call 9; (with_reducible refine (storagebarterplay_Dice_Arrangement.calls k1 g211 t209 x212001_1 4 t214 t215 t216 t217 t218 t221 w _ ?side1 ?side2 A10.out).mono ?_); (case side1 => repeat (first | (with_reducible first | exact HI211.out | apply IsS46.alloc | apply IsS46.drewN | apply IsS46.drew | apply IsS46.set_1) | exact HI211.out)); (case side2 => repeat (first | (with_reducible first | exact HB.out | apply below_alloc | apply pw_below_drewN | apply below_drew1 | refine below_set ?_ (IsS46.ge HI211.out)) | exact HB.out)); rintro e w21 ⟨v219, rfl, ho0, hi, hb, hk⟩; have n0_ := Aside0.mk (Kd.S_mono (Kd.S_keep (IsS46.apartS (show IsS46 w _ g211 t209 x212001_1 from by repeat (first | (with_reducible first | exact HI211.out | apply IsS46.alloc | apply IsS46.drewN | apply IsS46.drew | apply IsS46.set_1) | exact HI211.out)) (by (with_reducible repeat (first | apply Kd.S_alloc | apply Kd.S_drewN | apply Kd.S_drew)); exact HO_4.out) (by decide)) hk (fun _ h => h.2)) (fun _ h => h.1)); have n1_ := Aside0.mk (Kd.R_lower ho0 (below_size (by repeat (first | (with_reducible first | exact HB.out | apply below_alloc | apply pw_below_drewN | apply below_drew1 | refine below_set ?_ (IsS46.ge HI211.out)) | exact HB.out)))); have n2_ := Aside0.mk (hb); have n3_ := Aside0.mk (hi); clear HO_4; clear HB; clear HI211; have HO_4 := n0_; have HO220 := n1_; have HB := n2_; have HI211 := n3_; clear n0_ n1_ n2_ n3_; (try clear hb); (try clear hb2); (try clear hk); (try clear hi); (try clear ho0)) | (go_at_call 7; (with_reducible refine (storagebarterplay_Dice_Pick.calls g211 t209 t221 2 t222 t223 w _ ?side1 ?side2 A11.out).mono ?_); (case side1 => repeat (first | (with_reducible first | exact HI211.out | apply IsS46.alloc | apply IsS46.drewN | apply IsS46.drew | apply IsS46.set_1) | exact HI211.out)); (case side2 => repeat (first | (with_reducible first | exact HB.out | apply below_alloc | apply pw_below_drewN | apply below_drew1 | refine below_set ?_ (IsS46.ge HI211.out)) | exact HB.out)); rintro e w22 ⟨rfl, hi, hb, hk⟩; have n0_ := Aside0.mk (Kd.S_mono (Kd.S_keep (IsS46.apartS (show IsS46 w _ g211 t209 t221 from by repeat (first | (with_reducible first | exact HI211.out | apply IsS46.alloc | apply IsS46.drewN | apply IsS46.drew | apply IsS46.set_1) | exact HI211.out)) (by (with_reducible repeat (first | apply Kd.S_alloc | apply Kd.S_drewN | apply Kd.S_drew)); exact HO_4.out) (by decide)) hk (fun _ h => h.2)) (fun _ h => h.1)); have n1_ := Aside0.mk (Kd.R_mono (Kd.R_keep (IsS46.apart (show IsS46 w _ g211 t209 t221 from by repeat (first | (with_reducible first | exact HI211.out | apply IsS46.alloc | apply IsS46.drewN | apply IsS46.drew | apply IsS46.set_1) | exact HI211.out)) (by (with_reducible repeat (first | apply Kd.R_alloc | apply Kd.R_drewN | apply Kd.R_drew)); exact HO220.out) (by decide)) hk (fun _ h => h.2)) (fun _ h => h.1)); have n2_ := Aside0.mk (hb); have n3_ := Aside0.mk (hi); clear HO_4; clear HO220; clear HB; clear HI211; have HO_4 := n0_; have HO220 := n1_; have HB := n2_; have HI211 := n3_; clear n0_ n1_ n2_ n3_; (try clear hb); (try clear hb2); (try clear hk); (try clear hi); obtain ⟨Ao23, co23, eo23⟩ := Kd.R_slice HO220.out; subst eo23) | (go_at_call 16; (with_reducible refine (duty_Plan.calls t214 t215 t216 t217 _ _ t218 x6_1 (t222 == 0) t224 t227 _ ?side1 ?side2 A12.out).mono ?_); (case side1 => repeat (first | exact (Kd.R_reads' HO220.out).2.2 | (with_reducible refine Kd.C_alloc ?_ _) | (with_reducible refine Kd.C_drewN ?_ _) | (with_reducible refine Kd.C_drew ?_))); (case side2 => exact (Kd.R_reads' HO220.out).2.1); rintro e w24 ⟨v225, rfl, ho0, hb⟩; have n0_ := Aside0.mk (Kd.S_elder' (by (with_reducible repeat (first | apply Kd.S_alloc | apply Kd.S_drewN | apply Kd.S_drew)); exact HO_4.out) (Kd.R_base ho0) hb); have n1_ := Aside0.mk (Kd.R_below (by (with_reducible repeat (first | apply Kd.R_alloc | apply Kd.R_drewN | apply Kd.R_drew)); exact HO220.out) hb); have n2_ := Aside0.mk (Kd.R_lower ho0 (below_size (by repeat (first | (with_reducible first | exact HB.out | apply below_alloc | apply pw_below_drewN | apply below_drew1 | refine below_set ?_ (IsS46.ge HI211.out)) | exact HB.out)))); have n3_ := Aside0.mk (IsS46.below (by repeat (first | (with_reducible first | exact HI211.out | apply IsS46.alloc | apply IsS46.drewN | apply IsS46.drew | apply IsS46.set_1) | exact HI211.out)) hb); have n4_ := Aside0.mk (below_step (by repeat (first | (with_reducible first | exact HB.out | apply below_alloc | apply pw_below_drewN | apply below_drew1 | refine below_set ?_ (IsS46.ge HI211.out)) | exact HB.out)) hb); clear HO_4; clear HO220; clear HI211; clear HB; have HO_4 := n0_; have HO220 := n1_; have HO226 := n2_; have HI211 := n3_; have HB := n4_; clear n0_ n1_ n2_ n3_ n4_; (try clear hb); (try clear hb2); (try clear hk); (try clear hi); (try clear ho0)))
       repeat (go_quiet (fail); try go_wp2_with (first | (go_at_call 9; (with_reducible refine (storagebarterplay_Dice_Arrangement.calls k1 g211 t209 x212001_1 4 t214 t215 t216 t217 t218 t221 w _ ?side1 ?side2 A10.out).mono ?_); (case side1 => repeat (first | (with_reducible first | exact HI211.out | apply IsS46.alloc | apply IsS46.drewN | apply IsS46.drew | apply IsS46.set_1) | exact HI211.out)); (case side2 => repeat (first | (with_reducible first | exact HB.out | apply below_alloc | apply pw_below_drewN | apply below_drew1 | refine below_set ?_ (IsS46.ge HI211.out)) | exact HB.out)); rintro e w21 ⟨v219, rfl, ho0, hi, hb, hk⟩; have n0_ := Aside0.mk (Kd.S_mono (Kd.S_keep (IsS46.apartS (show IsS46 w _ g211 t209 x212001_1 from by repeat (first | (with_reducible first | exact HI211.out | apply IsS46.alloc | apply IsS46.drewN | apply IsS46.drew | apply IsS46.set_1) | exact HI211.out)) (by (with_reducible repeat (first | apply Kd.S_alloc | apply Kd.S_drewN | apply Kd.S_drew)); exact HO_4.out) (by decide)) hk (fun _ h => h.2)) (fun _ h => h.1)); have n1_ := Aside0.mk (Kd.R_lower ho0 (below_size (by repeat (first | (with_reducible first | exact HB.out | apply below_alloc | apply pw_below_drewN | apply below_drew1 | refine below_set ?_ (IsS46.ge HI211.out)) | exact HB.out)))); have n2_ := Aside0.mk (hb); have n3_ := Aside0.mk (hi); clear HO_4; clear HB; clear HI211; have HO_4 := n0_; have HO220 := n1_; have HB := n2_; have HI211 := n3_; clear n0_ n1_ n2_ n3_; (try clear hb); (try clear hb2); (try clear hk); (try clear hi); (try clear ho0)) | (go_at_call 7; (with_reducible refine (storagebarterplay_Dice_Pick.calls g211 t209 t221 2 t222 t223 w _ ?side1 ?side2 A11.out).mono ?_); (case side1 => repeat (first | (with_reducible first | exact HI211.out | apply IsS46.alloc | apply IsS46.drewN | apply IsS46.drew | apply IsS46.set_1) | exact HI211.out)); (case side2 => repeat (first | (with_reducible first | exact HB.out | apply below_alloc | apply pw_below_drewN | apply below_drew1 | refine below_set ?_ (IsS46.ge HI211.out)) | exact HB.out)); rintro e w22 ⟨rfl, hi, hb, hk⟩; have n0_ := Aside0.mk (Kd.S_mono (Kd.S_keep (IsS46.apartS (show IsS46 w _ g211 t209 t221 from by repeat (first | (with_reducible first | exact HI211.out | apply IsS46.alloc | apply IsS46.drewN | apply IsS46.drew | apply IsS46.set_1) | exact HI211.out)) (by (with_reducible repeat (first | apply Kd.S_alloc | apply Kd.S_drewN | apply Kd.S_drew)); exact HO_4.out) (by decide)) hk (fun _ h => h.2)) (fun _ h => h.1)); have n1_ := Aside0.mk (Kd.R_mono (Kd.R_keep (IsS46.apart (show IsS46 w _ g211 t209 t221 from by repeat (first | (with_reducible first | exact HI211.out | apply IsS46.alloc | apply IsS46.drewN | apply IsS46.drew | apply IsS46.set_1) | exact HI211.out)) (by (with_reducible repeat (first | apply Kd.R_alloc | apply Kd.R_drewN | apply Kd.R_drew)); exact HO220.out) (by decide)) hk (fun _ h => h.2)) (fun _ h => h.1)); have n2_ := Aside0.mk (hb); have n3_ := Aside0.mk (hi); clear HO_4; clear HO220; clear HB; clear HI211; have HO_4 := n0_; have HO220 := n1_; have HB := n2_; have HI211 := n3_; clear n0_ n1_ n2_ n3_; (try clear hb); (try clear hb2); (try clear hk); (try clear hi); obtain ⟨Ao23, co23, eo23⟩ := Kd.R_slice HO220.out; subst eo23) | (go_at_call 16; (with_reducible refine (duty_Plan.calls t214 t215 t216 t217 _ _ t218 x6_1 (t222 == 0) t224 t227 _ ?side1 ?side2 A12.out).mono ?_); (case side1 => repeat (first | exact (Kd.R_reads' HO220.out).2.2 | (with_reducible refine Kd.C_alloc ?_ _) | (with_reducible refine Kd.C_drewN ?_ _) | (with_reducible refine Kd.C_drew ?_))); (case side2 => exact (Kd.R_reads' HO220.out).2.1); rintro e w24 ⟨v225, rfl, ho0, hb⟩; have n0_ := Aside0.mk (Kd.S_elder' (by (with_reducible repeat (first | apply Kd.S_alloc | apply Kd.S_drewN | apply Kd.S_drew)); exact HO_4.out) (Kd.R_base ho0) hb); have n1_ := Aside0.mk (Kd.R_below (by (with_reducible repeat (first | apply Kd.R_alloc | apply Kd.R_drewN | apply Kd.R_drew)); exact HO220.out) hb); have n2_ := Aside0.mk (Kd.R_lower ho0 (below_size (by repeat (first | (with_reducible first | exact HB.out | apply below_alloc | apply pw_below_drewN | apply below_drew1 | refine below_set ?_ (IsS46.ge HI211.out)) | exact HB.out)))); have n3_ := Aside0.mk (IsS46.below (by repeat (first | (with_reducible first | exact HI211.out | apply IsS46.alloc | apply IsS46.drewN | apply IsS46.drew | apply IsS46.set_1) | exact HI211.out)) hb); have n4_ := Aside0.mk (below_step (by repeat (first | (with_reducible first | exact HB.out | apply below_alloc | apply pw_below_drewN | apply below_drew1 | refine below_set ?_ (IsS46.ge HI211.out)) | exact HB.out)) hb); clear HO_4; clear HO220; clear HI211; clear HB; have HO_4 := n0_; have HO220 := n1_; have HO226 := n2_; have HI211 := n3_; have HB := n4_; clear n0_ n1_ n2_ n3_ n4_; (try clear hb); (try clear hb2); (try clear hk); (try clear hi); (try clear ho0))))
       go_ret
       exact ⟨by first | rfl | (simp [errW_none, errW_some] <;> rfl) | (simp [*, errW_none, errW_some] <;> rfl), by repeat (first | (with_reducible first | exact HB.out | apply below_alloc | apply pw_below_drewN | apply below_drew1 | refine below_set ?_ (IsS46.ge HI211.out)) | exact HB.out)⟩
     ·rw [if_neg c9] at H
      have c9b0 : decide (0 < x6_1) = false := decide_eq_false c9
      clear c9
      replace H := Option.bind_eq_some_iff.mp H
      obtain ⟨t231, A250, H⟩ := H
      replace H : (if (t231.length : Int) = x5_1 then (if 8 ≤ 35184372088832 then (storagebarterlaw28_DutyAll.l1 k1 x4_1 x5_1 t231 (List.replicate 8 0) t231 (t231.length : Int) 0) else (none)) else (some false)) = some r := H
      have A25 := Aside0.mk A250
      clear A250
      by_cases c26 : (t231.length : Int) = x5_1
      ·rw [if_pos c26] at H
       have c26b0 : ((t231.length : Int) == x5_1) = true := beq_iff_eq.mpr c26
       have c26b1 : ((t231.length : Int) != x5_1) = false := bne_eq_false_iff_eq.mpr c26
       clear c26
       by_cases c27 : 8 ≤ 35184372088832
       ·rw [if_pos c27] at H
        have c27b0 := eq_true c27
        have c27b1 : decide (8 ≤ 35184372088832) = true := decide_eq_true c27
        clear c27
        obtain ⟨y234, hy234⟩ : ∃ y_ : List Int, y_ = (List.replicate 8 0) := ⟨_, rfl⟩
        replace H : (storagebarterlaw28_DutyAll.l1 k1 x4_1 x5_1 t231 y234 t231 (t231.length : Int) 0) = some r := by first | (rw [hy234]; with_reducible exact H) | (have H2_ := (Option.bind_some _ _).symm.trans H; rw [hy234]; with_reducible exact H2_) | (have H2_ := (Option.bind_some _ _).symm.trans H; with_reducible exact H2_) | with_reducible exact H | (rw [hy234]; exact H) | exact H
        have Ny234 := Aside0.mk hy234
        clear hy234
        have H' := Aside0.mk H
        clear H
        obtain ⟨Ao28, co28, eo28⟩ := Kd.S_slice HO_4.out
        subst eo28
        go_wp2_with (first | (go_at_call 10; (with_reducible refine (duty_Merge.calls k1 _ _ x4_1 t231 _ ?side1 ?side2 A25.out).mono ?_); (case side1 => repeat (first | exact (Kd.S_reads' HO_4.out).2.2 | (with_reducible refine Kd.C_alloc ?_ _) | (with_reducible refine Kd.C_drewN ?_ _) | (with_reducible refine Kd.C_drew ?_))); (case side2 => exact (Kd.S_reads' HO_4.out).2.1); rintro e w29 ⟨v232, rfl, ho0, hb⟩; have n0_ := Aside0.mk (Kd.S_elder' (by (with_reducible repeat (first | apply Kd.S_alloc | apply Kd.S_drewN | apply Kd.S_drew)); exact HO_4.out) (Kd.R_base ho0) hb); have n1_ := Aside0.mk (Kd.R_lower ho0 (below_size (by repeat (first | (with_reducible first | exact HB.out | apply below_alloc | apply pw_below_drewN | apply below_drew1 | refine below_set ?_ (IsS46.ge HI211.out)) | exact HB.out)))); have n2_ := Aside0.mk (IsS46.below (by repeat (first | (with_reducible first | exact HI211.out | apply IsS46.alloc | apply IsS46.drewN | apply IsS46.drew | apply IsS46.set_1) | exact HI211.out)) hb); have n3_ := Aside0.mk (below_step (by repeat (first | (with_reducible first | exact HB.out | apply below_alloc | apply pw_below_drewN | apply below_drew1 | refine below_set ?_ (IsS46.ge HI211.out)) | exact HB.out)) hb); clear HO_4; clear HI211; clear HB; have HO_4 := n0_; have HO233 := n1_; have HI211 := n2_; have HB := n3_; clear n0_ n1_ n2_ n3_; (try clear hb); (try clear hb2); (try clear hk); (try clear hi); (try clear ho0); obtain ⟨Ao30, co30, eo30⟩ := Kd.R_slice HO233.out; subst eo30) | ((with_reducible refine gate_dst (N := 54) rfl ?_); (try (refine gate_guard (by rfl) ?_; dsimp only)); refine Kd.R_make (Kd.int .i64) _ 3 rfl (N := 54) rfl 32 _ _ rfl 8 rfl rfl Tryd.underlying32 (.int .i64 0) 8 info3 rfl (by decide) (by omega) 0 (ok := fun _ => True) (okp := fun _ => True) rfl (fun _ hk => hk) trivial (by omega) (by omega) (Below.refl _ _) (Nat.le_refl _) ?_; intro v235 w31 ho32 hb hg_ hnew_; clear hg_ hnew_; (first | rw [← Ny234.out] at ho32 | (simp only [Int.reduceToNat] at ho32; rw [← Ny234.out] at ho32)); have n0_ := Aside0.mk (Kd.S_below (by (with_reducible repeat (first | apply Kd.S_alloc | apply Kd.S_drewN | apply Kd.S_drew)); exact HO_4.out) hb); have n1_ := Aside0.mk (Kd.R_below (by (with_reducible repeat (first | apply Kd.R_alloc | apply Kd.R_drewN | apply Kd.R_drew)); exact HO233.out) hb); have n2_ := Aside0.mk (Kd.R_lower ho32 (below_size (by repeat (first | (with_reducible first | exact HB.out | apply below_alloc | apply pw_below_drewN | apply below_drew1 | refine below_set ?_ (IsS46.ge HI211.out)) | exact HB.out)))); have n3_ := Aside0.mk (IsS46.below (by repeat (first | (with_reducible first | exact HI211.out | apply IsS46.alloc | apply IsS46.drewN | apply IsS46.drew | apply IsS46.set_1) | exact HI211.out)) hb); have n4_ := Aside0.mk (below_step (by repeat (first | (with_reducible first | exact HB.out | apply below_alloc | apply pw_below_drewN | apply below_drew1 | refine below_set ?_ (IsS46.ge HI211.out)) | exact HB.out)) hb); clear HO_4; clear HO233; clear HI211; clear HB; have HO_4 := n0_; have HO233 := n1_; have HO236 := n2_; have HI211 := n3_; have HB := n4_; clear n0_ n1_ n2_ n3_ n4_; clear hb ho32))
        repeat (go_quiet (fail); try go_wp2_with (first | (go_at_call 10; (with_reducible refine (duty_Merge.calls k1 _ _ x4_1 t231 _ ?side1 ?side2 A25.out).mono ?_); (case side1 => repeat (first | exact (Kd.S_reads' HO_4.out).2.2 | (with_reducible refine Kd.C_alloc ?_ _) | (with_reducible refine Kd.C_drewN ?_ _) | (with_reducible refine Kd.C_drew ?_))); (case side2 => exact (Kd.S_reads' HO_4.out).2.1); rintro e w29 ⟨v232, rfl, ho0, hb⟩; have n0_ := Aside0.mk (Kd.S_elder' (by (with_reducible repeat (first | apply Kd.S_alloc | apply Kd.S_drewN | apply Kd.S_drew)); exact HO_4.out) (Kd.R_base ho0) hb); have n1_ := Aside0.mk (Kd.R_lower ho0 (below_size (by repeat (first | (with_reducible first | exact HB.out | apply below_alloc | apply pw_below_drewN | apply below_drew1 | refine below_set ?_ (IsS46.ge HI211.out)) | exact HB.out)))); have n2_ := Aside0.mk (IsS46.below (by repeat (first | (with_reducible first | exact HI211.out | apply IsS46.alloc | apply IsS46.drewN | apply IsS46.drew | apply IsS46.set_1) | exact HI211.out)) hb); have n3_ := Aside0.mk (below_step (by repeat (first | (with_reducible first | exact HB.out | apply below_alloc | apply pw_below_drewN | apply below_drew1 | refine below_set ?_ (IsS46.ge HI211.out)) | exact HB.out)) hb); clear HO_4; clear HI211; clear HB; have HO_4 := n0_; have HO233 := n1_; have HI211 := n2_; have HB := n3_; clear n0_ n1_ n2_ n3_; (try clear hb); (try clear hb2); (try clear hk); (try clear hi); (try clear ho0); obtain ⟨Ao30, co30, eo30⟩ := Kd.R_slice HO233.out; subst eo30) | ((with_reducible refine gate_dst (N := 54) rfl ?_); (try (refine gate_guard (by rfl) ?_; dsimp only)); refine Kd.R_make (Kd.int .i64) _ 3 rfl (N := 54) rfl 32 _ _ rfl 8 rfl rfl Tryd.underlying32 (.int .i64 0) 8 info3 rfl (by decide) (by omega) 0 (ok := fun _ => True) (okp := fun _ => True) rfl (fun _ hk => hk) trivial (by omega) (by omega) (Below.refl _ _) (Nat.le_refl _) ?_; intro v235 w31 ho32 hb hg_ hnew_; clear hg_ hnew_; (first | rw [← Ny234.out] at ho32 | (simp only [Int.reduceToNat] at ho32; rw [← Ny234.out] at ho32)); have n0_ := Aside0.mk (Kd.S_below (by (with_reducible repeat (first | apply Kd.S_alloc | apply Kd.S_drewN | apply Kd.S_drew)); exact HO_4.out) hb); have n1_ := Aside0.mk (Kd.R_below (by (with_reducible repeat (first | apply Kd.R_alloc | apply Kd.R_drewN | apply Kd.R_drew)); exact HO233.out) hb); have n2_ := Aside0.mk (Kd.R_lower ho32 (below_size (by repeat (first | (with_reducible first | exact HB.out | apply below_alloc | apply pw_below_drewN | apply below_drew1 | refine below_set ?_ (IsS46.ge HI211.out)) | exact HB.out)))); have n3_ := Aside0.mk (IsS46.below (by repeat (first | (with_reducible first | exact HI211.out | apply IsS46.alloc | apply IsS46.drewN | apply IsS46.drew | apply IsS46.set_1) | exact HI211.out)) hb); have n4_ := Aside0.mk (below_step (by repeat (first | (with_reducible first | exact HB.out | apply below_alloc | apply pw_below_drewN | apply below_drew1 | refine below_set ?_ (IsS46.ge HI211.out)) | exact HB.out)) hb); clear HO_4; clear HO233; clear HI211; clear HB; have HO_4 := n0_; have HO233 := n1_; have HO236 := n2_; have HI211 := n3_; have HB := n4_; clear n0_ n1_ n2_ n3_ n4_; clear hb ho32)))
        go_loopg [57] k1 (fun kq v57 w' => ∃ (x10_2 : List Int) (x57_2 : Int), v57 = .int .i64 x57_2 ∧ Aside0 (storagebarterlaw28_DutyAll.l1 kq x4_1 x5_1 t231 x10_2 t231 (t231.length : Int) x57_2 = some r) ∧ Aside0 (kq ≤ k1) ∧ Aside0 (Kd.S (Kd.slice 42 k42) 28 w' w.heap.size (fun k_ => some k_ ≠ ((.slice Ao30 t231.length co30) : Value).ownBlock ∧ some k_ ≠ ((.slice Ao30 t231.length co30) : Value).ownBlock) (.slice Ao28 x4_1.length co28) x4_1) ∧ Aside0 (Kd.R k42 42 w' w.heap.size (fun _ => True) (.slice Ao30 t231.length co30) t231) ∧ Aside0 (Kd.R (Kd.int .i64) 3 w' w.heap.size (fun _ => True) v235 x10_2) ∧ Aside0 (Kd.R k42 42 w' w.heap.size (fun _ => True) (.slice Ao30 t231.length co30) t231) ∧ Aside0 (Below w.heap.size w w'))
        case atStart => exact ⟨(y234), (0), (by first | rfl | (simp; done) | (simp [*]; done)), H', ⟨Nat.le_refl _⟩, ⟨by (with_reducible repeat (first | apply Kd.S_alloc | apply Kd.S_drewN | apply Kd.S_drew)); exact Kd.S_mono HO_4.out (fun _ hk => ⟨hk.2, hk.2⟩)⟩, ⟨by (with_reducible repeat (first | apply Kd.R_alloc | apply Kd.R_drewN | apply Kd.R_drew)); exact HO233.out⟩, ⟨by (with_reducible repeat (first | apply Kd.R_alloc | apply Kd.R_drewN | apply Kd.R_drew)); exact HO236.out⟩, ⟨by (with_reducible repeat (first | apply Kd.R_alloc | apply Kd.R_drewN | apply Kd.R_drew)); exact HO233.out⟩, ⟨by repeat (first | (with_reducible first | exact HB.out | apply below_alloc | apply pw_below_drewN | apply below_drew1 | refine below_set ?_ (IsS46.ge HI211.out)) | exact HB.out)⟩⟩
        case round =>
         clear H'
         try clear c1
         try clear c2
         try clear p2
         try clear c3
         try clear c4
         try clear p6
         try clear c9
         try clear c9b0
         try clear c13
         try clear c13b0
         try clear c13b1
         try clear c14
         try clear c26
         try clear c26b0
         try clear c26b1
         try clear c27
         try clear c27b0
         try clear c27b1
         try clear p2
         obtain ⟨x10_2, x57_2, rfl, HA, HK2, HO_4, HO_9, HO_10, HO_55, HB⟩ := hrel
         cases gk with
         | zero => exact absurd HA.out (by simp [storagebarterlaw28_DutyAll.l1])
         | succ k2 =>
          have H := HA.out
          clear HA
          simp only [storagebarterlaw28_DutyAll.l1] at H
          by_cases c33 : x57_2 < (t231.length : Int)
          ·rw [if_pos c33] at H
           have c33b0 : decide (x57_2 < (t231.length : Int)) = true := decide_eq_true c33
           clear c33
           by_cases c34 : 0 ≤ x57_2
           ·rw [if_pos c34] at H
            have c34b0 : decide (0 ≤ x57_2) = true := decide_eq_true c34
            clear c34
            by_cases c35 : x57_2 < (t231.length : Int)
            ·rw [if_pos c35] at H
             have c35b0 : decide (x57_2 < (t231.length : Int)) = true := decide_eq_true c35
             clear c35
             have HC36 := Aside0.mk H
             clear H
             have p237 : 0 ≤ (x57_2 : Int) := of_decide_eq_true (by first | (with_reducible assumption) | assumption)
             have q237 : x57_2 < (t231.length : Int) := of_decide_eq_true (by first | (with_reducible assumption) | assumption)
             obtain ⟨ad237, e237, hx237_0, hx237_1, hx237_2, hx237_3⟩ := at_T42 (Kd.R_reads' HO_55.out).2.2 x57_2 p237 q237
             cases e237
             replace p237 := eq_true p237
             replace q237 := eq_true q237
             go_upto_region 21 with (first | ((with_reducible refine gate_dst (N := 12) rfl ?_); (try (refine gate_guard (by rfl) ?_; dsimp only)); refine box_event ?hg (N := 12) ?hd (cs := #[.int .i64 0, .int .i64 0, .int .i64 0, .int .i64 0]) (t := 42) ?hr ?_; (case hd => rfl); (case hg => rfl); (case hr => first | (go_simp; done) | (go_simp; rfl)); intro gb238 hg w37 hbox hb; have n0_ := Aside0.mk (Kd.S_below (Kd.S_elderB (by (with_reducible repeat (first | apply Kd.S_alloc | apply Kd.S_drewN | apply Kd.S_drew)); exact HO_4.out) gb238 (Nat.le_of_eq hg.symm)) hb); have n1_ := Aside0.mk (Kd.R_below (Kd.R_elderB (by (with_reducible repeat (first | apply Kd.R_alloc | apply Kd.R_drewN | apply Kd.R_drew)); exact HO_9.out) gb238 (Nat.le_of_eq hg.symm)) hb); have n2_ := Aside0.mk (Kd.R_below (by (with_reducible repeat (first | apply Kd.R_alloc | apply Kd.R_drewN | apply Kd.R_drew)); exact HO_10.out) hb); have n3_ := Aside0.mk (Kd.R_below (Kd.R_elderB (by (with_reducible repeat (first | apply Kd.R_alloc | apply Kd.R_drewN | apply Kd.R_drew)); exact HO_55.out) gb238 (Nat.le_of_eq hg.symm)) hb); have n4_ := Aside0.mk (below_step (by repeat (first | (with_reducible first | exact HB.out | apply below_alloc | apply pw_below_drewN | apply below_drew1) | exact HB.out)) hb); have n5_ := Aside0.mk (hbox); have n6_ := Aside0.mk ((by rw [hg]; exact (below_size (by repeat (first | (with_reducible first | exact HB.out | apply below_alloc | apply pw_below_drewN | apply below_drew1) | exact HB.out))) : w.heap.size ≤ gb238)); have n7_ := Aside0.mk ((by rw [hg]; exact (below_size (by repeat (first | (with_reducible first | exact HB.out | apply below_alloc | apply pw_below_drewN | apply below_drew1) | exact HB.out))) : w.heap.size ≤ gb238)); clear HO_4; clear HO_9; clear HO_10; clear HO_55; clear HB; have HO_4 := n0_; have HO_9 := n1_; have HO_10 := n2_; have HO_55 := n3_; have HB := n4_; have BK238 := n5_; have GW238 := n6_; have GE238 := n7_; clear n0_ n1_ n2_ n3_ n4_ n5_ n6_ n7_; clear hb hbox hg; have hcz38_0 : w37.cell? ⟨gb238, 0, none⟩ = some (.int .i64 0) := (blk_cell BK238.out 0).trans rfl; have hcz38_1 : w37.cell? ⟨gb238, 1, none⟩ = some (.int .i64 0) := (blk_cell BK238.out 1).trans rfl; have hcz38_2 : w37.cell? ⟨gb238, 2, none⟩ = some (.int .i64 0) := (blk_cell BK238.out 2).trans rfl; have hcz38_3 : w37.cell? ⟨gb238, 3, none⟩ = some (.int .i64 0) := (blk_cell BK238.out 3).trans rfl; have hfz38_0 := blk_frozen BK238.out 0; have hfz38_1 := blk_frozen BK238.out 1; have hfz38_2 := blk_frozen BK238.out 2; have hfz38_3 := blk_frozen BK238.out 3))
             repeat (go_quiet (first | ((with_reducible refine gate_dst (N := 12) rfl ?_); (try (refine gate_guard (by rfl) ?_; dsimp only)); refine box_event ?hg (N := 12) ?hd (cs := #[.int .i64 0, .int .i64 0, .int .i64 0, .int .i64 0]) (t := 42) ?hr ?_; (case hd => rfl); (case hg => rfl); (case hr => first | (go_simp; done) | (go_simp; rfl)); intro gb238 hg w37 hbox hb; have n0_ := Aside0.mk (Kd.S_below (Kd.S_elderB (by (with_reducible repeat (first | apply Kd.S_alloc | apply Kd.S_drewN | apply Kd.S_drew)); exact HO_4.out) gb238 (Nat.le_of_eq hg.symm)) hb); have n1_ := Aside0.mk (Kd.R_below (Kd.R_elderB (by (with_reducible repeat (first | apply Kd.R_alloc | apply Kd.R_drewN | apply Kd.R_drew)); exact HO_9.out) gb238 (Nat.le_of_eq hg.symm)) hb); have n2_ := Aside0.mk (Kd.R_below (by (with_reducible repeat (first | apply Kd.R_alloc | apply Kd.R_drewN | apply Kd.R_drew)); exact HO_10.out) hb); have n3_ := Aside0.mk (Kd.R_below (Kd.R_elderB (by (with_reducible repeat (first | apply Kd.R_alloc | apply Kd.R_drewN | apply Kd.R_drew)); exact HO_55.out) gb238 (Nat.le_of_eq hg.symm)) hb); have n4_ := Aside0.mk (below_step (by repeat (first | (with_reducible first | exact HB.out | apply below_alloc | apply pw_below_drewN | apply below_drew1) | exact HB.out)) hb); have n5_ := Aside0.mk (hbox); have n6_ := Aside0.mk ((by rw [hg]; exact (below_size (by repeat (first | (with_reducible first | exact HB.out | apply below_alloc | apply pw_below_drewN | apply below_drew1) | exact HB.out))) : w.heap.size ≤ gb238)); have n7_ := Aside0.mk ((by rw [hg]; exact (below_size (by repeat (first | (with_reducible first | exact HB.out | apply below_alloc | apply pw_below_drewN | apply below_drew1) | exact HB.out))) : w.heap.size ≤ gb238)); clear HO_4; clear HO_9; clear HO_10; clear HO_55; clear HB; have HO_4 := n0_; have HO_9 := n1_; have HO_10 := n2_; have HO_55 := n3_; have HB := n4_; have BK238 := n5_; have GW238 := n6_; have GE238 := n7_; clear n0_ n1_ n2_ n3_ n4_ n5_ n6_ n7_; clear hb hbox hg; have hcz38_0 : w37.cell? ⟨gb238, 0, none⟩ = some (.int .i64 0) := (blk_cell BK238.out 0).trans rfl; have hcz38_1 : w37.cell? ⟨gb238, 1, none⟩ = some (.int .i64 0) := (blk_cell BK238.out 1).trans rfl; have hcz38_2 : w37.cell? ⟨gb238, 2, none⟩ = some (.int .i64 0) := (blk_cell BK238.out 2).trans rfl; have hcz38_3 : w37.cell? ⟨gb238, 3, none⟩ = some (.int .i64 0) := (blk_cell BK238.out 3).trans rfl; have hfz38_0 := blk_frozen BK238.out 0; have hfz38_1 := blk_frozen BK238.out 1; have hfz38_2 := blk_frozen BK238.out 2; have hfz38_3 := blk_frozen BK238.out 3)); go_upto_region 21 with (first | ((with_reducible refine gate_dst (N := 12) rfl ?_); (try (refine gate_guard (by rfl) ?_; dsimp only)); refine box_event ?hg (N := 12) ?hd (cs := #[.int .i64 0, .int .i64 0, .int .i64 0, .int .i64 0]) (t := 42) ?hr ?_; (case hd => rfl); (case hg => rfl); (case hr => first | (go_simp; done) | (go_simp; rfl)); intro gb238 hg w37 hbox hb; have n0_ := Aside0.mk (Kd.S_below (Kd.S_elderB (by (with_reducible repeat (first | apply Kd.S_alloc | apply Kd.S_drewN | apply Kd.S_drew)); exact HO_4.out) gb238 (Nat.le_of_eq hg.symm)) hb); have n1_ := Aside0.mk (Kd.R_below (Kd.R_elderB (by (with_reducible repeat (first | apply Kd.R_alloc | apply Kd.R_drewN | apply Kd.R_drew)); exact HO_9.out) gb238 (Nat.le_of_eq hg.symm)) hb); have n2_ := Aside0.mk (Kd.R_below (by (with_reducible repeat (first | apply Kd.R_alloc | apply Kd.R_drewN | apply Kd.R_drew)); exact HO_10.out) hb); have n3_ := Aside0.mk (Kd.R_below (Kd.R_elderB (by (with_reducible repeat (first | apply Kd.R_alloc | apply Kd.R_drewN | apply Kd.R_drew)); exact HO_55.out) gb238 (Nat.le_of_eq hg.symm)) hb); have n4_ := Aside0.mk (below_step (by repeat (first | (with_reducible first | exact HB.out | apply below_alloc | apply pw_below_drewN | apply below_drew1) | exact HB.out)) hb); have n5_ := Aside0.mk (hbox); have n6_ := Aside0.mk ((by rw [hg]; exact (below_size (by repeat (first | (with_reducible first | exact HB.out | apply below_alloc | apply pw_below_drewN | apply below_drew1) | exact HB.out))) : w.heap.size ≤ gb238)); have n7_ := Aside0.mk ((by rw [hg]; exact (below_size (by repeat (first | (with_reducible first | exact HB.out | apply below_alloc | apply pw_below_drewN | apply below_drew1) | exact HB.out))) : w.heap.size ≤ gb238)); clear HO_4; clear HO_9; clear HO_10; clear HO_55; clear HB; have HO_4 := n0_; have HO_9 := n1_; have HO_10 := n2_; have HO_55 := n3_; have HB := n4_; have BK238 := n5_; have GW238 := n6_; have GE238 := n7_; clear n0_ n1_ n2_ n3_ n4_ n5_ n6_ n7_; clear hb hbox hg; have hcz38_0 : w37.cell? ⟨gb238, 0, none⟩ = some (.int .i64 0) := (blk_cell BK238.out 0).trans rfl; have hcz38_1 : w37.cell? ⟨gb238, 1, none⟩ = some (.int .i64 0) := (blk_cell BK238.out 1).trans rfl; have hcz38_2 : w37.cell? ⟨gb238, 2, none⟩ = some (.int .i64 0) := (blk_cell BK238.out 2).trans rfl; have hcz38_3 : w37.cell? ⟨gb238, 3, none⟩ = some (.int .i64 0) := (blk_cell BK238.out 3).trans rfl; have hfz38_0 := blk_frozen BK238.out 0; have hfz38_1 := blk_frozen BK238.out 1; have hfz38_2 := blk_frozen BK238.out 2; have hfz38_3 := blk_frozen BK238.out 3)))
             (try simp only [Act.put, List.setIfInBounds_toArray, List.set_cons_zero, List.set_cons_succ])
             go_cut [96] (fun v96 wc => ∃ (kq : Nat) (x96_35 : Bool), v96 = .bool x96_35 ∧ Aside0 (storagebarterlaw28_DutyAll.j2 kq x4_1 x5_1 t231 x10_2 t231 (t231.length : Int) x57_2 x96_35 ((rd_T42 t231 x57_2).f0) ((rd_T42 t231 x57_2).f1) ((rd_T42 t231 x57_2).f2) ((rd_T42 t231 x57_2).f3) = some r) ∧ Aside0 (kq ≤ k2) ∧ Aside0 (Kd.S (Kd.slice 42 k42) 28 wc w.heap.size (fun k_ => some k_ ≠ ((.slice (some ad237) t231.length co30) : Value).ownBlock ∧ some k_ ≠ ((.slice (some ad237) t231.length co30) : Value).ownBlock ∧ k_ ≠ gb238) (.slice Ao28 x4_1.length co28) x4_1) ∧ Aside0 (Kd.R k42 42 wc w.heap.size (fun k_ => k_ ≠ gb238) (.slice (some ad237) t231.length co30) t231) ∧ Aside0 (Kd.R (Kd.int .i64) 3 wc w.heap.size (fun _ => True) v235 x10_2) ∧ Aside0 (Kd.R k42 42 wc w.heap.size (fun k_ => k_ ≠ gb238) (.slice (some ad237) t231.length co30) t231) ∧ Aside0 (wc.heap[gb238]? = some (.cells #[.int .i64 ((rd_T42 t231 x57_2).f0), .int .i64 ((rd_T42 t231 x57_2).f1), .int .i64 ((rd_T42 t231 x57_2).f2), .int .i64 ((rd_T42 t231 x57_2).f3)] 42 (0, 0))) ∧ Aside0 (Below w.heap.size w wc))
             case first =>
              have H := HC36.out
              clear HC36
              by_cases c39 : x57_2 > 0
              ·rw [if_pos c39] at H
               have c39b0 : decide (0 < x57_2) = true := decide_eq_true c39
               clear c39
               (first | rw [c39b0] | (simp only [i64_w, i32_w]; rw [c39b0]) | skip)
               obtain ⟨ji40, hji40⟩ : ∃ j_ : Int, (wrap64 (x57_2 - 1)) = j_ := ⟨_, rfl⟩
               replace H : (if 0 ≤ (ji40) then (if (ji40) < (t231.length : Int) then (if ((rd_T42 t231 (ji40)).f0) > ((rd_T42 t231 x57_2).f0) then (storagebarterlaw28_DutyAll.j2 k2 x4_1 x5_1 t231 x10_2 t231 (t231.length : Int) x57_2 true ((rd_T42 t231 x57_2).f0) ((rd_T42 t231 x57_2).f1) ((rd_T42 t231 x57_2).f2) ((rd_T42 t231 x57_2).f3)) else (if ((rd_T42 t231 (ji40)).f0) = ((rd_T42 t231 x57_2).f0) then (storagebarterlaw28_DutyAll.j2 k2 x4_1 x5_1 t231 x10_2 t231 (t231.length : Int) x57_2 (decide (((rd_T42 t231 (ji40)).f1) > ((rd_T42 t231 x57_2).f1))) ((rd_T42 t231 x57_2).f0) ((rd_T42 t231 x57_2).f1) ((rd_T42 t231 x57_2).f2) ((rd_T42 t231 x57_2).f3)) else (storagebarterlaw28_DutyAll.j2 k2 x4_1 x5_1 t231 x10_2 t231 (t231.length : Int) x57_2 false ((rd_T42 t231 x57_2).f0) ((rd_T42 t231 x57_2).f1) ((rd_T42 t231 x57_2).f2) ((rd_T42 t231 x57_2).f3)))) else (none)) else (none)) = some r := by first | (rw [hji40] at H; exact H) | (simp only [hji40] at H ⊢; exact H)
               have hji40w : (IntKind.i64.wrap (x57_2 - 1)) = ji40 := (i64_w _).trans hji40
               by_cases c41 : 0 ≤ (ji40)
               ·rw [if_pos c41] at H
                have c41b0 : decide (0 ≤ (ji40)) = true := decide_eq_true c41
                clear c41
                by_cases c42 : (ji40) < (t231.length : Int)
                ·rw [if_pos c42] at H
                 have c42b0 : decide ((ji40) < (t231.length : Int)) = true := decide_eq_true c42
                 clear c42
                 by_cases c43 : ((rd_T42 t231 (ji40)).f0) > ((rd_T42 t231 x57_2).f0)
                 ·rw [if_pos c43] at H
                  have c43b0 : decide (((rd_T42 t231 x57_2).f0) < ((rd_T42 t231 (ji40)).f0)) = true := decide_eq_true c43
                  clear c43
                  have H' := Aside0.mk H
                  clear H
                  have p239 : 0 ≤ ((ji40) : Int) := of_decide_eq_true (by first | (with_reducible assumption) | assumption)
                  have q239 : (ji40) < (t231.length : Int) := of_decide_eq_true (by first | (with_reducible assumption) | assumption)
                  obtain ⟨ad239, e239, hx239_0, hx239_1, hx239_2, hx239_3⟩ := at_T42 (Kd.R_reads' HO_9.out).2.2 (ji40) p239 q239
                  obtain rfl : ad237 = ad239 := (by injection e239)
                  have hn239_0 : ad237.block ≠ gb238 := Kd.own_blk (fun e_ => (HO_9.out.1 _ e_.symm).2 rfl)
                  have hn239_1 : ad237.block ≠ gb238 := Kd.own_blk (fun e_ => (HO_9.out.1 _ e_.symm).2 rfl)
                  have hn239_2 : ad237.block ≠ gb238 := Kd.own_blk (fun e_ => (HO_9.out.1 _ e_.symm).2 rfl)
                  have hn239_3 : ad237.block ≠ gb238 := Kd.own_blk (fun e_ => (HO_9.out.1 _ e_.symm).2 rfl)
                  replace hx239_0 := (cell_far (p := ⟨gb238, 0, none⟩) (by first | (rw [add_block]; exact hn239_0) | (show (Addr.add _ _).block ≠ _; rw [add_block]; exact hn239_0) | exact hn239_0) (.int .i64 ((rd_T42 t231 x57_2).f0))).trans hx239_0
                  replace hx239_1 := (cell_far (p := ⟨gb238, 0, none⟩) (by first | (rw [add_block]; exact hn239_0) | (show (Addr.add _ _).block ≠ _; rw [add_block]; exact hn239_0) | exact hn239_0) (.int .i64 ((rd_T42 t231 x57_2).f0))).trans hx239_1
                  replace hx239_2 := (cell_far (p := ⟨gb238, 0, none⟩) (by first | (rw [add_block]; exact hn239_0) | (show (Addr.add _ _).block ≠ _; rw [add_block]; exact hn239_0) | exact hn239_0) (.int .i64 ((rd_T42 t231 x57_2).f0))).trans hx239_2
                  replace hx239_3 := (cell_far (p := ⟨gb238, 0, none⟩) (by first | (rw [add_block]; exact hn239_0) | (show (Addr.add _ _).block ≠ _; rw [add_block]; exact hn239_0) | exact hn239_0) (.int .i64 ((rd_T42 t231 x57_2).f0))).trans hx239_3
                  replace hx239_0 := (cell_far (p := ⟨gb238, 1, none⟩) (by first | (rw [add_block]; exact hn239_1) | (show (Addr.add _ _).block ≠ _; rw [add_block]; exact hn239_1) | exact hn239_1) (.int .i64 ((rd_T42 t231 x57_2).f1))).trans hx239_0
                  replace hx239_1 := (cell_far (p := ⟨gb238, 1, none⟩) (by first | (rw [add_block]; exact hn239_1) | (show (Addr.add _ _).block ≠ _; rw [add_block]; exact hn239_1) | exact hn239_1) (.int .i64 ((rd_T42 t231 x57_2).f1))).trans hx239_1
                  replace hx239_2 := (cell_far (p := ⟨gb238, 1, none⟩) (by first | (rw [add_block]; exact hn239_1) | (show (Addr.add _ _).block ≠ _; rw [add_block]; exact hn239_1) | exact hn239_1) (.int .i64 ((rd_T42 t231 x57_2).f1))).trans hx239_2
                  replace hx239_3 := (cell_far (p := ⟨gb238, 1, none⟩) (by first | (rw [add_block]; exact hn239_1) | (show (Addr.add _ _).block ≠ _; rw [add_block]; exact hn239_1) | exact hn239_1) (.int .i64 ((rd_T42 t231 x57_2).f1))).trans hx239_3
                  replace hx239_0 := (cell_far (p := ⟨gb238, 2, none⟩) (by first | (rw [add_block]; exact hn239_2) | (show (Addr.add _ _).block ≠ _; rw [add_block]; exact hn239_2) | exact hn239_2) (.int .i64 ((rd_T42 t231 x57_2).f2))).trans hx239_0
                  replace hx239_1 := (cell_far (p := ⟨gb238, 2, none⟩) (by first | (rw [add_block]; exact hn239_2) | (show (Addr.add _ _).block ≠ _; rw [add_block]; exact hn239_2) | exact hn239_2) (.int .i64 ((rd_T42 t231 x57_2).f2))).trans hx239_1
                  replace hx239_2 := (cell_far (p := ⟨gb238, 2, none⟩) (by first | (rw [add_block]; exact hn239_2) | (show (Addr.add _ _).block ≠ _; rw [add_block]; exact hn239_2) | exact hn239_2) (.int .i64 ((rd_T42 t231 x57_2).f2))).trans hx239_2
                  replace hx239_3 := (cell_far (p := ⟨gb238, 2, none⟩) (by first | (rw [add_block]; exact hn239_2) | (show (Addr.add _ _).block ≠ _; rw [add_block]; exact hn239_2) | exact hn239_2) (.int .i64 ((rd_T42 t231 x57_2).f2))).trans hx239_3
                  replace hx239_0 := (cell_far (p := ⟨gb238, 3, none⟩) (by first | (rw [add_block]; exact hn239_3) | (show (Addr.add _ _).block ≠ _; rw [add_block]; exact hn239_3) | exact hn239_3) (.int .i64 ((rd_T42 t231 x57_2).f3))).trans hx239_0
                  replace hx239_1 := (cell_far (p := ⟨gb238, 3, none⟩) (by first | (rw [add_block]; exact hn239_3) | (show (Addr.add _ _).block ≠ _; rw [add_block]; exact hn239_3) | exact hn239_3) (.int .i64 ((rd_T42 t231 x57_2).f3))).trans hx239_1
                  replace hx239_2 := (cell_far (p := ⟨gb238, 3, none⟩) (by first | (rw [add_block]; exact hn239_3) | (show (Addr.add _ _).block ≠ _; rw [add_block]; exact hn239_3) | exact hn239_3) (.int .i64 ((rd_T42 t231 x57_2).f3))).trans hx239_2
                  replace hx239_3 := (cell_far (p := ⟨gb238, 3, none⟩) (by first | (rw [add_block]; exact hn239_3) | (show (Addr.add _ _).block ≠ _; rw [add_block]; exact hn239_3) | exact hn239_3) (.int .i64 ((rd_T42 t231 x57_2).f3))).trans hx239_3
                  (try have hy239_0 := fun (n_ : Nat) => (show ((((((w37.drewN n_).setCell ⟨gb238, 0, none⟩ (.int .i64 ((rd_T42 t231 x57_2).f0))).setCell ⟨gb238, 1, none⟩ (.int .i64 ((rd_T42 t231 x57_2).f1))).setCell ⟨gb238, 2, none⟩ (.int .i64 ((rd_T42 t231 x57_2).f2))).setCell ⟨gb238, 3, none⟩ (.int .i64 ((rd_T42 t231 x57_2).f3)))).cell? _ = some _ from hx239_0))
                  (try have hy239_1 := fun (n_ : Nat) => (show ((((((w37.drewN n_).setCell ⟨gb238, 0, none⟩ (.int .i64 ((rd_T42 t231 x57_2).f0))).setCell ⟨gb238, 1, none⟩ (.int .i64 ((rd_T42 t231 x57_2).f1))).setCell ⟨gb238, 2, none⟩ (.int .i64 ((rd_T42 t231 x57_2).f2))).setCell ⟨gb238, 3, none⟩ (.int .i64 ((rd_T42 t231 x57_2).f3)))).cell? _ = some _ from hx239_1))
                  (try have hy239_2 := fun (n_ : Nat) => (show ((((((w37.drewN n_).setCell ⟨gb238, 0, none⟩ (.int .i64 ((rd_T42 t231 x57_2).f0))).setCell ⟨gb238, 1, none⟩ (.int .i64 ((rd_T42 t231 x57_2).f1))).setCell ⟨gb238, 2, none⟩ (.int .i64 ((rd_T42 t231 x57_2).f2))).setCell ⟨gb238, 3, none⟩ (.int .i64 ((rd_T42 t231 x57_2).f3)))).cell? _ = some _ from hx239_2))
                  (try have hy239_3 := fun (n_ : Nat) => (show ((((((w37.drewN n_).setCell ⟨gb238, 0, none⟩ (.int .i64 ((rd_T42 t231 x57_2).f0))).setCell ⟨gb238, 1, none⟩ (.int .i64 ((rd_T42 t231 x57_2).f1))).setCell ⟨gb238, 2, none⟩ (.int .i64 ((rd_T42 t231 x57_2).f2))).setCell ⟨gb238, 3, none⟩ (.int .i64 ((rd_T42 t231 x57_2).f3)))).cell? _ = some _ from hx239_3))
                  clear hn239_0
                  clear hn239_1
                  clear hn239_2
                  clear hn239_3
                  replace p239 := eq_true p239
                  replace q239 := eq_true q239
                  have hcz44_0 : w37.cell? ⟨gb238, 0, none⟩ = some (.int .i64 0) := (blk_cell BK238.out 0).trans rfl
                  have hcz44_1 : w37.cell? ⟨gb238, 1, none⟩ = some (.int .i64 0) := (blk_cell BK238.out 1).trans rfl
                  have hcz44_2 : w37.cell? ⟨gb238, 2, none⟩ = some (.int .i64 0) := (blk_cell BK238.out 2).trans rfl
                  have hcz44_3 : w37.cell? ⟨gb238, 3, none⟩ = some (.int .i64 0) := (blk_cell BK238.out 3).trans rfl
                  have hfz44_0 := blk_frozen BK238.out 0
                  have hfz44_1 := blk_frozen BK238.out 1
                  have hfz44_2 := blk_frozen BK238.out 2
                  have hfz44_3 := blk_frozen BK238.out 3
                  go_wp2
                  repeat (go_quiet (fail); try go_wp2)
                  go_meet
                  case rel => exact ⟨_, (true), (by first | rfl | (simp; done) | (simp [*]; done)), H', ⟨by have := HK1.out; have := HK2.out; first | omega | exact Nat.le_refl _⟩, ⟨by (with_reducible repeat (first | apply Kd.S_alloc | apply Kd.S_drewN | apply Kd.S_drew)); exact Kd.S_mono (Kd.S_far (p := ⟨gb238, 3, none⟩) (Kd.S_far (p := ⟨gb238, 2, none⟩) (Kd.S_far (p := ⟨gb238, 1, none⟩) (Kd.S_far (p := ⟨gb238, 0, none⟩) (Kd.S_mono HO_4.out (fun k_ hk => (⟨hk, hk.2⟩ : _ ∧ k_ ≠ gb238))) (fun _ hk => hk.2) (.int .i64 ((rd_T42 t231 x57_2).f0))) (fun _ hk => hk.2) (.int .i64 ((rd_T42 t231 x57_2).f1))) (fun _ hk => hk.2) (.int .i64 ((rd_T42 t231 x57_2).f2))) (fun _ hk => hk.2) (.int .i64 ((rd_T42 t231 x57_2).f3))) (fun _ hk => ⟨hk.1.1.1, ⟨hk.1.1.2, hk.1.2⟩⟩)⟩, ⟨by (with_reducible repeat (first | apply Kd.R_alloc | apply Kd.R_drewN | apply Kd.R_drew)); exact Kd.R_mono (Kd.R_far (p := ⟨gb238, 3, none⟩) (Kd.R_far (p := ⟨gb238, 2, none⟩) (Kd.R_far (p := ⟨gb238, 1, none⟩) (Kd.R_far (p := ⟨gb238, 0, none⟩) (Kd.R_mono HO_9.out (fun k_ hk => (⟨hk, hk.2⟩ : _ ∧ k_ ≠ gb238))) (fun _ hk => hk.2) (.int .i64 ((rd_T42 t231 x57_2).f0))) (fun _ hk => hk.2) (.int .i64 ((rd_T42 t231 x57_2).f1))) (fun _ hk => hk.2) (.int .i64 ((rd_T42 t231 x57_2).f2))) (fun _ hk => hk.2) (.int .i64 ((rd_T42 t231 x57_2).f3))) (fun _ hk => hk.1.2)⟩, ⟨by (with_reducible repeat (first | apply Kd.R_alloc | apply Kd.R_drewN | apply Kd.R_drew)); exact Kd.R_mono (Kd.R_far (p := ⟨gb238, 3, none⟩) (Kd.R_far (p := ⟨gb238, 2, none⟩) (Kd.R_far (p := ⟨gb238, 1, none⟩) (Kd.R_far (p := ⟨gb238, 0, none⟩) (Kd.R_types HO_10.out BK238.out (by decide)) (fun _ hk => hk.2) (.int .i64 ((rd_T42 t231 x57_2).f0))) (fun _ hk => hk.2) (.int .i64 ((rd_T42 t231 x57_2).f1))) (fun _ hk => hk.2) (.int .i64 ((rd_T42 t231 x57_2).f2))) (fun _ hk => hk.2) (.int .i64 ((rd_T42 t231 x57_2).f3))) (fun _ hk => trivial)⟩, ⟨by (with_reducible repeat (first | apply Kd.R_alloc | apply Kd.R_drewN | apply Kd.R_drew)); exact Kd.R_mono (Kd.R_far (p := ⟨gb238, 3, none⟩) (Kd.R_far (p := ⟨gb238, 2, none⟩) (Kd.R_far (p := ⟨gb238, 1, none⟩) (Kd.R_far (p := ⟨gb238, 0, none⟩) (Kd.R_mono HO_55.out (fun k_ hk => (⟨hk, hk.2⟩ : _ ∧ k_ ≠ gb238))) (fun _ hk => hk.2) (.int .i64 ((rd_T42 t231 x57_2).f0))) (fun _ hk => hk.2) (.int .i64 ((rd_T42 t231 x57_2).f1))) (fun _ hk => hk.2) (.int .i64 ((rd_T42 t231 x57_2).f2))) (fun _ hk => hk.2) (.int .i64 ((rd_T42 t231 x57_2).f3))) (fun _ hk => hk.1.2)⟩, ⟨by (with_reducible repeat (first | refine blk_drewN ?_ _ | refine blk_drew ?_ | refine blk_alloc ?_ _)); refine blk_put (cs := #[.int .i64 ((rd_T42 t231 x57_2).f0), .int .i64 ((rd_T42 t231 x57_2).f1), .int .i64 ((rd_T42 t231 x57_2).f2), .int .i64 0]) ?_ 3 _ rfl; (with_reducible repeat (first | refine blk_drewN ?_ _ | refine blk_drew ?_ | refine blk_alloc ?_ _)); refine blk_put (cs := #[.int .i64 ((rd_T42 t231 x57_2).f0), .int .i64 ((rd_T42 t231 x57_2).f1), .int .i64 0, .int .i64 0]) ?_ 2 _ rfl; (with_reducible repeat (first | refine blk_drewN ?_ _ | refine blk_drew ?_ | refine blk_alloc ?_ _)); refine blk_put (cs := #[.int .i64 ((rd_T42 t231 x57_2).f0), .int .i64 0, .int .i64 0, .int .i64 0]) ?_ 1 _ rfl; (with_reducible repeat (first | refine blk_drewN ?_ _ | refine blk_drew ?_ | refine blk_alloc ?_ _)); refine blk_put (cs := #[.int .i64 0, .int .i64 0, .int .i64 0, .int .i64 0]) ?_ 0 _ rfl; (with_reducible repeat (first | refine blk_drewN ?_ _ | refine blk_drew ?_ | refine blk_alloc ?_ _)); exact BK238.out⟩, ⟨by repeat (first | (with_reducible first | exact HB.out | apply below_alloc | apply pw_below_drewN | apply below_drew1 | refine below_set ?_ GE238.out) | exact HB.out)⟩⟩
                 ·rw [if_neg c43] at H
                  have c43b0 : decide (((rd_T42 t231 x57_2).f0) < ((rd_T42 t231 (ji40)).f0)) = false := decide_eq_false c43
                  clear c43
                  by_cases c45 : ((rd_T42 t231 (ji40)).f0) = ((rd_T42 t231 x57_2).f0)
                  ·rw [if_pos c45] at H
                   have c45b0 : (((rd_T42 t231 (ji40)).f0) == ((rd_T42 t231 x57_2).f0)) = true := beq_iff_eq.mpr c45
                   have c45b1 : (((rd_T42 t231 (ji40)).f0) != ((rd_T42 t231 x57_2).f0)) = false := bne_eq_false_iff_eq.mpr c45
                   clear c45
                   have H' := Aside0.mk H
                   clear H
                   have p239 : 0 ≤ ((ji40) : Int) := of_decide_eq_true (by first | (with_reducible assumption) | assumption)
                   have q239 : (ji40) < (t231.length : Int) := of_decide_eq_true (by first | (with_reducible assumption) | assumption)
                   obtain ⟨ad239, e239, hx239_0, hx239_1, hx239_2, hx239_3⟩ := at_T42 (Kd.R_reads' HO_9.out).2.2 (ji40) p239 q239
                   obtain rfl : ad237 = ad239 := (by injection e239)
                   have hn239_0 : ad237.block ≠ gb238 := Kd.own_blk (fun e_ => (HO_9.out.1 _ e_.symm).2 rfl)
                   have hn239_1 : ad237.block ≠ gb238 := Kd.own_blk (fun e_ => (HO_9.out.1 _ e_.symm).2 rfl)
                   have hn239_2 : ad237.block ≠ gb238 := Kd.own_blk (fun e_ => (HO_9.out.1 _ e_.symm).2 rfl)
                   have hn239_3 : ad237.block ≠ gb238 := Kd.own_blk (fun e_ => (HO_9.out.1 _ e_.symm).2 rfl)
                   replace hx239_0 := (cell_far (p := ⟨gb238, 0, none⟩) (by first | (rw [add_block]; exact hn239_0) | (show (Addr.add _ _).block ≠ _; rw [add_block]; exact hn239_0) | exact hn239_0) (.int .i64 ((rd_T42 t231 x57_2).f0))).trans hx239_0
                   replace hx239_1 := (cell_far (p := ⟨gb238, 0, none⟩) (by first | (rw [add_block]; exact hn239_0) | (show (Addr.add _ _).block ≠ _; rw [add_block]; exact hn239_0) | exact hn239_0) (.int .i64 ((rd_T42 t231 x57_2).f0))).trans hx239_1
                   replace hx239_2 := (cell_far (p := ⟨gb238, 0, none⟩) (by first | (rw [add_block]; exact hn239_0) | (show (Addr.add _ _).block ≠ _; rw [add_block]; exact hn239_0) | exact hn239_0) (.int .i64 ((rd_T42 t231 x57_2).f0))).trans hx239_2
                   replace hx239_3 := (cell_far (p := ⟨gb238, 0, none⟩) (by first | (rw [add_block]; exact hn239_0) | (show (Addr.add _ _).block ≠ _; rw [add_block]; exact hn239_0) | exact hn239_0) (.int .i64 ((rd_T42 t231 x57_2).f0))).trans hx239_3
                   replace hx239_0 := (cell_far (p := ⟨gb238, 1, none⟩) (by first | (rw [add_block]; exact hn239_1) | (show (Addr.add _ _).block ≠ _; rw [add_block]; exact hn239_1) | exact hn239_1) (.int .i64 ((rd_T42 t231 x57_2).f1))).trans hx239_0
                   replace hx239_1 := (cell_far (p := ⟨gb238, 1, none⟩) (by first | (rw [add_block]; exact hn239_1) | (show (Addr.add _ _).block ≠ _; rw [add_block]; exact hn239_1) | exact hn239_1) (.int .i64 ((rd_T42 t231 x57_2).f1))).trans hx239_1
                   replace hx239_2 := (cell_far (p := ⟨gb238, 1, none⟩) (by first | (rw [add_block]; exact hn239_1) | (show (Addr.add _ _).block ≠ _; rw [add_block]; exact hn239_1) | exact hn239_1) (.int .i64 ((rd_T42 t231 x57_2).f1))).trans hx239_2
                   replace hx239_3 := (cell_far (p := ⟨gb238, 1, none⟩) (by first | (rw [add_block]; exact hn239_1) | (show (Addr.add _ _).block ≠ _; rw [add_block]; exact hn239_1) | exact hn239_1) (.int .i64 ((rd_T42 t231 x57_2).f1))).trans hx239_3
                   replace hx239_0 := (cell_far (p := ⟨gb238, 2, none⟩) (by first | (rw [add_block]; exact hn239_2) | (show (Addr.add _ _).block ≠ _; rw [add_block]; exact hn239_2) | exact hn239_2) (.int .i64 ((rd_T42 t231 x57_2).f2))).trans hx239_0
                   replace hx239_1 := (cell_far (p := ⟨gb238, 2, none⟩) (by first | (rw [add_block]; exact hn239_2) | (show (Addr.add _ _).block ≠ _; rw [add_block]; exact hn239_2) | exact hn239_2) (.int .i64 ((rd_T42 t231 x57_2).f2))).trans hx239_1
                   replace hx239_2 := (cell_far (p := ⟨gb238, 2, none⟩) (by first | (rw [add_block]; exact hn239_2) | (show (Addr.add _ _).block ≠ _; rw [add_block]; exact hn239_2) | exact hn239_2) (.int .i64 ((rd_T42 t231 x57_2).f2))).trans hx239_2
                   replace hx239_3 := (cell_far (p := ⟨gb238, 2, none⟩) (by first | (rw [add_block]; exact hn239_2) | (show (Addr.add _ _).block ≠ _; rw [add_block]; exact hn239_2) | exact hn239_2) (.int .i64 ((rd_T42 t231 x57_2).f2))).trans hx239_3
                   replace hx239_0 := (cell_far (p := ⟨gb238, 3, none⟩) (by first | (rw [add_block]; exact hn239_3) | (show (Addr.add _ _).block ≠ _; rw [add_block]; exact hn239_3) | exact hn239_3) (.int .i64 ((rd_T42 t231 x57_2).f3))).trans hx239_0
                   replace hx239_1 := (cell_far (p := ⟨gb238, 3, none⟩) (by first | (rw [add_block]; exact hn239_3) | (show (Addr.add _ _).block ≠ _; rw [add_block]; exact hn239_3) | exact hn239_3) (.int .i64 ((rd_T42 t231 x57_2).f3))).trans hx239_1
                   replace hx239_2 := (cell_far (p := ⟨gb238, 3, none⟩) (by first | (rw [add_block]; exact hn239_3) | (show (Addr.add _ _).block ≠ _; rw [add_block]; exact hn239_3) | exact hn239_3) (.int .i64 ((rd_T42 t231 x57_2).f3))).trans hx239_2
                   replace hx239_3 := (cell_far (p := ⟨gb238, 3, none⟩) (by first | (rw [add_block]; exact hn239_3) | (show (Addr.add _ _).block ≠ _; rw [add_block]; exact hn239_3) | exact hn239_3) (.int .i64 ((rd_T42 t231 x57_2).f3))).trans hx239_3
                   (try have hy239_0 := fun (n_ : Nat) => (show ((((((w37.drewN n_).setCell ⟨gb238, 0, none⟩ (.int .i64 ((rd_T42 t231 x57_2).f0))).setCell ⟨gb238, 1, none⟩ (.int .i64 ((rd_T42 t231 x57_2).f1))).setCell ⟨gb238, 2, none⟩ (.int .i64 ((rd_T42 t231 x57_2).f2))).setCell ⟨gb238, 3, none⟩ (.int .i64 ((rd_T42 t231 x57_2).f3)))).cell? _ = some _ from hx239_0))
                   (try have hy239_1 := fun (n_ : Nat) => (show ((((((w37.drewN n_).setCell ⟨gb238, 0, none⟩ (.int .i64 ((rd_T42 t231 x57_2).f0))).setCell ⟨gb238, 1, none⟩ (.int .i64 ((rd_T42 t231 x57_2).f1))).setCell ⟨gb238, 2, none⟩ (.int .i64 ((rd_T42 t231 x57_2).f2))).setCell ⟨gb238, 3, none⟩ (.int .i64 ((rd_T42 t231 x57_2).f3)))).cell? _ = some _ from hx239_1))
                   (try have hy239_2 := fun (n_ : Nat) => (show ((((((w37.drewN n_).setCell ⟨gb238, 0, none⟩ (.int .i64 ((rd_T42 t231 x57_2).f0))).setCell ⟨gb238, 1, none⟩ (.int .i64 ((rd_T42 t231 x57_2).f1))).setCell ⟨gb238, 2, none⟩ (.int .i64 ((rd_T42 t231 x57_2).f2))).setCell ⟨gb238, 3, none⟩ (.int .i64 ((rd_T42 t231 x57_2).f3)))).cell? _ = some _ from hx239_2))
                   (try have hy239_3 := fun (n_ : Nat) => (show ((((((w37.drewN n_).setCell ⟨gb238, 0, none⟩ (.int .i64 ((rd_T42 t231 x57_2).f0))).setCell ⟨gb238, 1, none⟩ (.int .i64 ((rd_T42 t231 x57_2).f1))).setCell ⟨gb238, 2, none⟩ (.int .i64 ((rd_T42 t231 x57_2).f2))).setCell ⟨gb238, 3, none⟩ (.int .i64 ((rd_T42 t231 x57_2).f3)))).cell? _ = some _ from hx239_3))
                   clear hn239_0
                   clear hn239_1
                   clear hn239_2
                   clear hn239_3
                   replace p239 := eq_true p239
                   replace q239 := eq_true q239
                   have hcz46_0 : w37.cell? ⟨gb238, 0, none⟩ = some (.int .i64 0) := (blk_cell BK238.out 0).trans rfl
                   have hcz46_1 : w37.cell? ⟨gb238, 1, none⟩ = some (.int .i64 0) := (blk_cell BK238.out 1).trans rfl
                   have hcz46_2 : w37.cell? ⟨gb238, 2, none⟩ = some (.int .i64 0) := (blk_cell BK238.out 2).trans rfl
                   have hcz46_3 : w37.cell? ⟨gb238, 3, none⟩ = some (.int .i64 0) := (blk_cell BK238.out 3).trans rfl
                   have hfz46_0 := blk_frozen BK238.out 0
                   have hfz46_1 := blk_frozen BK238.out 1
                   have hfz46_2 := blk_frozen BK238.out 2
                   have hfz46_3 := blk_frozen BK238.out 3
                   have p240 : 0 ≤ ((ji40) : Int) := of_decide_eq_true (by first | (with_reducible assumption) | assumption)
                   have q240 : (ji40) < (t231.length : Int) := of_decide_eq_true (by first | (with_reducible assumption) | assumption)
                   obtain ⟨ad240, e240, hx240_0, hx240_1, hx240_2, hx240_3⟩ := at_T42 (Kd.R_reads' HO_9.out).2.2 (ji40) p240 q240
                   obtain rfl : ad237 = ad240 := (by injection e240)
                   have hn240_0 : ad237.block ≠ gb238 := Kd.own_blk (fun e_ => (HO_9.out.1 _ e_.symm).2 rfl)
                   have hn240_1 : ad237.block ≠ gb238 := Kd.own_blk (fun e_ => (HO_9.out.1 _ e_.symm).2 rfl)
                   have hn240_2 : ad237.block ≠ gb238 := Kd.own_blk (fun e_ => (HO_9.out.1 _ e_.symm).2 rfl)
                   have hn240_3 : ad237.block ≠ gb238 := Kd.own_blk (fun e_ => (HO_9.out.1 _ e_.symm).2 rfl)
                   replace hx240_0 := (cell_far (p := ⟨gb238, 0, none⟩) (by first | (rw [add_block]; exact hn240_0) | (show (Addr.add _ _).block ≠ _; rw [add_block]; exact hn240_0) | exact hn240_0) (.int .i64 ((rd_T42 t231 x57_2).f0))).trans hx240_0
                   replace hx240_1 := (cell_far (p := ⟨gb238, 0, none⟩) (by first | (rw [add_block]; exact hn240_0) | (show (Addr.add _ _).block ≠ _; rw [add_block]; exact hn240_0) | exact hn240_0) (.int .i64 ((rd_T42 t231 x57_2).f0))).trans hx240_1
                   replace hx240_2 := (cell_far (p := ⟨gb238, 0, none⟩) (by first | (rw [add_block]; exact hn240_0) | (show (Addr.add _ _).block ≠ _; rw [add_block]; exact hn240_0) | exact hn240_0) (.int .i64 ((rd_T42 t231 x57_2).f0))).trans hx240_2
                   replace hx240_3 := (cell_far (p := ⟨gb238, 0, none⟩) (by first | (rw [add_block]; exact hn240_0) | (show (Addr.add _ _).block ≠ _; rw [add_block]; exact hn240_0) | exact hn240_0) (.int .i64 ((rd_T42 t231 x57_2).f0))).trans hx240_3
                   replace hx240_0 := (cell_far (p := ⟨gb238, 1, none⟩) (by first | (rw [add_block]; exact hn240_1) | (show (Addr.add _ _).block ≠ _; rw [add_block]; exact hn240_1) | exact hn240_1) (.int .i64 ((rd_T42 t231 x57_2).f1))).trans hx240_0
                   replace hx240_1 := (cell_far (p := ⟨gb238, 1, none⟩) (by first | (rw [add_block]; exact hn240_1) | (show (Addr.add _ _).block ≠ _; rw [add_block]; exact hn240_1) | exact hn240_1) (.int .i64 ((rd_T42 t231 x57_2).f1))).trans hx240_1
                   replace hx240_2 := (cell_far (p := ⟨gb238, 1, none⟩) (by first | (rw [add_block]; exact hn240_1) | (show (Addr.add _ _).block ≠ _; rw [add_block]; exact hn240_1) | exact hn240_1) (.int .i64 ((rd_T42 t231 x57_2).f1))).trans hx240_2
                   replace hx240_3 := (cell_far (p := ⟨gb238, 1, none⟩) (by first | (rw [add_block]; exact hn240_1) | (show (Addr.add _ _).block ≠ _; rw [add_block]; exact hn240_1) | exact hn240_1) (.int .i64 ((rd_T42 t231 x57_2).f1))).trans hx240_3
                   replace hx240_0 := (cell_far (p := ⟨gb238, 2, none⟩) (by first | (rw [add_block]; exact hn240_2) | (show (Addr.add _ _).block ≠ _; rw [add_block]; exact hn240_2) | exact hn240_2) (.int .i64 ((rd_T42 t231 x57_2).f2))).trans hx240_0
                   replace hx240_1 := (cell_far (p := ⟨gb238, 2, none⟩) (by first | (rw [add_block]; exact hn240_2) | (show (Addr.add _ _).block ≠ _; rw [add_block]; exact hn240_2) | exact hn240_2) (.int .i64 ((rd_T42 t231 x57_2).f2))).trans hx240_1
                   replace hx240_2 := (cell_far (p := ⟨gb238, 2, none⟩) (by first | (rw [add_block]; exact hn240_2) | (show (Addr.add _ _).block ≠ _; rw [add_block]; exact hn240_2) | exact hn240_2) (.int .i64 ((rd_T42 t231 x57_2).f2))).trans hx240_2
                   replace hx240_3 := (cell_far (p := ⟨gb238, 2, none⟩) (by first | (rw [add_block]; exact hn240_2) | (show (Addr.add _ _).block ≠ _; rw [add_block]; exact hn240_2) | exact hn240_2) (.int .i64 ((rd_T42 t231 x57_2).f2))).trans hx240_3
                   replace hx240_0 := (cell_far (p := ⟨gb238, 3, none⟩) (by first | (rw [add_block]; exact hn240_3) | (show (Addr.add _ _).block ≠ _; rw [add_block]; exact hn240_3) | exact hn240_3) (.int .i64 ((rd_T42 t231 x57_2).f3))).trans hx240_0
                   replace hx240_1 := (cell_far (p := ⟨gb238, 3, none⟩) (by first | (rw [add_block]; exact hn240_3) | (show (Addr.add _ _).block ≠ _; rw [add_block]; exact hn240_3) | exact hn240_3) (.int .i64 ((rd_T42 t231 x57_2).f3))).trans hx240_1
                   replace hx240_2 := (cell_far (p := ⟨gb238, 3, none⟩) (by first | (rw [add_block]; exact hn240_3) | (show (Addr.add _ _).block ≠ _; rw [add_block]; exact hn240_3) | exact hn240_3) (.int .i64 ((rd_T42 t231 x57_2).f3))).trans hx240_2
                   replace hx240_3 := (cell_far (p := ⟨gb238, 3, none⟩) (by first | (rw [add_block]; exact hn240_3) | (show (Addr.add _ _).block ≠ _; rw [add_block]; exact hn240_3) | exact hn240_3) (.int .i64 ((rd_T42 t231 x57_2).f3))).trans hx240_3
                   (try have hy240_0 := fun (n_ : Nat) => (show ((((((w37.drewN n_).setCell ⟨gb238, 0, none⟩ (.int .i64 ((rd_T42 t231 x57_2).f0))).setCell ⟨gb238, 1, none⟩ (.int .i64 ((rd_T42 t231 x57_2).f1))).setCell ⟨gb238, 2, none⟩ (.int .i64 ((rd_T42 t231 x57_2).f2))).setCell ⟨gb238, 3, none⟩ (.int .i64 ((rd_T42 t231 x57_2).f3)))).cell? _ = some _ from hx240_0))
                   (try have hy240_1 := fun (n_ : Nat) => (show ((((((w37.drewN n_).setCell ⟨gb238, 0, none⟩ (.int .i64 ((rd_T42 t231 x57_2).f0))).setCell ⟨gb238, 1, none⟩ (.int .i64 ((rd_T42 t231 x57_2).f1))).setCell ⟨gb238, 2, none⟩ (.int .i64 ((rd_T42 t231 x57_2).f2))).setCell ⟨gb238, 3, none⟩ (.int .i64 ((rd_T42 t231 x57_2).f3)))).cell? _ = some _ from hx240_1))
                   (try have hy240_2 := fun (n_ : Nat) => (show ((((((w37.drewN n_).setCell ⟨gb238, 0, none⟩ (.int .i64 ((rd_T42 t231 x57_2).f0))).setCell ⟨gb238, 1, none⟩ (.int .i64 ((rd_T42 t231 x57_2).f1))).setCell ⟨gb238, 2, none⟩ (.int .i64 ((rd_T42 t231 x57_2).f2))).setCell ⟨gb238, 3, none⟩ (.int .i64 ((rd_T42 t231 x57_2).f3)))).cell? _ = some _ from hx240_2))
                   (try have hy240_3 := fun (n_ : Nat) => (show ((((((w37.drewN n_).setCell ⟨gb238, 0, none⟩ (.int .i64 ((rd_T42 t231 x57_2).f0))).setCell ⟨gb238, 1, none⟩ (.int .i64 ((rd_T42 t231 x57_2).f1))).setCell ⟨gb238, 2, none⟩ (.int .i64 ((rd_T42 t231 x57_2).f2))).setCell ⟨gb238, 3, none⟩ (.int .i64 ((rd_T42 t231 x57_2).f3)))).cell? _ = some _ from hx240_3))
                   clear hn240_0
                   clear hn240_1
                   clear hn240_2
                   clear hn240_3
                   replace p240 := eq_true p240
                   replace q240 := eq_true q240
                   have p241 : 0 ≤ ((ji40) : Int) := of_decide_eq_true (by first | (with_reducible assumption) | assumption)
                   have q241 : (ji40) < (t231.length : Int) := of_decide_eq_true (by first | (with_reducible assumption) | assumption)
                   obtain ⟨ad241, e241, hx241_0, hx241_1, hx241_2, hx241_3⟩ := at_T42 (Kd.R_reads' HO_9.out).2.2 (ji40) p241 q241
                   obtain rfl : ad237 = ad241 := (by injection e241)
                   have hn241_0 : ad237.block ≠ gb238 := Kd.own_blk (fun e_ => (HO_9.out.1 _ e_.symm).2 rfl)
                   have hn241_1 : ad237.block ≠ gb238 := Kd.own_blk (fun e_ => (HO_9.out.1 _ e_.symm).2 rfl)
                   have hn241_2 : ad237.block ≠ gb238 := Kd.own_blk (fun e_ => (HO_9.out.1 _ e_.symm).2 rfl)
                   have hn241_3 : ad237.block ≠ gb238 := Kd.own_blk (fun e_ => (HO_9.out.1 _ e_.symm).2 rfl)
                   replace hx241_0 := (cell_far (p := ⟨gb238, 0, none⟩) (by first | (rw [add_block]; exact hn241_0) | (show (Addr.add _ _).block ≠ _; rw [add_block]; exact hn241_0) | exact hn241_0) (.int .i64 ((rd_T42 t231 x57_2).f0))).trans hx241_0
                   replace hx241_1 := (cell_far (p := ⟨gb238, 0, none⟩) (by first | (rw [add_block]; exact hn241_0) | (show (Addr.add _ _).block ≠ _; rw [add_block]; exact hn241_0) | exact hn241_0) (.int .i64 ((rd_T42 t231 x57_2).f0))).trans hx241_1
                   replace hx241_2 := (cell_far (p := ⟨gb238, 0, none⟩) (by first | (rw [add_block]; exact hn241_0) | (show (Addr.add _ _).block ≠ _; rw [add_block]; exact hn241_0) | exact hn241_0) (.int .i64 ((rd_T42 t231 x57_2).f0))).trans hx241_2
                   replace hx241_3 := (cell_far (p := ⟨gb238, 0, none⟩) (by first | (rw [add_block]; exact hn241_0) | (show (Addr.add _ _).block ≠ _; rw [add_block]; exact hn241_0) | exact hn241_0) (.int .i64 ((rd_T42 t231 x57_2).f0))).trans hx241_3
                   replace hx241_0 := (cell_far (p := ⟨gb238, 1, none⟩) (by first | (rw [add_block]; exact hn241_1) | (show (Addr.add _ _).block ≠ _; rw [add_block]; exact hn241_1) | exact hn241_1) (.int .i64 ((rd_T42 t231 x57_2).f1))).trans hx241_0
                   replace hx241_1 := (cell_far (p := ⟨gb238, 1, none⟩) (by first | (rw [add_block]; exact hn241_1) | (show (Addr.add _ _).block ≠ _; rw [add_block]; exact hn241_1) | exact hn241_1) (.int .i64 ((rd_T42 t231 x57_2).f1))).trans hx241_1
                   replace hx241_2 := (cell_far (p := ⟨gb238, 1, none⟩) (by first | (rw [add_block]; exact hn241_1) | (show (Addr.add _ _).block ≠ _; rw [add_block]; exact hn241_1) | exact hn241_1) (.int .i64 ((rd_T42 t231 x57_2).f1))).trans hx241_2
                   replace hx241_3 := (cell_far (p := ⟨gb238, 1, none⟩) (by first | (rw [add_block]; exact hn241_1) | (show (Addr.add _ _).block ≠ _; rw [add_block]; exact hn241_1) | exact hn241_1) (.int .i64 ((rd_T42 t231 x57_2).f1))).trans hx241_3
                   replace hx241_0 := (cell_far (p := ⟨gb238, 2, none⟩) (by first | (rw [add_block]; exact hn241_2) | (show (Addr.add _ _).block ≠ _; rw [add_block]; exact hn241_2) | exact hn241_2) (.int .i64 ((rd_T42 t231 x57_2).f2))).trans hx241_0
                   replace hx241_1 := (cell_far (p := ⟨gb238, 2, none⟩) (by first | (rw [add_block]; exact hn241_2) | (show (Addr.add _ _).block ≠ _; rw [add_block]; exact hn241_2) | exact hn241_2) (.int .i64 ((rd_T42 t231 x57_2).f2))).trans hx241_1
                   replace hx241_2 := (cell_far (p := ⟨gb238, 2, none⟩) (by first | (rw [add_block]; exact hn241_2) | (show (Addr.add _ _).block ≠ _; rw [add_block]; exact hn241_2) | exact hn241_2) (.int .i64 ((rd_T42 t231 x57_2).f2))).trans hx241_2
                   replace hx241_3 := (cell_far (p := ⟨gb238, 2, none⟩) (by first | (rw [add_block]; exact hn241_2) | (show (Addr.add _ _).block ≠ _; rw [add_block]; exact hn241_2) | exact hn241_2) (.int .i64 ((rd_T42 t231 x57_2).f2))).trans hx241_3
                   replace hx241_0 := (cell_far (p := ⟨gb238, 3, none⟩) (by first | (rw [add_block]; exact hn241_3) | (show (Addr.add _ _).block ≠ _; rw [add_block]; exact hn241_3) | exact hn241_3) (.int .i64 ((rd_T42 t231 x57_2).f3))).trans hx241_0
                   replace hx241_1 := (cell_far (p := ⟨gb238, 3, none⟩) (by first | (rw [add_block]; exact hn241_3) | (show (Addr.add _ _).block ≠ _; rw [add_block]; exact hn241_3) | exact hn241_3) (.int .i64 ((rd_T42 t231 x57_2).f3))).trans hx241_1
                   replace hx241_2 := (cell_far (p := ⟨gb238, 3, none⟩) (by first | (rw [add_block]; exact hn241_3) | (show (Addr.add _ _).block ≠ _; rw [add_block]; exact hn241_3) | exact hn241_3) (.int .i64 ((rd_T42 t231 x57_2).f3))).trans hx241_2
                   replace hx241_3 := (cell_far (p := ⟨gb238, 3, none⟩) (by first | (rw [add_block]; exact hn241_3) | (show (Addr.add _ _).block ≠ _; rw [add_block]; exact hn241_3) | exact hn241_3) (.int .i64 ((rd_T42 t231 x57_2).f3))).trans hx241_3
                   (try have hy241_0 := fun (n_ : Nat) => (show ((((((w37.drewN n_).setCell ⟨gb238, 0, none⟩ (.int .i64 ((rd_T42 t231 x57_2).f0))).setCell ⟨gb238, 1, none⟩ (.int .i64 ((rd_T42 t231 x57_2).f1))).setCell ⟨gb238, 2, none⟩ (.int .i64 ((rd_T42 t231 x57_2).f2))).setCell ⟨gb238, 3, none⟩ (.int .i64 ((rd_T42 t231 x57_2).f3)))).cell? _ = some _ from hx241_0))
                   (try have hy241_1 := fun (n_ : Nat) => (show ((((((w37.drewN n_).setCell ⟨gb238, 0, none⟩ (.int .i64 ((rd_T42 t231 x57_2).f0))).setCell ⟨gb238, 1, none⟩ (.int .i64 ((rd_T42 t231 x57_2).f1))).setCell ⟨gb238, 2, none⟩ (.int .i64 ((rd_T42 t231 x57_2).f2))).setCell ⟨gb238, 3, none⟩ (.int .i64 ((rd_T42 t231 x57_2).f3)))).cell? _ = some _ from hx241_1))
                   (try have hy241_2 := fun (n_ : Nat) => (show ((((((w37.drewN n_).setCell ⟨gb238, 0, none⟩ (.int .i64 ((rd_T42 t231 x57_2).f0))).setCell ⟨gb238, 1, none⟩ (.int .i64 ((rd_T42 t231 x57_2).f1))).setCell ⟨gb238, 2, none⟩ (.int .i64 ((rd_T42 t231 x57_2).f2))).setCell ⟨gb238, 3, none⟩ (.int .i64 ((rd_T42 t231 x57_2).f3)))).cell? _ = some _ from hx241_2))
                   (try have hy241_3 := fun (n_ : Nat) => (show ((((((w37.drewN n_).setCell ⟨gb238, 0, none⟩ (.int .i64 ((rd_T42 t231 x57_2).f0))).setCell ⟨gb238, 1, none⟩ (.int .i64 ((rd_T42 t231 x57_2).f1))).setCell ⟨gb238, 2, none⟩ (.int .i64 ((rd_T42 t231 x57_2).f2))).setCell ⟨gb238, 3, none⟩ (.int .i64 ((rd_T42 t231 x57_2).f3)))).cell? _ = some _ from hx241_3))
                   clear hn241_0
                   clear hn241_1
                   clear hn241_2
                   clear hn241_3
                   replace p241 := eq_true p241
                   replace q241 := eq_true q241
                   go_wp2
                   repeat (go_quiet (fail); try go_wp2)
                   go_meet
                   case rel => exact ⟨_, (decide (((rd_T42 t231 (ji40)).f1) > ((rd_T42 t231 x57_2).f1))), (by first | rfl | (simp; done) | (simp only [← hji40] <;> (first | rfl | simp)) | (simp [*]; done)), H', ⟨by have := HK1.out; have := HK2.out; first | omega | exact Nat.le_refl _⟩, ⟨by (with_reducible repeat (first | apply Kd.S_alloc | apply Kd.S_drewN | apply Kd.S_drew)); exact Kd.S_mono (Kd.S_far (p := ⟨gb238, 3, none⟩) (Kd.S_far (p := ⟨gb238, 2, none⟩) (Kd.S_far (p := ⟨gb238, 1, none⟩) (Kd.S_far (p := ⟨gb238, 0, none⟩) (Kd.S_mono HO_4.out (fun k_ hk => (⟨hk, hk.2⟩ : _ ∧ k_ ≠ gb238))) (fun _ hk => hk.2) (.int .i64 ((rd_T42 t231 x57_2).f0))) (fun _ hk => hk.2) (.int .i64 ((rd_T42 t231 x57_2).f1))) (fun _ hk => hk.2) (.int .i64 ((rd_T42 t231 x57_2).f2))) (fun _ hk => hk.2) (.int .i64 ((rd_T42 t231 x57_2).f3))) (fun _ hk => ⟨hk.1.1.1, ⟨hk.1.1.2, hk.1.2⟩⟩)⟩, ⟨by (with_reducible repeat (first | apply Kd.R_alloc | apply Kd.R_drewN | apply Kd.R_drew)); exact Kd.R_mono (Kd.R_far (p := ⟨gb238, 3, none⟩) (Kd.R_far (p := ⟨gb238, 2, none⟩) (Kd.R_far (p := ⟨gb238, 1, none⟩) (Kd.R_far (p := ⟨gb238, 0, none⟩) (Kd.R_mono HO_9.out (fun k_ hk => (⟨hk, hk.2⟩ : _ ∧ k_ ≠ gb238))) (fun _ hk => hk.2) (.int .i64 ((rd_T42 t231 x57_2).f0))) (fun _ hk => hk.2) (.int .i64 ((rd_T42 t231 x57_2).f1))) (fun _ hk => hk.2) (.int .i64 ((rd_T42 t231 x57_2).f2))) (fun _ hk => hk.2) (.int .i64 ((rd_T42 t231 x57_2).f3))) (fun _ hk => hk.1.2)⟩, ⟨by (with_reducible repeat (first | apply Kd.R_alloc | apply Kd.R_drewN | apply Kd.R_drew)); exact Kd.R_mono (Kd.R_far (p := ⟨gb238, 3, none⟩) (Kd.R_far (p := ⟨gb238, 2, none⟩) (Kd.R_far (p := ⟨gb238, 1, none⟩) (Kd.R_far (p := ⟨gb238, 0, none⟩) (Kd.R_types HO_10.out BK238.out (by decide)) (fun _ hk => hk.2) (.int .i64 ((rd_T42 t231 x57_2).f0))) (fun _ hk => hk.2) (.int .i64 ((rd_T42 t231 x57_2).f1))) (fun _ hk => hk.2) (.int .i64 ((rd_T42 t231 x57_2).f2))) (fun _ hk => hk.2) (.int .i64 ((rd_T42 t231 x57_2).f3))) (fun _ hk => trivial)⟩, ⟨by (with_reducible repeat (first | apply Kd.R_alloc | apply Kd.R_drewN | apply Kd.R_drew)); exact Kd.R_mono (Kd.R_far (p := ⟨gb238, 3, none⟩) (Kd.R_far (p := ⟨gb238, 2, none⟩) (Kd.R_far (p := ⟨gb238, 1, none⟩) (Kd.R_far (p := ⟨gb238, 0, none⟩) (Kd.R_mono HO_55.out (fun k_ hk => (⟨hk, hk.2⟩ : _ ∧ k_ ≠ gb238))) (fun _ hk => hk.2) (.int .i64 ((rd_T42 t231 x57_2).f0))) (fun _ hk => hk.2) (.int .i64 ((rd_T42 t231 x57_2).f1))) (fun _ hk => hk.2) (.int .i64 ((rd_T42 t231 x57_2).f2))) (fun _ hk => hk.2) (.int .i64 ((rd_T42 t231 x57_2).f3))) (fun _ hk => hk.1.2)⟩, ⟨by (with_reducible repeat (first | refine blk_drewN ?_ _ | refine blk_drew ?_ | refine blk_alloc ?_ _)); refine blk_put (cs := #[.int .i64 ((rd_T42 t231 x57_2).f0), .int .i64 ((rd_T42 t231 x57_2).f1), .int .i64 ((rd_T42 t231 x57_2).f2), .int .i64 0]) ?_ 3 _ rfl; (with_reducible repeat (first | refine blk_drewN ?_ _ | refine blk_drew ?_ | refine blk_alloc ?_ _)); refine blk_put (cs := #[.int .i64 ((rd_T42 t231 x57_2).f0), .int .i64 ((rd_T42 t231 x57_2).f1), .int .i64 0, .int .i64 0]) ?_ 2 _ rfl; (with_reducible repeat (first | refine blk_drewN ?_ _ | refine blk_drew ?_ | refine blk_alloc ?_ _)); refine blk_put (cs := #[.int .i64 ((rd_T42 t231 x57_2).f0), .int .i64 0, .int .i64 0, .int .i64 0]) ?_ 1 _ rfl; (with_reducible repeat (first | refine blk_drewN ?_ _ | refine blk_drew ?_ | refine blk_alloc ?_ _)); refine blk_put (cs := #[.int .i64 0, .int .i64 0, .int .i64 0, .int .i64 0]) ?_ 0 _ rfl; (with_reducible repeat (first | refine blk_drewN ?_ _ | refine blk_drew ?_ | refine blk_alloc ?_ _)); exact BK238.out⟩, ⟨by repeat (first | (with_reducible first | exact HB.out | apply below_alloc | apply pw_below_drewN | apply below_drew1 | refine below_set ?_ GE238.out) | exact HB.out)⟩⟩
                  ·rw [if_neg c45] at H
                   have c45b0 : (((rd_T42 t231 (ji40)).f0) == ((rd_T42 t231 x57_2).f0)) = false := beq_eq_false_iff_ne.mpr c45
                   have c45b1 : (((rd_T42 t231 (ji40)).f0) != ((rd_T42 t231 x57_2).f0)) = true := bne_iff_ne.mpr c45
                   have H' := Aside0.mk H
                   clear H
                   have p239 : 0 ≤ ((ji40) : Int) := of_decide_eq_true (by first | (with_reducible assumption) | assumption)
                   have q239 : (ji40) < (t231.length : Int) := of_decide_eq_true (by first | (with_reducible assumption) | assumption)
                   obtain ⟨ad239, e239, hx239_0, hx239_1, hx239_2, hx239_3⟩ := at_T42 (Kd.R_reads' HO_9.out).2.2 (ji40) p239 q239
                   obtain rfl : ad237 = ad239 := (by injection e239)
                   have hn239_0 : ad237.block ≠ gb238 := Kd.own_blk (fun e_ => (HO_9.out.1 _ e_.symm).2 rfl)
                   have hn239_1 : ad237.block ≠ gb238 := Kd.own_blk (fun e_ => (HO_9.out.1 _ e_.symm).2 rfl)
                   have hn239_2 : ad237.block ≠ gb238 := Kd.own_blk (fun e_ => (HO_9.out.1 _ e_.symm).2 rfl)
                   have hn239_3 : ad237.block ≠ gb238 := Kd.own_blk (fun e_ => (HO_9.out.1 _ e_.symm).2 rfl)
                   replace hx239_0 := (cell_far (p := ⟨gb238, 0, none⟩) (by first | (rw [add_block]; exact hn239_0) | (show (Addr.add _ _).block ≠ _; rw [add_block]; exact hn239_0) | exact hn239_0) (.int .i64 ((rd_T42 t231 x57_2).f0))).trans hx239_0
                   replace hx239_1 := (cell_far (p := ⟨gb238, 0, none⟩) (by first | (rw [add_block]; exact hn239_0) | (show (Addr.add _ _).block ≠ _; rw [add_block]; exact hn239_0) | exact hn239_0) (.int .i64 ((rd_T42 t231 x57_2).f0))).trans hx239_1
                   replace hx239_2 := (cell_far (p := ⟨gb238, 0, none⟩) (by first | (rw [add_block]; exact hn239_0) | (show (Addr.add _ _).block ≠ _; rw [add_block]; exact hn239_0) | exact hn239_0) (.int .i64 ((rd_T42 t231 x57_2).f0))).trans hx239_2
                   replace hx239_3 := (cell_far (p := ⟨gb238, 0, none⟩) (by first | (rw [add_block]; exact hn239_0) | (show (Addr.add _ _).block ≠ _; rw [add_block]; exact hn239_0) | exact hn239_0) (.int .i64 ((rd_T42 t231 x57_2).f0))).trans hx239_3
                   replace hx239_0 := (cell_far (p := ⟨gb238, 1, none⟩) (by first | (rw [add_block]; exact hn239_1) | (show (Addr.add _ _).block ≠ _; rw [add_block]; exact hn239_1) | exact hn239_1) (.int .i64 ((rd_T42 t231 x57_2).f1))).trans hx239_0
                   replace hx239_1 := (cell_far (p := ⟨gb238, 1, none⟩) (by first | (rw [add_block]; exact hn239_1) | (show (Addr.add _ _).block ≠ _; rw [add_block]; exact hn239_1) | exact hn239_1) (.int .i64 ((rd_T42 t231 x57_2).f1))).trans hx239_1
                   replace hx239_2 := (cell_far (p := ⟨gb238, 1, none⟩) (by first | (rw [add_block]; exact hn239_1) | (show (Addr.add _ _).block ≠ _; rw [add_block]; exact hn239_1) | exact hn239_1) (.int .i64 ((rd_T42 t231 x57_2).f1))).trans hx239_2
                   replace hx239_3 := (cell_far (p := ⟨gb238, 1, none⟩) (by first | (rw [add_block]; exact hn239_1) | (show (Addr.add _ _).block ≠ _; rw [add_block]; exact hn239_1) | exact hn239_1) (.int .i64 ((rd_T42 t231 x57_2).f1))).trans hx239_3
                   replace hx239_0 := (cell_far (p := ⟨gb238, 2, none⟩) (by first | (rw [add_block]; exact hn239_2) | (show (Addr.add _ _).block ≠ _; rw [add_block]; exact hn239_2) | exact hn239_2) (.int .i64 ((rd_T42 t231 x57_2).f2))).trans hx239_0
                   replace hx239_1 := (cell_far (p := ⟨gb238, 2, none⟩) (by first | (rw [add_block]; exact hn239_2) | (show (Addr.add _ _).block ≠ _; rw [add_block]; exact hn239_2) | exact hn239_2) (.int .i64 ((rd_T42 t231 x57_2).f2))).trans hx239_1
                   replace hx239_2 := (cell_far (p := ⟨gb238, 2, none⟩) (by first | (rw [add_block]; exact hn239_2) | (show (Addr.add _ _).block ≠ _; rw [add_block]; exact hn239_2) | exact hn239_2) (.int .i64 ((rd_T42 t231 x57_2).f2))).trans hx239_2
                   replace hx239_3 := (cell_far (p := ⟨gb238, 2, none⟩) (by first | (rw [add_block]; exact hn239_2) | (show (Addr.add _ _).block ≠ _; rw [add_block]; exact hn239_2) | exact hn239_2) (.int .i64 ((rd_T42 t231 x57_2).f2))).trans hx239_3
                   replace hx239_0 := (cell_far (p := ⟨gb238, 3, none⟩) (by first | (rw [add_block]; exact hn239_3) | (show (Addr.add _ _).block ≠ _; rw [add_block]; exact hn239_3) | exact hn239_3) (.int .i64 ((rd_T42 t231 x57_2).f3))).trans hx239_0
                   replace hx239_1 := (cell_far (p := ⟨gb238, 3, none⟩) (by first | (rw [add_block]; exact hn239_3) | (show (Addr.add _ _).block ≠ _; rw [add_block]; exact hn239_3) | exact hn239_3) (.int .i64 ((rd_T42 t231 x57_2).f3))).trans hx239_1
                   replace hx239_2 := (cell_far (p := ⟨gb238, 3, none⟩) (by first | (rw [add_block]; exact hn239_3) | (show (Addr.add _ _).block ≠ _; rw [add_block]; exact hn239_3) | exact hn239_3) (.int .i64 ((rd_T42 t231 x57_2).f3))).trans hx239_2
                   replace hx239_3 := (cell_far (p := ⟨gb238, 3, none⟩) (by first | (rw [add_block]; exact hn239_3) | (show (Addr.add _ _).block ≠ _; rw [add_block]; exact hn239_3) | exact hn239_3) (.int .i64 ((rd_T42 t231 x57_2).f3))).trans hx239_3
                   (try have hy239_0 := fun (n_ : Nat) => (show ((((((w37.drewN n_).setCell ⟨gb238, 0, none⟩ (.int .i64 ((rd_T42 t231 x57_2).f0))).setCell ⟨gb238, 1, none⟩ (.int .i64 ((rd_T42 t231 x57_2).f1))).setCell ⟨gb238, 2, none⟩ (.int .i64 ((rd_T42 t231 x57_2).f2))).setCell ⟨gb238, 3, none⟩ (.int .i64 ((rd_T42 t231 x57_2).f3)))).cell? _ = some _ from hx239_0))
                   (try have hy239_1 := fun (n_ : Nat) => (show ((((((w37.drewN n_).setCell ⟨gb238, 0, none⟩ (.int .i64 ((rd_T42 t231 x57_2).f0))).setCell ⟨gb238, 1, none⟩ (.int .i64 ((rd_T42 t231 x57_2).f1))).setCell ⟨gb238, 2, none⟩ (.int .i64 ((rd_T42 t231 x57_2).f2))).setCell ⟨gb238, 3, none⟩ (.int .i64 ((rd_T42 t231 x57_2).f3)))).cell? _ = some _ from hx239_1))
                   (try have hy239_2 := fun (n_ : Nat) => (show ((((((w37.drewN n_).setCell ⟨gb238, 0, none⟩ (.int .i64 ((rd_T42 t231 x57_2).f0))).setCell ⟨gb238, 1, none⟩ (.int .i64 ((rd_T42 t231 x57_2).f1))).setCell ⟨gb238, 2, none⟩ (.int .i64 ((rd_T42 t231 x57_2).f2))).setCell ⟨gb238, 3, none⟩ (.int .i64 ((rd_T42 t231 x57_2).f3)))).cell? _ = some _ from hx239_2))
                   (try have hy239_3 := fun (n_ : Nat) => (show ((((((w37.drewN n_).setCell ⟨gb238, 0, none⟩ (.int .i64 ((rd_T42 t231 x57_2).f0))).setCell ⟨gb238, 1, none⟩ (.int .i64 ((rd_T42 t231 x57_2).f1))).setCell ⟨gb238, 2, none⟩ (.int .i64 ((rd_T42 t231 x57_2).f2))).setCell ⟨gb238, 3, none⟩ (.int .i64 ((rd_T42 t231 x57_2).f3)))).cell? _ = some _ from hx239_3))
                   clear hn239_0
                   clear hn239_1
                   clear hn239_2
                   clear hn239_3
                   replace p239 := eq_true p239
                   replace q239 := eq_true q239
                   have hcz47_0 : w37.cell? ⟨gb238, 0, none⟩ = some (.int .i64 0) := (blk_cell BK238.out 0).trans rfl
                   have hcz47_1 : w37.cell? ⟨gb238, 1, none⟩ = some (.int .i64 0) := (blk_cell BK238.out 1).trans rfl
                   have hcz47_2 : w37.cell? ⟨gb238, 2, none⟩ = some (.int .i64 0) := (blk_cell BK238.out 2).trans rfl
                   have hcz47_3 : w37.cell? ⟨gb238, 3, none⟩ = some (.int .i64 0) := (blk_cell BK238.out 3).trans rfl
                   have hfz47_0 := blk_frozen BK238.out 0
                   have hfz47_1 := blk_frozen BK238.out 1
                   have hfz47_2 := blk_frozen BK238.out 2
                   have hfz47_3 := blk_frozen BK238.out 3
                   have p240 : 0 ≤ ((ji40) : Int) := of_decide_eq_true (by first | (with_reducible assumption) | assumption)
                   have q240 : (ji40) < (t231.length : Int) := of_decide_eq_true (by first | (with_reducible assumption) | assumption)
                   obtain ⟨ad240, e240, hx240_0, hx240_1, hx240_2, hx240_3⟩ := at_T42 (Kd.R_reads' HO_9.out).2.2 (ji40) p240 q240
                   obtain rfl : ad237 = ad240 := (by injection e240)
                   have hn240_0 : ad237.block ≠ gb238 := Kd.own_blk (fun e_ => (HO_9.out.1 _ e_.symm).2 rfl)
                   have hn240_1 : ad237.block ≠ gb238 := Kd.own_blk (fun e_ => (HO_9.out.1 _ e_.symm).2 rfl)
                   have hn240_2 : ad237.block ≠ gb238 := Kd.own_blk (fun e_ => (HO_9.out.1 _ e_.symm).2 rfl)
                   have hn240_3 : ad237.block ≠ gb238 := Kd.own_blk (fun e_ => (HO_9.out.1 _ e_.symm).2 rfl)
                   replace hx240_0 := (cell_far (p := ⟨gb238, 0, none⟩) (by first | (rw [add_block]; exact hn240_0) | (show (Addr.add _ _).block ≠ _; rw [add_block]; exact hn240_0) | exact hn240_0) (.int .i64 ((rd_T42 t231 x57_2).f0))).trans hx240_0
                   replace hx240_1 := (cell_far (p := ⟨gb238, 0, none⟩) (by first | (rw [add_block]; exact hn240_0) | (show (Addr.add _ _).block ≠ _; rw [add_block]; exact hn240_0) | exact hn240_0) (.int .i64 ((rd_T42 t231 x57_2).f0))).trans hx240_1
                   replace hx240_2 := (cell_far (p := ⟨gb238, 0, none⟩) (by first | (rw [add_block]; exact hn240_0) | (show (Addr.add _ _).block ≠ _; rw [add_block]; exact hn240_0) | exact hn240_0) (.int .i64 ((rd_T42 t231 x57_2).f0))).trans hx240_2
                   replace hx240_3 := (cell_far (p := ⟨gb238, 0, none⟩) (by first | (rw [add_block]; exact hn240_0) | (show (Addr.add _ _).block ≠ _; rw [add_block]; exact hn240_0) | exact hn240_0) (.int .i64 ((rd_T42 t231 x57_2).f0))).trans hx240_3
                   replace hx240_0 := (cell_far (p := ⟨gb238, 1, none⟩) (by first | (rw [add_block]; exact hn240_1) | (show (Addr.add _ _).block ≠ _; rw [add_block]; exact hn240_1) | exact hn240_1) (.int .i64 ((rd_T42 t231 x57_2).f1))).trans hx240_0
                   replace hx240_1 := (cell_far (p := ⟨gb238, 1, none⟩) (by first | (rw [add_block]; exact hn240_1) | (show (Addr.add _ _).block ≠ _; rw [add_block]; exact hn240_1) | exact hn240_1) (.int .i64 ((rd_T42 t231 x57_2).f1))).trans hx240_1
                   replace hx240_2 := (cell_far (p := ⟨gb238, 1, none⟩) (by first | (rw [add_block]; exact hn240_1) | (show (Addr.add _ _).block ≠ _; rw [add_block]; exact hn240_1) | exact hn240_1) (.int .i64 ((rd_T42 t231 x57_2).f1))).trans hx240_2
                   replace hx240_3 := (cell_far (p := ⟨gb238, 1, none⟩) (by first | (rw [add_block]; exact hn240_1) | (show (Addr.add _ _).block ≠ _; rw [add_block]; exact hn240_1) | exact hn240_1) (.int .i64 ((rd_T42 t231 x57_2).f1))).trans hx240_3
                   replace hx240_0 := (cell_far (p := ⟨gb238, 2, none⟩) (by first | (rw [add_block]; exact hn240_2) | (show (Addr.add _ _).block ≠ _; rw [add_block]; exact hn240_2) | exact hn240_2) (.int .i64 ((rd_T42 t231 x57_2).f2))).trans hx240_0
                   replace hx240_1 := (cell_far (p := ⟨gb238, 2, none⟩) (by first | (rw [add_block]; exact hn240_2) | (show (Addr.add _ _).block ≠ _; rw [add_block]; exact hn240_2) | exact hn240_2) (.int .i64 ((rd_T42 t231 x57_2).f2))).trans hx240_1
                   replace hx240_2 := (cell_far (p := ⟨gb238, 2, none⟩) (by first | (rw [add_block]; exact hn240_2) | (show (Addr.add _ _).block ≠ _; rw [add_block]; exact hn240_2) | exact hn240_2) (.int .i64 ((rd_T42 t231 x57_2).f2))).trans hx240_2
                   replace hx240_3 := (cell_far (p := ⟨gb238, 2, none⟩) (by first | (rw [add_block]; exact hn240_2) | (show (Addr.add _ _).block ≠ _; rw [add_block]; exact hn240_2) | exact hn240_2) (.int .i64 ((rd_T42 t231 x57_2).f2))).trans hx240_3
                   replace hx240_0 := (cell_far (p := ⟨gb238, 3, none⟩) (by first | (rw [add_block]; exact hn240_3) | (show (Addr.add _ _).block ≠ _; rw [add_block]; exact hn240_3) | exact hn240_3) (.int .i64 ((rd_T42 t231 x57_2).f3))).trans hx240_0
                   replace hx240_1 := (cell_far (p := ⟨gb238, 3, none⟩) (by first | (rw [add_block]; exact hn240_3) | (show (Addr.add _ _).block ≠ _; rw [add_block]; exact hn240_3) | exact hn240_3) (.int .i64 ((rd_T42 t231 x57_2).f3))).trans hx240_1
                   replace hx240_2 := (cell_far (p := ⟨gb238, 3, none⟩) (by first | (rw [add_block]; exact hn240_3) | (show (Addr.add _ _).block ≠ _; rw [add_block]; exact hn240_3) | exact hn240_3) (.int .i64 ((rd_T42 t231 x57_2).f3))).trans hx240_2
                   replace hx240_3 := (cell_far (p := ⟨gb238, 3, none⟩) (by first | (rw [add_block]; exact hn240_3) | (show (Addr.add _ _).block ≠ _; rw [add_block]; exact hn240_3) | exact hn240_3) (.int .i64 ((rd_T42 t231 x57_2).f3))).trans hx240_3
                   (try have hy240_0 := fun (n_ : Nat) => (show ((((((w37.drewN n_).setCell ⟨gb238, 0, none⟩ (.int .i64 ((rd_T42 t231 x57_2).f0))).setCell ⟨gb238, 1, none⟩ (.int .i64 ((rd_T42 t231 x57_2).f1))).setCell ⟨gb238, 2, none⟩ (.int .i64 ((rd_T42 t231 x57_2).f2))).setCell ⟨gb238, 3, none⟩ (.int .i64 ((rd_T42 t231 x57_2).f3)))).cell? _ = some _ from hx240_0))
                   (try have hy240_1 := fun (n_ : Nat) => (show ((((((w37.drewN n_).setCell ⟨gb238, 0, none⟩ (.int .i64 ((rd_T42 t231 x57_2).f0))).setCell ⟨gb238, 1, none⟩ (.int .i64 ((rd_T42 t231 x57_2).f1))).setCell ⟨gb238, 2, none⟩ (.int .i64 ((rd_T42 t231 x57_2).f2))).setCell ⟨gb238, 3, none⟩ (.int .i64 ((rd_T42 t231 x57_2).f3)))).cell? _ = some _ from hx240_1))
                   (try have hy240_2 := fun (n_ : Nat) => (show ((((((w37.drewN n_).setCell ⟨gb238, 0, none⟩ (.int .i64 ((rd_T42 t231 x57_2).f0))).setCell ⟨gb238, 1, none⟩ (.int .i64 ((rd_T42 t231 x57_2).f1))).setCell ⟨gb238, 2, none⟩ (.int .i64 ((rd_T42 t231 x57_2).f2))).setCell ⟨gb238, 3, none⟩ (.int .i64 ((rd_T42 t231 x57_2).f3)))).cell? _ = some _ from hx240_2))
                   (try have hy240_3 := fun (n_ : Nat) => (show ((((((w37.drewN n_).setCell ⟨gb238, 0, none⟩ (.int .i64 ((rd_T42 t231 x57_2).f0))).setCell ⟨gb238, 1, none⟩ (.int .i64 ((rd_T42 t231 x57_2).f1))).setCell ⟨gb238, 2, none⟩ (.int .i64 ((rd_T42 t231 x57_2).f2))).setCell ⟨gb238, 3, none⟩ (.int .i64 ((rd_T42 t231 x57_2).f3)))).cell? _ = some _ from hx240_3))
                   clear hn240_0
                   clear hn240_1
                   clear hn240_2
                   clear hn240_3
                   replace p240 := eq_true p240
                   replace q240 := eq_true q240
                   go_wp2
                   repeat (go_quiet (fail); try go_wp2)
                   go_meet
                   case rel => exact ⟨_, (false), (by first | rfl | (simp; done) | (simp [*]; done)), H', ⟨by have := HK1.out; have := HK2.out; first | omega | exact Nat.le_refl _⟩, ⟨by (with_reducible repeat (first | apply Kd.S_alloc | apply Kd.S_drewN | apply Kd.S_drew)); exact Kd.S_mono (Kd.S_far (p := ⟨gb238, 3, none⟩) (Kd.S_far (p := ⟨gb238, 2, none⟩) (Kd.S_far (p := ⟨gb238, 1, none⟩) (Kd.S_far (p := ⟨gb238, 0, none⟩) (Kd.S_mono HO_4.out (fun k_ hk => (⟨hk, hk.2⟩ : _ ∧ k_ ≠ gb238))) (fun _ hk => hk.2) (.int .i64 ((rd_T42 t231 x57_2).f0))) (fun _ hk => hk.2) (.int .i64 ((rd_T42 t231 x57_2).f1))) (fun _ hk => hk.2) (.int .i64 ((rd_T42 t231 x57_2).f2))) (fun _ hk => hk.2) (.int .i64 ((rd_T42 t231 x57_2).f3))) (fun _ hk => ⟨hk.1.1.1, ⟨hk.1.1.2, hk.1.2⟩⟩)⟩, ⟨by (with_reducible repeat (first | apply Kd.R_alloc | apply Kd.R_drewN | apply Kd.R_drew)); exact Kd.R_mono (Kd.R_far (p := ⟨gb238, 3, none⟩) (Kd.R_far (p := ⟨gb238, 2, none⟩) (Kd.R_far (p := ⟨gb238, 1, none⟩) (Kd.R_far (p := ⟨gb238, 0, none⟩) (Kd.R_mono HO_9.out (fun k_ hk => (⟨hk, hk.2⟩ : _ ∧ k_ ≠ gb238))) (fun _ hk => hk.2) (.int .i64 ((rd_T42 t231 x57_2).f0))) (fun _ hk => hk.2) (.int .i64 ((rd_T42 t231 x57_2).f1))) (fun _ hk => hk.2) (.int .i64 ((rd_T42 t231 x57_2).f2))) (fun _ hk => hk.2) (.int .i64 ((rd_T42 t231 x57_2).f3))) (fun _ hk => hk.1.2)⟩, ⟨by (with_reducible repeat (first | apply Kd.R_alloc | apply Kd.R_drewN | apply Kd.R_drew)); exact Kd.R_mono (Kd.R_far (p := ⟨gb238, 3, none⟩) (Kd.R_far (p := ⟨gb238, 2, none⟩) (Kd.R_far (p := ⟨gb238, 1, none⟩) (Kd.R_far (p := ⟨gb238, 0, none⟩) (Kd.R_types HO_10.out BK238.out (by decide)) (fun _ hk => hk.2) (.int .i64 ((rd_T42 t231 x57_2).f0))) (fun _ hk => hk.2) (.int .i64 ((rd_T42 t231 x57_2).f1))) (fun _ hk => hk.2) (.int .i64 ((rd_T42 t231 x57_2).f2))) (fun _ hk => hk.2) (.int .i64 ((rd_T42 t231 x57_2).f3))) (fun _ hk => trivial)⟩, ⟨by (with_reducible repeat (first | apply Kd.R_alloc | apply Kd.R_drewN | apply Kd.R_drew)); exact Kd.R_mono (Kd.R_far (p := ⟨gb238, 3, none⟩) (Kd.R_far (p := ⟨gb238, 2, none⟩) (Kd.R_far (p := ⟨gb238, 1, none⟩) (Kd.R_far (p := ⟨gb238, 0, none⟩) (Kd.R_mono HO_55.out (fun k_ hk => (⟨hk, hk.2⟩ : _ ∧ k_ ≠ gb238))) (fun _ hk => hk.2) (.int .i64 ((rd_T42 t231 x57_2).f0))) (fun _ hk => hk.2) (.int .i64 ((rd_T42 t231 x57_2).f1))) (fun _ hk => hk.2) (.int .i64 ((rd_T42 t231 x57_2).f2))) (fun _ hk => hk.2) (.int .i64 ((rd_T42 t231 x57_2).f3))) (fun _ hk => hk.1.2)⟩, ⟨by (with_reducible repeat (first | refine blk_drewN ?_ _ | refine blk_drew ?_ | refine blk_alloc ?_ _)); refine blk_put (cs := #[.int .i64 ((rd_T42 t231 x57_2).f0), .int .i64 ((rd_T42 t231 x57_2).f1), .int .i64 ((rd_T42 t231 x57_2).f2), .int .i64 0]) ?_ 3 _ rfl; (with_reducible repeat (first | refine blk_drewN ?_ _ | refine blk_drew ?_ | refine blk_alloc ?_ _)); refine blk_put (cs := #[.int .i64 ((rd_T42 t231 x57_2).f0), .int .i64 ((rd_T42 t231 x57_2).f1), .int .i64 0, .int .i64 0]) ?_ 2 _ rfl; (with_reducible repeat (first | refine blk_drewN ?_ _ | refine blk_drew ?_ | refine blk_alloc ?_ _)); refine blk_put (cs := #[.int .i64 ((rd_T42 t231 x57_2).f0), .int .i64 0, .int .i64 0, .int .i64 0]) ?_ 1 _ rfl; (with_reducible repeat (first | refine blk_drewN ?_ _ | refine blk_drew ?_ | refine blk_alloc ?_ _)); refine blk_put (cs := #[.int .i64 0, .int .i64 0, .int .i64 0, .int .i64 0]) ?_ 0 _ rfl; (with_reducible repeat (first | refine blk_drewN ?_ _ | refine blk_drew ?_ | refine blk_alloc ?_ _)); exact BK238.out⟩, ⟨by repeat (first | (with_reducible first | exact HB.out | apply below_alloc | apply pw_below_drewN | apply below_drew1 | refine below_set ?_ GE238.out) | exact HB.out)⟩⟩
                ·rw [if_neg c42] at H
                 exact absurd H (by simp)
               ·rw [if_neg c41] at H
                exact absurd H (by simp)
              ·rw [if_neg c39] at H
               have c39b0 : decide (0 < x57_2) = false := decide_eq_false c39
               clear c39
               (first | rw [c39b0] | (simp only [i64_w, i32_w]; rw [c39b0]) | skip)
               have H' := Aside0.mk H
               clear H
               go_wp2
               repeat (go_quiet (fail); try go_wp2)
               go_meet
               case rel => exact ⟨_, (false), (by first | rfl | (simp; done) | (simp [*]; done)), H', ⟨by have := HK1.out; have := HK2.out; first | omega | exact Nat.le_refl _⟩, ⟨by (with_reducible repeat (first | apply Kd.S_alloc | apply Kd.S_drewN | apply Kd.S_drew)); exact Kd.S_mono (Kd.S_far (p := ⟨gb238, 3, none⟩) (Kd.S_far (p := ⟨gb238, 2, none⟩) (Kd.S_far (p := ⟨gb238, 1, none⟩) (Kd.S_far (p := ⟨gb238, 0, none⟩) (Kd.S_mono HO_4.out (fun k_ hk => (⟨hk, hk.2⟩ : _ ∧ k_ ≠ gb238))) (fun _ hk => hk.2) (.int .i64 ((rd_T42 t231 x57_2).f0))) (fun _ hk => hk.2) (.int .i64 ((rd_T42 t231 x57_2).f1))) (fun _ hk => hk.2) (.int .i64 ((rd_T42 t231 x57_2).f2))) (fun _ hk => hk.2) (.int .i64 ((rd_T42 t231 x57_2).f3))) (fun _ hk => ⟨hk.1.1.1, ⟨hk.1.1.2, hk.1.2⟩⟩)⟩, ⟨by (with_reducible repeat (first | apply Kd.R_alloc | apply Kd.R_drewN | apply Kd.R_drew)); exact Kd.R_mono (Kd.R_far (p := ⟨gb238, 3, none⟩) (Kd.R_far (p := ⟨gb238, 2, none⟩) (Kd.R_far (p := ⟨gb238, 1, none⟩) (Kd.R_far (p := ⟨gb238, 0, none⟩) (Kd.R_mono HO_9.out (fun k_ hk => (⟨hk, hk.2⟩ : _ ∧ k_ ≠ gb238))) (fun _ hk => hk.2) (.int .i64 ((rd_T42 t231 x57_2).f0))) (fun _ hk => hk.2) (.int .i64 ((rd_T42 t231 x57_2).f1))) (fun _ hk => hk.2) (.int .i64 ((rd_T42 t231 x57_2).f2))) (fun _ hk => hk.2) (.int .i64 ((rd_T42 t231 x57_2).f3))) (fun _ hk => hk.1.2)⟩, ⟨by (with_reducible repeat (first | apply Kd.R_alloc | apply Kd.R_drewN | apply Kd.R_drew)); exact Kd.R_mono (Kd.R_far (p := ⟨gb238, 3, none⟩) (Kd.R_far (p := ⟨gb238, 2, none⟩) (Kd.R_far (p := ⟨gb238, 1, none⟩) (Kd.R_far (p := ⟨gb238, 0, none⟩) (Kd.R_types HO_10.out BK238.out (by decide)) (fun _ hk => hk.2) (.int .i64 ((rd_T42 t231 x57_2).f0))) (fun _ hk => hk.2) (.int .i64 ((rd_T42 t231 x57_2).f1))) (fun _ hk => hk.2) (.int .i64 ((rd_T42 t231 x57_2).f2))) (fun _ hk => hk.2) (.int .i64 ((rd_T42 t231 x57_2).f3))) (fun _ hk => trivial)⟩, ⟨by (with_reducible repeat (first | apply Kd.R_alloc | apply Kd.R_drewN | apply Kd.R_drew)); exact Kd.R_mono (Kd.R_far (p := ⟨gb238, 3, none⟩) (Kd.R_far (p := ⟨gb238, 2, none⟩) (Kd.R_far (p := ⟨gb238, 1, none⟩) (Kd.R_far (p := ⟨gb238, 0, none⟩) (Kd.R_mono HO_55.out (fun k_ hk => (⟨hk, hk.2⟩ : _ ∧ k_ ≠ gb238))) (fun _ hk => hk.2) (.int .i64 ((rd_T42 t231 x57_2).f0))) (fun _ hk => hk.2) (.int .i64 ((rd_T42 t231 x57_2).f1))) (fun _ hk => hk.2) (.int .i64 ((rd_T42 t231 x57_2).f2))) (fun _ hk => hk.2) (.int .i64 ((rd_T42 t231 x57_2).f3))) (fun _ hk => hk.1.2)⟩, ⟨by (with_reducible repeat (first | refine blk_drewN ?_ _ | refine blk_drew ?_ | refine blk_alloc ?_ _)); refine blk_put (cs := #[.int .i64 ((rd_T42 t231 x57_2).f0), .int .i64 ((rd_T42 t231 x57_2).f1), .int .i64 ((rd_T42 t231 x57_2).f2), .int .i64 0]) ?_ 3 _ rfl; (with_reducible repeat (first | refine blk_drewN ?_ _ | refine blk_drew ?_ | refine blk_alloc ?_ _)); refine blk_put (cs := #[.int .i64 ((rd_T42 t231 x57_2).f0), .int .i64 ((rd_T42 t231 x57_2).f1), .int .i64 0, .int .i64 0]) ?_ 2 _ rfl; (with_reducible repeat (first | refine blk_drewN ?_ _ | refine blk_drew ?_ | refine blk_alloc ?_ _)); refine blk_put (cs := #[.int .i64 ((rd_T42 t231 x57_2).f0), .int .i64 0, .int .i64 0, .int .i64 0]) ?_ 1 _ rfl; (with_reducible repeat (first | refine blk_drewN ?_ _ | refine blk_drew ?_ | refine blk_alloc ?_ _)); refine blk_put (cs := #[.int .i64 0, .int .i64 0, .int .i64 0, .int .i64 0]) ?_ 0 _ rfl; (with_reducible repeat (first | refine blk_drewN ?_ _ | refine blk_drew ?_ | refine blk_alloc ?_ _)); exact BK238.out⟩, ⟨by repeat (first | (with_reducible first | exact HB.out | apply below_alloc | apply pw_below_drewN | apply below_drew1 | refine below_set ?_ GE238.out) | exact HB.out)⟩⟩
             case rest =>
              clear HC36
              try clear c1
              try clear c2
              try clear p2
              try clear q2
              try clear hx2
              try clear c3
              try clear c4
              try clear p6
              try clear c9
              try clear c9b0
              try clear c13
              try clear c13b0
              try clear c13b1
              try clear c14
              try clear p23
              try clear q23
              try clear hx23
              try clear p24
              try clear q24
              try clear hx24
              try clear c26
              try clear c26b0
              try clear c26b1
              try clear c27
              try clear c27b0
              try clear c27b1
              try clear c33
              try clear c33b0
              try clear c34
              try clear c34b0
              try clear c35
              try clear c35b0
              try clear c39
              try clear c39b0
              try clear c41
              try clear c41b0
              try clear c42
              try clear c42b0
              try clear c43
              try clear c43b0
              try clear c45
              try clear c45b0
              try clear c45b1
              try clear hcz38_0
              try clear hcz38_1
              try clear hcz38_2
              try clear hcz38_3
              try clear hcz44_0
              try clear hcz44_1
              try clear hcz44_2
              try clear hcz44_3
              try clear hcz46_0
              try clear hcz46_1
              try clear hcz46_2
              try clear hcz46_3
              try clear hcz47_0
              try clear hcz47_1
              try clear hcz47_2
              try clear hcz47_3
              try clear hfz38_0
              try clear hfz38_1
              try clear hfz38_2
              try clear hfz38_3
              try clear hfz44_0
              try clear hfz44_1
              try clear hfz44_2
              try clear hfz44_3
              try clear hfz46_0
              try clear hfz46_1
              try clear hfz46_2
              try clear hfz46_3
              try clear hfz47_0
              try clear hfz47_1
              try clear hfz47_2
              try clear hfz47_3
              try clear hx237_0
              try clear hx237_1
              try clear hx237_2
              try clear hx237_3
              try clear hx239_0
              try clear hx239_1
              try clear hx239_2
              try clear hx239_3
              try clear hx240_0
              try clear hx240_1
              try clear hx240_2
              try clear hx240_3
              try clear hx241_0
              try clear hx241_1
              try clear hx241_2
              try clear hx241_3
              try clear p2
              try clear p237
              try clear p239
              try clear p240
              try clear p241
              try clear p6
              try clear q237
              try clear q239
              try clear q240
              try clear q241
              obtain ⟨kq, x96_35, rfl, HA, HJ35, HO_4, HO_9, HO_10, HO_55, BK238, HB⟩ := hcut
              cases kq with
              | zero => exact absurd HA.out (by simp [storagebarterlaw28_DutyAll.j2])
              | succ kj35 =>
               have H := HA.out
               clear HA
               simp only [storagebarterlaw28_DutyAll.j2] at H
               by_cases c48 : x96_35 = true
               ·subst c48
                have H1 : (some false) = some r := by rw [if_pos rfl] at H; exact H
                clear H
                have H := H1
                clear H1
                obtain rfl := Option.some.inj H
                go_wp2
                repeat (go_quiet (fail); try go_wp2)
                go_ret
                exact ⟨by first | rfl | (simp [errW_none, errW_some] <;> rfl) | (simp [*, errW_none, errW_some] <;> rfl), by repeat (first | (with_reducible first | exact HB.out | apply below_alloc | apply pw_below_drewN | apply below_drew1 | refine below_set ?_ GE238.out) | exact HB.out)⟩
               ·replace c48 := Bool.eq_false_iff.mpr c48
                subst c48
                have H1 : (storagebarterlaw28_DutyAll.l2 kj35 x4_1 x5_1 t231 x10_2 (-1) t231 (t231.length : Int) x57_2 x4_1 (x4_1.length : Int) 0 ((rd_T42 t231 x57_2).f0) ((rd_T42 t231 x57_2).f1) ((rd_T42 t231 x57_2).f2) ((rd_T42 t231 x57_2).f3)) = some r := by rw [if_neg (show ¬ (false = true) by decide)] at H; exact H
                clear H
                have H := H1
                clear H1
                have H' := Aside0.mk H
                clear H
                go_wp2
                repeat (go_quiet (fail); try go_wp2)
                go_loopg [13, 99] kj35 (fun kq v13 v99 w' => ∃ (x13_4 : Int) (x99_4 : Int), v13 = .int .i64 x13_4 ∧ v99 = .int .i64 x99_4 ∧ Aside0 (storagebarterlaw28_DutyAll.l2 kq x4_1 x5_1 t231 x10_2 x13_4 t231 (t231.length : Int) x57_2 x4_1 (x4_1.length : Int) x99_4 ((rd_T42 t231 x57_2).f0) ((rd_T42 t231 x57_2).f1) ((rd_T42 t231 x57_2).f2) ((rd_T42 t231 x57_2).f3) = some r) ∧ Aside0 (kq ≤ kj35) ∧ Aside0 (Kd.S (Kd.slice 42 k42) 28 w' w.heap.size (fun k_ => some k_ ≠ ((.slice (some ad237) t231.length co30) : Value).ownBlock ∧ some k_ ≠ ((.slice (some ad237) t231.length co30) : Value).ownBlock ∧ k_ ≠ gb238) (.slice Ao28 x4_1.length co28) x4_1) ∧ Aside0 (Kd.R k42 42 w' w.heap.size (fun k_ => k_ ≠ gb238) (.slice (some ad237) t231.length co30) t231) ∧ Aside0 (Kd.R (Kd.int .i64) 3 w' w.heap.size (fun _ => True) v235 x10_2) ∧ Aside0 (Kd.R k42 42 w' w.heap.size (fun k_ => k_ ≠ gb238) (.slice (some ad237) t231.length co30) t231) ∧ Aside0 (Kd.S (Kd.slice 42 k42) 28 w' w.heap.size (fun k_ => some k_ ≠ ((.slice (some ad237) t231.length co30) : Value).ownBlock ∧ some k_ ≠ ((.slice (some ad237) t231.length co30) : Value).ownBlock ∧ k_ ≠ gb238) (.slice Ao28 x4_1.length co28) x4_1) ∧ Aside0 (w'.heap[gb238]? = some (.cells #[.int .i64 ((rd_T42 t231 x57_2).f0), .int .i64 ((rd_T42 t231 x57_2).f1), .int .i64 ((rd_T42 t231 x57_2).f2), .int .i64 ((rd_T42 t231 x57_2).f3)] 42 (0, 0))) ∧ Aside0 (Below w.heap.size w w'))
                case atStart => exact ⟨((-1)), (0), (by first | rfl | (simp; done) | (simp [*]; done)), (by first | rfl | (simp; done) | (simp [*]; done)), H', ⟨Nat.le_refl _⟩, ⟨by (with_reducible repeat (first | apply Kd.S_alloc | apply Kd.S_drewN | apply Kd.S_drew)); exact HO_4.out⟩, ⟨by (with_reducible repeat (first | apply Kd.R_alloc | apply Kd.R_drewN | apply Kd.R_drew)); exact HO_9.out⟩, ⟨by (with_reducible repeat (first | apply Kd.R_alloc | apply Kd.R_drewN | apply Kd.R_drew)); exact HO_10.out⟩, ⟨by (with_reducible repeat (first | apply Kd.R_alloc | apply Kd.R_drewN | apply Kd.R_drew)); exact HO_55.out⟩, ⟨by (with_reducible repeat (first | apply Kd.S_alloc | apply Kd.S_drewN | apply Kd.S_drew)); exact HO_4.out⟩, ⟨by (with_reducible repeat (first | refine blk_drewN ?_ _ | refine blk_drew ?_ | refine blk_alloc ?_ _)); exact BK238.out⟩, ⟨by repeat (first | (with_reducible first | exact HB.out | apply below_alloc | apply pw_below_drewN | apply below_drew1 | refine below_set ?_ GE238.out) | exact HB.out)⟩⟩
                case round =>
                 clear H'
                 try clear c1
                 try clear c2
                 try clear p2
                 try clear q2
                 try clear hx2
                 try clear c3
                 try clear c4
                 try clear p6
                 try clear c9
                 try clear c9b0
                 try clear c13
                 try clear c13b0
                 try clear c13b1
                 try clear c14
                 try clear p23
                 try clear q23
                 try clear hx23
                 try clear p24
                 try clear q24
                 try clear hx24
                 try clear c26
                 try clear c26b0
                 try clear c26b1
                 try clear c27
                 try clear c27b0
                 try clear c27b1
                 try clear c33
                 try clear c33b0
                 try clear c34
                 try clear c34b0
                 try clear c35
                 try clear c35b0
                 try clear c39
                 try clear c39b0
                 try clear c41
                 try clear c41b0
                 try clear c42
                 try clear c42b0
                 try clear c43
                 try clear c43b0
                 try clear c45
                 try clear c45b0
                 try clear c45b1
                 try clear c48
                 try clear hcz38_0
                 try clear hcz38_1
                 try clear hcz38_2
                 try clear hcz38_3
                 try clear hcz44_0
                 try clear hcz44_1
                 try clear hcz44_2
                 try clear hcz44_3
                 try clear hcz46_0
                 try clear hcz46_1
                 try clear hcz46_2
                 try clear hcz46_3
                 try clear hcz47_0
                 try clear hcz47_1
                 try clear hcz47_2
                 try clear hcz47_3
                 try clear hfz38_0
                 try clear hfz38_1
                 try clear hfz38_2
                 try clear hfz38_3
                 try clear hfz44_0
                 try clear hfz44_1
                 try clear hfz44_2
                 try clear hfz44_3
                 try clear hfz46_0
                 try clear hfz46_1
                 try clear hfz46_2
                 try clear hfz46_3
                 try clear hfz47_0
                 try clear hfz47_1
                 try clear hfz47_2
                 try clear hfz47_3
                 try clear hx237_0
                 try clear hx237_1
                 try clear hx237_2
                 try clear hx237_3
                 try clear hx239_0
                 try clear hx239_1
                 try clear hx239_2
                 try clear hx239_3
                 try clear hx240_0
                 try clear hx240_1
                 try clear hx240_2
                 try clear hx240_3
                 try clear hx241_0
                 try clear hx241_1
                 try clear hx241_2
                 try clear hx241_3
                 try clear p2
                 try clear p23
                 try clear p237
                 try clear p239
                 try clear p24
                 try clear p240
                 try clear p241
                 try clear p6
                 try clear q2
                 try clear q23
                 try clear q237
                 try clear q239
                 try clear q24
                 try clear q240
                 try clear q241
                 obtain ⟨x13_4, x99_4, rfl, rfl, HA, HK4, HO_4, HO_9, HO_10, HO_55, HO_97, BK238, HB⟩ := hrel
                 cases gk with
                 | zero => exact absurd HA.out (by simp [storagebarterlaw28_DutyAll.l2])
                 | succ k4 =>
                  have H := HA.out
                  clear HA
                  simp only [storagebarterlaw28_DutyAll.l2] at H
                  by_cases c49 : x99_4 < (x4_1.length : Int)
                  ·rw [if_pos c49] at H
                   have c49b0 : decide (x99_4 < (x4_1.length : Int)) = true := decide_eq_true c49
                   clear c49
                   by_cases c50 : 0 ≤ x99_4
                   ·rw [if_pos c50] at H
                    have c50b0 : decide (0 ≤ x99_4) = true := decide_eq_true c50
                    clear c50
                    by_cases c51 : x99_4 < (x4_1.length : Int)
                    ·rw [if_pos c51] at H
                     have c51b0 : decide (x99_4 < (x4_1.length : Int)) = true := decide_eq_true c51
                     clear c51
                     by_cases c52 : ((rd_L5 x4_1 x99_4).length : Int) > 0
                     ·rw [if_pos c52] at H
                      have c52b0 : decide (0 < ((rd_L5 x4_1 x99_4).length : Int)) = true := decide_eq_true c52
                      have c52b1 : decide (0 < (rd_L5 x4_1 x99_4).length) = true := decide_eq_true (by omega)
                      clear c52
                      by_cases c53 : 0 < ((rd_L5 x4_1 x99_4).length : Int)
                      ·rw [if_pos c53] at H
                       have c53b0 : decide (0 < ((rd_L5 x4_1 x99_4).length : Int)) = true := decide_eq_true c53
                       have c53b1 : decide (0 < (rd_L5 x4_1 x99_4).length) = true := decide_eq_true (by omega)
                       clear c53
                       by_cases c54 : ((rd_T42 (rd_L5 x4_1 x99_4) 0).f1) = ((rd_T42 t231 x57_2).f1)
                       ·rw [if_pos c54] at H
                        have c54b0 : (((rd_T42 (rd_L5 x4_1 x99_4) 0).f1) == ((rd_T42 t231 x57_2).f1)) = true := beq_iff_eq.mpr c54
                        have c54b1 : (((rd_T42 (rd_L5 x4_1 x99_4) 0).f1) != ((rd_T42 t231 x57_2).f1)) = false := bne_eq_false_iff_eq.mpr c54
                        clear c54
                        have H' := Aside0.mk H
                        clear H
                        have p242 : 0 ≤ (x99_4 : Int) := of_decide_eq_true (by first | (with_reducible assumption) | assumption)
                        have q242 : x99_4 < (x4_1.length : Int) := of_decide_eq_true (by first | (with_reducible assumption) | assumption)
                        obtain ⟨ad242, A242_0, c242_0, e242, hx242_0, hl242_0, hi242_0⟩ := at_L5 (Kd.S_reads' HO_97.out).2.2 x99_4 p242 q242
                        cases e242
                        obtain ⟨ce242, hce242, hMe242, hcc242⟩ := Kd.S_get HO_97.out [] x99_4 p242 (by first | exact q242 | exact of_decide_eq_true (by first | (with_reducible assumption) | assumption) | (have e_ := (Kd.S_reads' HO_97.out).1; omega))
                        obtain ⟨ve242_0, rfl, ge242_0⟩ := hMe242
                        have hv242_0 := hcc242 0 _ rfl
                        rw [Nat.add_zero, show ((Kd.slice 42 k42)).sz = 1 from rfl, Nat.mul_one] at hv242_0
                        replace hv242_0 := Option.some.inj (hv242_0.symm.trans hx242_0)
                        rw [hv242_0] at ge242_0
                        have HL242_0 := Aside0.mk (show Kd.R k42 42 _ _ _ _ (rd_L5 x4_1 x99_4) from ge242_0)
                        clear hv242_0 ge242_0
                        clear hcc242 hce242
                        have HR242_0 := Aside0.mk hi242_0
                        have HC242_0 := Aside0.mk hl242_0
                        clear hi242_0 hl242_0
                        replace p242 := eq_true p242
                        replace q242 := eq_true q242
                        have p243 : 0 ≤ (0 : Int) := (by omega)
                        have q243 : 0 < ((rd_L5 x4_1 x99_4).length : Int) := of_decide_eq_true (by first | (with_reducible assumption) | assumption)
                        obtain ⟨ad243, e243, hx243_0, hx243_1, hx243_2, hx243_3⟩ := at_T42 (by repeat (first | (with_reducible exact HR242_0.out) | (with_reducible refine Kd.C_alloc ?_ _) | (with_reducible refine Kd.C_drewN ?_ _) | (with_reducible refine Kd.C_drew ?_) | exact HR242_0.out)) 0 p243 q243
                        cases e243
                        have qi243 : (0 < (rd_L5 x4_1 x99_4).length) = True := eq_true (by omega)
                        (try rw [show ((0 : Int)).toNat = 0 from rfl] at hx243_0)
                        (try rw [show 0 * 4 = 0 from rfl] at hx243_0)
                        (try rw [Addr.add_zero'] at hx243_0)
                        (try rw [show ((0 : Int)).toNat = 0 from rfl] at hx243_1)
                        (try rw [show 0 * 4 = 0 from rfl] at hx243_1)
                        (try rw [Addr.add_zero'] at hx243_1)
                        (try rw [show ((0 : Int)).toNat = 0 from rfl] at hx243_2)
                        (try rw [show 0 * 4 = 0 from rfl] at hx243_2)
                        (try rw [Addr.add_zero'] at hx243_2)
                        (try rw [show ((0 : Int)).toNat = 0 from rfl] at hx243_3)
                        (try rw [show 0 * 4 = 0 from rfl] at hx243_3)
                        (try rw [Addr.add_zero'] at hx243_3)
                        replace p243 := eq_true p243
                        replace q243 := eq_true q243
                        have hcz55_0 : wr.cell? ⟨gb238, 0, none⟩ = some (.int .i64 ((rd_T42 t231 x57_2).f0)) := (blk_cell BK238.out 0).trans rfl
                        have hcz55_1 : wr.cell? ⟨gb238, 1, none⟩ = some (.int .i64 ((rd_T42 t231 x57_2).f1)) := (blk_cell BK238.out 1).trans rfl
                        have hcz55_2 : wr.cell? ⟨gb238, 2, none⟩ = some (.int .i64 ((rd_T42 t231 x57_2).f2)) := (blk_cell BK238.out 2).trans rfl
                        have hcz55_3 : wr.cell? ⟨gb238, 3, none⟩ = some (.int .i64 ((rd_T42 t231 x57_2).f3)) := (blk_cell BK238.out 3).trans rfl
                        have hfz55_0 := blk_frozen BK238.out 0
                        have hfz55_1 := blk_frozen BK238.out 1
                        have hfz55_2 := blk_frozen BK238.out 2
                        have hfz55_3 := blk_frozen BK238.out 3
                        go_wp2
                        repeat (go_quiet (fail); try go_wp2)
                        go_roundg k4
                        case measure => have := HK1.out; have := HK2.out; have := HJ35.out; have := HK4.out; omega
                        case rel => exact ⟨(x99_4), (wrap64 (x99_4 + 1)), (by first | rfl | (simp; done) | (simp [*]; done)), (by first | rfl | (simp; done) | (simp [*]; done)), H', ⟨by have := HK1.out; have := HK2.out; have := HJ35.out; have := HK4.out; omega⟩, ⟨by (with_reducible repeat (first | apply Kd.S_alloc | apply Kd.S_drewN | apply Kd.S_drew)); exact HO_4.out⟩, ⟨by (with_reducible repeat (first | apply Kd.R_alloc | apply Kd.R_drewN | apply Kd.R_drew)); exact HO_9.out⟩, ⟨by (with_reducible repeat (first | apply Kd.R_alloc | apply Kd.R_drewN | apply Kd.R_drew)); exact HO_10.out⟩, ⟨by (with_reducible repeat (first | apply Kd.R_alloc | apply Kd.R_drewN | apply Kd.R_drew)); exact HO_55.out⟩, ⟨by (with_reducible repeat (first | apply Kd.S_alloc | apply Kd.S_drewN | apply Kd.S_drew)); exact HO_97.out⟩, ⟨by (with_reducible repeat (first | refine blk_drewN ?_ _ | refine blk_drew ?_ | refine blk_alloc ?_ _)); exact BK238.out⟩, ⟨by repeat (first | (with_reducible first | exact HB.out | apply below_alloc | apply pw_below_drewN | apply below_drew1 | refine below_set ?_ GE238.out) | exact HB.out)⟩⟩
                       ·rw [if_neg c54] at H
                        have c54b0 : (((rd_T42 (rd_L5 x4_1 x99_4) 0).f1) == ((rd_T42 t231 x57_2).f1)) = false := beq_eq_false_iff_ne.mpr c54
                        have c54b1 : (((rd_T42 (rd_L5 x4_1 x99_4) 0).f1) != ((rd_T42 t231 x57_2).f1)) = true := bne_iff_ne.mpr c54
                        have H' := Aside0.mk H
                        clear H
                        have p242 : 0 ≤ (x99_4 : Int) := of_decide_eq_true (by first | (with_reducible assumption) | assumption)
                        have q242 : x99_4 < (x4_1.length : Int) := of_decide_eq_true (by first | (with_reducible assumption) | assumption)
                        obtain ⟨ad242, A242_0, c242_0, e242, hx242_0, hl242_0, hi242_0⟩ := at_L5 (Kd.S_reads' HO_97.out).2.2 x99_4 p242 q242
                        cases e242
                        obtain ⟨ce242, hce242, hMe242, hcc242⟩ := Kd.S_get HO_97.out [] x99_4 p242 (by first | exact q242 | exact of_decide_eq_true (by first | (with_reducible assumption) | assumption) | (have e_ := (Kd.S_reads' HO_97.out).1; omega))
                        obtain ⟨ve242_0, rfl, ge242_0⟩ := hMe242
                        have hv242_0 := hcc242 0 _ rfl
                        rw [Nat.add_zero, show ((Kd.slice 42 k42)).sz = 1 from rfl, Nat.mul_one] at hv242_0
                        replace hv242_0 := Option.some.inj (hv242_0.symm.trans hx242_0)
                        rw [hv242_0] at ge242_0
                        have HL242_0 := Aside0.mk (show Kd.R k42 42 _ _ _ _ (rd_L5 x4_1 x99_4) from ge242_0)
                        clear hv242_0 ge242_0
                        clear hcc242 hce242
                        have HR242_0 := Aside0.mk hi242_0
                        have HC242_0 := Aside0.mk hl242_0
                        clear hi242_0 hl242_0
                        replace p242 := eq_true p242
                        replace q242 := eq_true q242
                        have p243 : 0 ≤ (0 : Int) := (by omega)
                        have q243 : 0 < ((rd_L5 x4_1 x99_4).length : Int) := of_decide_eq_true (by first | (with_reducible assumption) | assumption)
                        obtain ⟨ad243, e243, hx243_0, hx243_1, hx243_2, hx243_3⟩ := at_T42 (by repeat (first | (with_reducible exact HR242_0.out) | (with_reducible refine Kd.C_alloc ?_ _) | (with_reducible refine Kd.C_drewN ?_ _) | (with_reducible refine Kd.C_drew ?_) | exact HR242_0.out)) 0 p243 q243
                        cases e243
                        have qi243 : (0 < (rd_L5 x4_1 x99_4).length) = True := eq_true (by omega)
                        (try rw [show ((0 : Int)).toNat = 0 from rfl] at hx243_0)
                        (try rw [show 0 * 4 = 0 from rfl] at hx243_0)
                        (try rw [Addr.add_zero'] at hx243_0)
                        (try rw [show ((0 : Int)).toNat = 0 from rfl] at hx243_1)
                        (try rw [show 0 * 4 = 0 from rfl] at hx243_1)
                        (try rw [Addr.add_zero'] at hx243_1)
                        (try rw [show ((0 : Int)).toNat = 0 from rfl] at hx243_2)
                        (try rw [show 0 * 4 = 0 from rfl] at hx243_2)
                        (try rw [Addr.add_zero'] at hx243_2)
                        (try rw [show ((0 : Int)).toNat = 0 from rfl] at hx243_3)
                        (try rw [show 0 * 4 = 0 from rfl] at hx243_3)
                        (try rw [Addr.add_zero'] at hx243_3)
                        replace p243 := eq_true p243
                        replace q243 := eq_true q243
                        have hcz56_0 : wr.cell? ⟨gb238, 0, none⟩ = some (.int .i64 ((rd_T42 t231 x57_2).f0)) := (blk_cell BK238.out 0).trans rfl
                        have hcz56_1 : wr.cell? ⟨gb238, 1, none⟩ = some (.int .i64 ((rd_T42 t231 x57_2).f1)) := (blk_cell BK238.out 1).trans rfl
                        have hcz56_2 : wr.cell? ⟨gb238, 2, none⟩ = some (.int .i64 ((rd_T42 t231 x57_2).f2)) := (blk_cell BK238.out 2).trans rfl
                        have hcz56_3 : wr.cell? ⟨gb238, 3, none⟩ = some (.int .i64 ((rd_T42 t231 x57_2).f3)) := (blk_cell BK238.out 3).trans rfl
                        have hfz56_0 := blk_frozen BK238.out 0
                        have hfz56_1 := blk_frozen BK238.out 1
                        have hfz56_2 := blk_frozen BK238.out 2
                        have hfz56_3 := blk_frozen BK238.out 3
                        go_wp2
                        repeat (go_quiet (fail); try go_wp2)
                        go_roundg k4
                        case measure => have := HK1.out; have := HK2.out; have := HJ35.out; have := HK4.out; omega
                        case rel => exact ⟨(x13_4), (wrap64 (x99_4 + 1)), (by first | rfl | (simp; done) | (simp [*]; done)), (by first | rfl | (simp; done) | (simp [*]; done)), H', ⟨by have := HK1.out; have := HK2.out; have := HJ35.out; have := HK4.out; omega⟩, ⟨by (with_reducible repeat (first | apply Kd.S_alloc | apply Kd.S_drewN | apply Kd.S_drew)); exact HO_4.out⟩, ⟨by (with_reducible repeat (first | apply Kd.R_alloc | apply Kd.R_drewN | apply Kd.R_drew)); exact HO_9.out⟩, ⟨by (with_reducible repeat (first | apply Kd.R_alloc | apply Kd.R_drewN | apply Kd.R_drew)); exact HO_10.out⟩, ⟨by (with_reducible repeat (first | apply Kd.R_alloc | apply Kd.R_drewN | apply Kd.R_drew)); exact HO_55.out⟩, ⟨by (with_reducible repeat (first | apply Kd.S_alloc | apply Kd.S_drewN | apply Kd.S_drew)); exact HO_97.out⟩, ⟨by (with_reducible repeat (first | refine blk_drewN ?_ _ | refine blk_drew ?_ | refine blk_alloc ?_ _)); exact BK238.out⟩, ⟨by repeat (first | (with_reducible first | exact HB.out | apply below_alloc | apply pw_below_drewN | apply below_drew1 | refine below_set ?_ GE238.out) | exact HB.out)⟩⟩
                      ·rw [if_neg c53] at H
                       exact absurd H (by simp)
                     ·rw [if_neg c52] at H
                      have c52b0 : decide (0 < ((rd_L5 x4_1 x99_4).length : Int)) = false := decide_eq_false c52
                      have c52b1 : decide (0 < (rd_L5 x4_1 x99_4).length) = false := decide_eq_false (by omega)
                      clear c52
                      have H' := Aside0.mk H
                      clear H
                      have p242 : 0 ≤ (x99_4 : Int) := of_decide_eq_true (by first | (with_reducible assumption) | assumption)
                      have q242 : x99_4 < (x4_1.length : Int) := of_decide_eq_true (by first | (with_reducible assumption) | assumption)
                      obtain ⟨ad242, A242_0, c242_0, e242, hx242_0, hl242_0, hi242_0⟩ := at_L5 (Kd.S_reads' HO_97.out).2.2 x99_4 p242 q242
                      cases e242
                      obtain ⟨ce242, hce242, hMe242, hcc242⟩ := Kd.S_get HO_97.out [] x99_4 p242 (by first | exact q242 | exact of_decide_eq_true (by first | (with_reducible assumption) | assumption) | (have e_ := (Kd.S_reads' HO_97.out).1; omega))
                      obtain ⟨ve242_0, rfl, ge242_0⟩ := hMe242
                      have hv242_0 := hcc242 0 _ rfl
                      rw [Nat.add_zero, show ((Kd.slice 42 k42)).sz = 1 from rfl, Nat.mul_one] at hv242_0
                      replace hv242_0 := Option.some.inj (hv242_0.symm.trans hx242_0)
                      rw [hv242_0] at ge242_0
                      have HL242_0 := Aside0.mk (show Kd.R k42 42 _ _ _ _ (rd_L5 x4_1 x99_4) from ge242_0)
                      clear hv242_0 ge242_0
                      clear hcc242 hce242
                      have HR242_0 := Aside0.mk hi242_0
                      have HC242_0 := Aside0.mk hl242_0
                      clear hi242_0 hl242_0
                      replace p242 := eq_true p242
                      replace q242 := eq_true q242
                      go_wp2
                      repeat (go_quiet (fail); try go_wp2)
                      go_roundg k4
                      case measure => have := HK1.out; have := HK2.out; have := HJ35.out; have := HK4.out; omega
                      case rel => exact ⟨(x13_4), (wrap64 (x99_4 + 1)), (by first | rfl | (simp; done) | (simp [*]; done)), (by first | rfl | (simp; done) | (simp [*]; done)), H', ⟨by have := HK1.out; have := HK2.out; have := HJ35.out; have := HK4.out; omega⟩, ⟨by (with_reducible repeat (first | apply Kd.S_alloc | apply Kd.S_drewN | apply Kd.S_drew)); exact HO_4.out⟩, ⟨by (with_reducible repeat (first | apply Kd.R_alloc | apply Kd.R_drewN | apply Kd.R_drew)); exact HO_9.out⟩, ⟨by (with_reducible repeat (first | apply Kd.R_alloc | apply Kd.R_drewN | apply Kd.R_drew)); exact HO_10.out⟩, ⟨by (with_reducible repeat (first | apply Kd.R_alloc | apply Kd.R_drewN | apply Kd.R_drew)); exact HO_55.out⟩, ⟨by (with_reducible repeat (first | apply Kd.S_alloc | apply Kd.S_drewN | apply Kd.S_drew)); exact HO_97.out⟩, ⟨by (with_reducible repeat (first | refine blk_drewN ?_ _ | refine blk_drew ?_ | refine blk_alloc ?_ _)); exact BK238.out⟩, ⟨by repeat (first | (with_reducible first | exact HB.out | apply below_alloc | apply pw_below_drewN | apply below_drew1 | refine below_set ?_ GE238.out) | exact HB.out)⟩⟩
                    ·rw [if_neg c51] at H
                     exact absurd H (by simp)
                   ·rw [if_neg c50] at H
                    exact absurd H (by simp)
                  ·rw [if_neg c49] at H
                   have c49b0 : decide (x99_4 < (x4_1.length : Int)) = false := decide_eq_false c49
                   clear c49
                   by_cases c57 : x13_4 < 0
                   ·rw [if_pos c57] at H
                    have c57b0 : decide (x13_4 < 0) = true := decide_eq_true c57
                    clear c57
                    obtain rfl := Option.some.inj H
                    go_wp2
                    repeat (go_quiet (fail); try go_wp2)
                    go_ret
                    exact ⟨by first | rfl | (simp [errW_none, errW_some] <;> rfl) | (simp [*, errW_none, errW_some] <;> rfl), by repeat (first | (with_reducible first | exact HB.out | apply below_alloc | apply pw_below_drewN | apply below_drew1 | refine below_set ?_ GE238.out) | exact HB.out)⟩
                   ·rw [if_neg c57] at H
                    have c57b0 : decide (x13_4 < 0) = false := decide_eq_false c57
                    clear c57
                    by_cases c58 : ((rd_T42 t231 x57_2).f1) < 0
                    ·rw [if_pos c58] at H
                     have c58b0 : decide (((rd_T42 t231 x57_2).f1) < 0) = true := decide_eq_true c58
                     clear c58
                     obtain rfl := Option.some.inj H
                     have hcz59_0 : wr.cell? ⟨gb238, 0, none⟩ = some (.int .i64 ((rd_T42 t231 x57_2).f0)) := (blk_cell BK238.out 0).trans rfl
                     have hcz59_1 : wr.cell? ⟨gb238, 1, none⟩ = some (.int .i64 ((rd_T42 t231 x57_2).f1)) := (blk_cell BK238.out 1).trans rfl
                     have hcz59_2 : wr.cell? ⟨gb238, 2, none⟩ = some (.int .i64 ((rd_T42 t231 x57_2).f2)) := (blk_cell BK238.out 2).trans rfl
                     have hcz59_3 : wr.cell? ⟨gb238, 3, none⟩ = some (.int .i64 ((rd_T42 t231 x57_2).f3)) := (blk_cell BK238.out 3).trans rfl
                     have hfz59_0 := blk_frozen BK238.out 0
                     have hfz59_1 := blk_frozen BK238.out 1
                     have hfz59_2 := blk_frozen BK238.out 2
                     have hfz59_3 := blk_frozen BK238.out 3
                     go_wp2
                     repeat (go_quiet (fail); try go_wp2)
                     go_ret
                     exact ⟨by first | rfl | (simp [errW_none, errW_some] <;> rfl) | (simp [*, errW_none, errW_some] <;> rfl), by repeat (first | (with_reducible first | exact HB.out | apply below_alloc | apply pw_below_drewN | apply below_drew1 | refine below_set ?_ GE238.out) | exact HB.out)⟩
                    ·rw [if_neg c58] at H
                     have c58b0 : decide (((rd_T42 t231 x57_2).f1) < 0) = false := decide_eq_false c58
                     clear c58
                     by_cases c60 : ((rd_T42 t231 x57_2).f1) ≥ (x10_2.length : Int)
                     ·rw [if_pos c60] at H
                      have c60b0 : decide ((x10_2.length : Int) ≤ ((rd_T42 t231 x57_2).f1)) = true := decide_eq_true c60
                      clear c60
                      obtain rfl := Option.some.inj H
                      have hcz61_0 : wr.cell? ⟨gb238, 0, none⟩ = some (.int .i64 ((rd_T42 t231 x57_2).f0)) := (blk_cell BK238.out 0).trans rfl
                      have hcz61_1 : wr.cell? ⟨gb238, 1, none⟩ = some (.int .i64 ((rd_T42 t231 x57_2).f1)) := (blk_cell BK238.out 1).trans rfl
                      have hcz61_2 : wr.cell? ⟨gb238, 2, none⟩ = some (.int .i64 ((rd_T42 t231 x57_2).f2)) := (blk_cell BK238.out 2).trans rfl
                      have hcz61_3 : wr.cell? ⟨gb238, 3, none⟩ = some (.int .i64 ((rd_T42 t231 x57_2).f3)) := (blk_cell BK238.out 3).trans rfl
                      have hfz61_0 := blk_frozen BK238.out 0
                      have hfz61_1 := blk_frozen BK238.out 1
                      have hfz61_2 := blk_frozen BK238.out 2
                      have hfz61_3 := blk_frozen BK238.out 3
                      obtain ⟨Ao62, co62, eo62⟩ := Kd.R_slice HO_10.out
                      subst eo62
                      go_wp2
                      repeat (go_quiet (fail); try go_wp2)
                      go_ret
                      exact ⟨by first | rfl | (simp [errW_none, errW_some] <;> rfl) | (simp [*, errW_none, errW_some] <;> rfl), by repeat (first | (with_reducible first | exact HB.out | apply below_alloc | apply pw_below_drewN | apply below_drew1 | refine below_set ?_ GE238.out) | exact HB.out)⟩
                     ·rw [if_neg c60] at H
                      have c60b0 : decide ((x10_2.length : Int) ≤ ((rd_T42 t231 x57_2).f1)) = false := decide_eq_false c60
                      clear c60
                      by_cases c63 : 0 ≤ ((rd_T42 t231 x57_2).f1)
                      ·rw [if_pos c63] at H
                       have c63b0 : decide (0 ≤ ((rd_T42 t231 x57_2).f1)) = true := decide_eq_true c63
                       clear c63
                       by_cases c64 : ((rd_T42 t231 x57_2).f1) < (x10_2.length : Int)
                       ·rw [if_pos c64] at H
                        have c64b0 : decide (((rd_T42 t231 x57_2).f1) < (x10_2.length : Int)) = true := decide_eq_true c64
                        clear c64
                        by_cases c65 : 0 ≤ x13_4
                        ·rw [if_pos c65] at H
                         have c65b0 : decide (0 ≤ x13_4) = true := decide_eq_true c65
                         clear c65
                         by_cases c66 : x13_4 < (x4_1.length : Int)
                         ·rw [if_pos c66] at H
                          have c66b0 : decide (x13_4 < (x4_1.length : Int)) = true := decide_eq_true c66
                          clear c66
                          by_cases c67 : (rd x10_2 ((rd_T42 t231 x57_2).f1)) ≥ ((rd_L5 x4_1 x13_4).length : Int)
                          ·rw [if_pos c67] at H
                           have c67b0 : decide (((rd_L5 x4_1 x13_4).length : Int) ≤ (rd x10_2 ((rd_T42 t231 x57_2).f1))) = true := decide_eq_true c67
                           clear c67
                           obtain rfl := Option.some.inj H
                           have hcz68_0 : wr.cell? ⟨gb238, 0, none⟩ = some (.int .i64 ((rd_T42 t231 x57_2).f0)) := (blk_cell BK238.out 0).trans rfl
                           have hcz68_1 : wr.cell? ⟨gb238, 1, none⟩ = some (.int .i64 ((rd_T42 t231 x57_2).f1)) := (blk_cell BK238.out 1).trans rfl
                           have hcz68_2 : wr.cell? ⟨gb238, 2, none⟩ = some (.int .i64 ((rd_T42 t231 x57_2).f2)) := (blk_cell BK238.out 2).trans rfl
                           have hcz68_3 : wr.cell? ⟨gb238, 3, none⟩ = some (.int .i64 ((rd_T42 t231 x57_2).f3)) := (blk_cell BK238.out 3).trans rfl
                           have hfz68_0 := blk_frozen BK238.out 0
                           have hfz68_1 := blk_frozen BK238.out 1
                           have hfz68_2 := blk_frozen BK238.out 2
                           have hfz68_3 := blk_frozen BK238.out 3
                           obtain ⟨Ao69, co69, eo69⟩ := Kd.R_slice HO_10.out
                           subst eo69
                           have p244 : 0 ≤ (((rd_T42 t231 x57_2).f1) : Int) := of_decide_eq_true (by first | (with_reducible assumption) | assumption)
                           have q244 : ((rd_T42 t231 x57_2).f1) < (x10_2.length : Int) := of_decide_eq_true (by first | (with_reducible assumption) | assumption)
                           obtain ⟨ad244, e244, hx244_0⟩ := Kd.at_int (Kd.R_reads' HO_10.out).2.2 ((rd_T42 t231 x57_2).f1) p244 q244
                           cases e244
                           replace p244 := eq_true p244
                           replace q244 := eq_true q244
                           have p245 : 0 ≤ (x13_4 : Int) := of_decide_eq_true (by first | (with_reducible assumption) | assumption)
                           have q245 : x13_4 < (x4_1.length : Int) := of_decide_eq_true (by first | (with_reducible assumption) | assumption)
                           obtain ⟨ad245, A245_0, c245_0, e245, hx245_0, hl245_0, hi245_0⟩ := at_L5 (Kd.S_reads' HO_4.out).2.2 x13_4 p245 q245
                           cases e245
                           obtain ⟨ce245, hce245, hMe245, hcc245⟩ := Kd.S_get HO_4.out [] x13_4 p245 (by first | exact q245 | exact of_decide_eq_true (by first | (with_reducible assumption) | assumption) | (have e_ := (Kd.S_reads' HO_4.out).1; omega))
                           obtain ⟨ve245_0, rfl, ge245_0⟩ := hMe245
                           have hv245_0 := hcc245 0 _ rfl
                           rw [Nat.add_zero, show ((Kd.slice 42 k42)).sz = 1 from rfl, Nat.mul_one] at hv245_0
                           replace hv245_0 := Option.some.inj (hv245_0.symm.trans hx245_0)
                           rw [hv245_0] at ge245_0
                           have HL245_0 := Aside0.mk (show Kd.R k42 42 _ _ _ _ (rd_L5 x4_1 x13_4) from ge245_0)
                           clear hv245_0 ge245_0
                           clear hcc245 hce245
                           have HR245_0 := Aside0.mk hi245_0
                           have HC245_0 := Aside0.mk hl245_0
                           clear hi245_0 hl245_0
                           replace p245 := eq_true p245
                           replace q245 := eq_true q245
                           go_wp2
                           repeat (go_quiet (fail); try go_wp2)
                           go_ret
                           exact ⟨by first | rfl | (simp [errW_none, errW_some] <;> rfl) | (simp [*, errW_none, errW_some] <;> rfl), by repeat (first | (with_reducible first | exact HB.out | apply below_alloc | apply pw_below_drewN | apply below_drew1 | refine below_set ?_ GE238.out) | exact HB.out)⟩
                          ·rw [if_neg c67] at H
                           have c67b0 : decide (((rd_L5 x4_1 x13_4).length : Int) ≤ (rd x10_2 ((rd_T42 t231 x57_2).f1))) = false := decide_eq_false c67
                           clear c67
                           by_cases c70 : 0 ≤ (rd x10_2 ((rd_T42 t231 x57_2).f1))
                           ·rw [if_pos c70] at H
                            have c70b0 : decide (0 ≤ (rd x10_2 ((rd_T42 t231 x57_2).f1))) = true := decide_eq_true c70
                            clear c70
                            by_cases c71 : (rd x10_2 ((rd_T42 t231 x57_2).f1)) < ((rd_L5 x4_1 x13_4).length : Int)
                            ·rw [if_pos c71] at H
                             have c71b0 : decide ((rd x10_2 ((rd_T42 t231 x57_2).f1)) < ((rd_L5 x4_1 x13_4).length : Int)) = true := decide_eq_true c71
                             clear c71
                             by_cases c72 : (!(((rd_T42 (rd_L5 x4_1 x13_4) (rd x10_2 ((rd_T42 t231 x57_2).f1))).f0) == ((rd_T42 t231 x57_2).f0)) || (!(((rd_T42 (rd_L5 x4_1 x13_4) (rd x10_2 ((rd_T42 t231 x57_2).f1))).f1) == ((rd_T42 t231 x57_2).f1)) || (!(((rd_T42 (rd_L5 x4_1 x13_4) (rd x10_2 ((rd_T42 t231 x57_2).f1))).f2) == ((rd_T42 t231 x57_2).f2)) || (!(((rd_T42 (rd_L5 x4_1 x13_4) (rd x10_2 ((rd_T42 t231 x57_2).f1))).f3) == ((rd_T42 t231 x57_2).f3)))))) = true
                             ·rw [if_pos c72] at H
                              have c72b0 : (!(((rd_T42 (rd_L5 x4_1 x13_4) (rd x10_2 ((rd_T42 t231 x57_2).f1))).f0) == ((rd_T42 t231 x57_2).f0)) || (!(((rd_T42 (rd_L5 x4_1 x13_4) (rd x10_2 ((rd_T42 t231 x57_2).f1))).f1) == ((rd_T42 t231 x57_2).f1)) || (!(((rd_T42 (rd_L5 x4_1 x13_4) (rd x10_2 ((rd_T42 t231 x57_2).f1))).f2) == ((rd_T42 t231 x57_2).f2)) || (!(((rd_T42 (rd_L5 x4_1 x13_4) (rd x10_2 ((rd_T42 t231 x57_2).f1))).f3) == ((rd_T42 t231 x57_2).f3)))))) = true := c72
                              clear c72
                              obtain rfl := Option.some.inj H
                              have hcz73_0 : wr.cell? ⟨gb238, 0, none⟩ = some (.int .i64 ((rd_T42 t231 x57_2).f0)) := (blk_cell BK238.out 0).trans rfl
                              have hcz73_1 : wr.cell? ⟨gb238, 1, none⟩ = some (.int .i64 ((rd_T42 t231 x57_2).f1)) := (blk_cell BK238.out 1).trans rfl
                              have hcz73_2 : wr.cell? ⟨gb238, 2, none⟩ = some (.int .i64 ((rd_T42 t231 x57_2).f2)) := (blk_cell BK238.out 2).trans rfl
                              have hcz73_3 : wr.cell? ⟨gb238, 3, none⟩ = some (.int .i64 ((rd_T42 t231 x57_2).f3)) := (blk_cell BK238.out 3).trans rfl
                              have hfz73_0 := blk_frozen BK238.out 0
                              have hfz73_1 := blk_frozen BK238.out 1
                              have hfz73_2 := blk_frozen BK238.out 2
                              have hfz73_3 := blk_frozen BK238.out 3
                              obtain ⟨Ao74, co74, eo74⟩ := Kd.R_slice HO_10.out
                              subst eo74
                              have p244 : 0 ≤ (((rd_T42 t231 x57_2).f1) : Int) := of_decide_eq_true (by first | (with_reducible assumption) | assumption)
                              have q244 : ((rd_T42 t231 x57_2).f1) < (x10_2.length : Int) := of_decide_eq_true (by first | (with_reducible assumption) | assumption)
                              obtain ⟨ad244, e244, hx244_0⟩ := Kd.at_int (Kd.R_reads' HO_10.out).2.2 ((rd_T42 t231 x57_2).f1) p244 q244
                              cases e244
                              replace p244 := eq_true p244
                              replace q244 := eq_true q244
                              have p245 : 0 ≤ (x13_4 : Int) := of_decide_eq_true (by first | (with_reducible assumption) | assumption)
                              have q245 : x13_4 < (x4_1.length : Int) := of_decide_eq_true (by first | (with_reducible assumption) | assumption)
                              obtain ⟨ad245, A245_0, c245_0, e245, hx245_0, hl245_0, hi245_0⟩ := at_L5 (Kd.S_reads' HO_4.out).2.2 x13_4 p245 q245
                              cases e245
                              obtain ⟨ce245, hce245, hMe245, hcc245⟩ := Kd.S_get HO_4.out [] x13_4 p245 (by first | exact q245 | exact of_decide_eq_true (by first | (with_reducible assumption) | assumption) | (have e_ := (Kd.S_reads' HO_4.out).1; omega))
                              obtain ⟨ve245_0, rfl, ge245_0⟩ := hMe245
                              have hv245_0 := hcc245 0 _ rfl
                              rw [Nat.add_zero, show ((Kd.slice 42 k42)).sz = 1 from rfl, Nat.mul_one] at hv245_0
                              replace hv245_0 := Option.some.inj (hv245_0.symm.trans hx245_0)
                              rw [hv245_0] at ge245_0
                              have HL245_0 := Aside0.mk (show Kd.R k42 42 _ _ _ _ (rd_L5 x4_1 x13_4) from ge245_0)
                              clear hv245_0 ge245_0
                              clear hcc245 hce245
                              have HR245_0 := Aside0.mk hi245_0
                              have HC245_0 := Aside0.mk hl245_0
                              clear hi245_0 hl245_0
                              replace p245 := eq_true p245
                              replace q245 := eq_true q245
                              have p246 : 0 ≤ (x13_4 : Int) := of_decide_eq_true (by first | (with_reducible assumption) | assumption)
                              have q246 : x13_4 < (x4_1.length : Int) := of_decide_eq_true (by first | (with_reducible assumption) | assumption)
                              obtain ⟨ad246, A246_0, c246_0, e246, hx246_0, hl246_0, hi246_0⟩ := at_L5 (Kd.S_reads' HO_4.out).2.2 x13_4 p246 q246
                              obtain rfl : ad245 = ad246 := (by injection e246)
                              obtain ⟨ce246, hce246, hMe246, hcc246⟩ := Kd.S_get HO_4.out [] x13_4 p246 (by first | exact q246 | exact of_decide_eq_true (by first | (with_reducible assumption) | assumption) | (have e_ := (Kd.S_reads' HO_4.out).1; omega))
                              obtain ⟨ve246_0, rfl, ge246_0⟩ := hMe246
                              have hv246_0 := hcc246 0 _ rfl
                              rw [Nat.add_zero, show ((Kd.slice 42 k42)).sz = 1 from rfl, Nat.mul_one] at hv246_0
                              replace hv246_0 := Option.some.inj (hv246_0.symm.trans hx246_0)
                              rw [hv246_0] at ge246_0
                              have HL246_0 := Aside0.mk (show Kd.R k42 42 _ _ _ _ (rd_L5 x4_1 x13_4) from ge246_0)
                              clear hv246_0 ge246_0
                              clear hcc246 hce246
                              have HR246_0 := Aside0.mk hi246_0
                              have HC246_0 := Aside0.mk hl246_0
                              clear hi246_0 hl246_0
                              replace p246 := eq_true p246
                              replace q246 := eq_true q246
                              have ea_ := Option.some.inj (hx245_0.symm.trans hx246_0)
                              injection ea_ with ea_ en_ ec_
                              subst ea_
                              subst ec_
                              clear en_
                              have p247 : 0 ≤ (((rd_T42 t231 x57_2).f1) : Int) := of_decide_eq_true (by first | (with_reducible assumption) | assumption)
                              have q247 : ((rd_T42 t231 x57_2).f1) < (x10_2.length : Int) := of_decide_eq_true (by first | (with_reducible assumption) | assumption)
                              obtain ⟨ad247, e247, hx247_0⟩ := Kd.at_int (Kd.R_reads' HO_10.out).2.2 ((rd_T42 t231 x57_2).f1) p247 q247
                              obtain rfl : ad244 = ad247 := (by injection e247)
                              replace p247 := eq_true p247
                              replace q247 := eq_true q247
                              have p248 : 0 ≤ ((rd x10_2 ((rd_T42 t231 x57_2).f1)) : Int) := of_decide_eq_true (by first | (with_reducible assumption) | assumption)
                              have q248 : (rd x10_2 ((rd_T42 t231 x57_2).f1)) < ((rd_L5 x4_1 x13_4).length : Int) := of_decide_eq_true (by first | (with_reducible assumption) | assumption)
                              obtain ⟨ad248, e248, hx248_0, hx248_1, hx248_2, hx248_3⟩ := at_T42 (by repeat (first | (with_reducible exact HR246_0.out) | (with_reducible refine Kd.C_alloc ?_ _) | (with_reducible refine Kd.C_drewN ?_ _) | (with_reducible refine Kd.C_drew ?_) | exact HR246_0.out)) (rd x10_2 ((rd_T42 t231 x57_2).f1)) p248 q248
                              cases e248
                              replace p248 := eq_true p248
                              replace q248 := eq_true q248
                              go_wp2
                              repeat (go_quiet (fail); try go_wp2)
                              go_ret
                              exact ⟨by first | rfl | (simp [errW_none, errW_some] <;> rfl) | (simp [*, errW_none, errW_some] <;> rfl), by repeat (first | (with_reducible first | exact HB.out | apply below_alloc | apply pw_below_drewN | apply below_drew1 | refine below_set ?_ GE238.out) | exact HB.out)⟩
                             ·rw [if_neg c72] at H
                              have c72b0 : (!(((rd_T42 (rd_L5 x4_1 x13_4) (rd x10_2 ((rd_T42 t231 x57_2).f1))).f0) == ((rd_T42 t231 x57_2).f0)) || (!(((rd_T42 (rd_L5 x4_1 x13_4) (rd x10_2 ((rd_T42 t231 x57_2).f1))).f1) == ((rd_T42 t231 x57_2).f1)) || (!(((rd_T42 (rd_L5 x4_1 x13_4) (rd x10_2 ((rd_T42 t231 x57_2).f1))).f2) == ((rd_T42 t231 x57_2).f2)) || (!(((rd_T42 (rd_L5 x4_1 x13_4) (rd x10_2 ((rd_T42 t231 x57_2).f1))).f3) == ((rd_T42 t231 x57_2).f3)))))) = false := by simpa using c72
                              clear c72
                              obtain ⟨y250, hy250⟩ : ∃ y_ : List Int, y_ = (x10_2.set (((rd_T42 t231 x57_2).f1) : Int).toNat (wrap64 ((rd x10_2 ((rd_T42 t231 x57_2).f1)) + 1))) := ⟨_, rfl⟩
                              replace H : (storagebarterlaw28_DutyAll.l1 k4 x4_1 x5_1 t231 y250 t231 (t231.length : Int) (wrap64 (x57_2 + 1))) = some r := by first | (rw [hy250]; with_reducible exact H) | (have H2_ := (Option.bind_some _ _).symm.trans H; rw [hy250]; with_reducible exact H2_) | (have H2_ := (Option.bind_some _ _).symm.trans H; with_reducible exact H2_) | with_reducible exact H | (rw [hy250]; exact H) | exact H
                              have Ny250 := Aside0.mk hy250
                              clear hy250
                              have H' := Aside0.mk H
                              clear H
                              have hcz76_0 : wr.cell? ⟨gb238, 0, none⟩ = some (.int .i64 ((rd_T42 t231 x57_2).f0)) := (blk_cell BK238.out 0).trans rfl
                              have hcz76_1 : wr.cell? ⟨gb238, 1, none⟩ = some (.int .i64 ((rd_T42 t231 x57_2).f1)) := (blk_cell BK238.out 1).trans rfl
                              have hcz76_2 : wr.cell? ⟨gb238, 2, none⟩ = some (.int .i64 ((rd_T42 t231 x57_2).f2)) := (blk_cell BK238.out 2).trans rfl
                              have hcz76_3 : wr.cell? ⟨gb238, 3, none⟩ = some (.int .i64 ((rd_T42 t231 x57_2).f3)) := (blk_cell BK238.out 3).trans rfl
                              have hfz76_0 := blk_frozen BK238.out 0
                              have hfz76_1 := blk_frozen BK238.out 1
                              have hfz76_2 := blk_frozen BK238.out 2
                              have hfz76_3 := blk_frozen BK238.out 3
                              obtain ⟨Ao77, co77, eo77⟩ := Kd.R_slice HO_10.out
                              subst eo77
                              have p244 : 0 ≤ (((rd_T42 t231 x57_2).f1) : Int) := of_decide_eq_true (by first | (with_reducible assumption) | assumption)
                              have q244 : ((rd_T42 t231 x57_2).f1) < (x10_2.length : Int) := of_decide_eq_true (by first | (with_reducible assumption) | assumption)
                              obtain ⟨ad244, e244, hx244_0⟩ := Kd.at_int (Kd.R_reads' HO_10.out).2.2 ((rd_T42 t231 x57_2).f1) p244 q244
                              cases e244
                              replace p244 := eq_true p244
                              replace q244 := eq_true q244
                              have p245 : 0 ≤ (x13_4 : Int) := of_decide_eq_true (by first | (with_reducible assumption) | assumption)
                              have q245 : x13_4 < (x4_1.length : Int) := of_decide_eq_true (by first | (with_reducible assumption) | assumption)
                              obtain ⟨ad245, A245_0, c245_0, e245, hx245_0, hl245_0, hi245_0⟩ := at_L5 (Kd.S_reads' HO_4.out).2.2 x13_4 p245 q245
                              cases e245
                              obtain ⟨ce245, hce245, hMe245, hcc245⟩ := Kd.S_get HO_4.out [] x13_4 p245 (by first | exact q245 | exact of_decide_eq_true (by first | (with_reducible assumption) | assumption) | (have e_ := (Kd.S_reads' HO_4.out).1; omega))
                              obtain ⟨ve245_0, rfl, ge245_0⟩ := hMe245
                              have hv245_0 := hcc245 0 _ rfl
                              rw [Nat.add_zero, show ((Kd.slice 42 k42)).sz = 1 from rfl, Nat.mul_one] at hv245_0
                              replace hv245_0 := Option.some.inj (hv245_0.symm.trans hx245_0)
                              rw [hv245_0] at ge245_0
                              have HL245_0 := Aside0.mk (show Kd.R k42 42 _ _ _ _ (rd_L5 x4_1 x13_4) from ge245_0)
                              clear hv245_0 ge245_0
                              clear hcc245 hce245
                              have HR245_0 := Aside0.mk hi245_0
                              have HC245_0 := Aside0.mk hl245_0
                              clear hi245_0 hl245_0
                              replace p245 := eq_true p245
                              replace q245 := eq_true q245
                              have p246 : 0 ≤ (x13_4 : Int) := of_decide_eq_true (by first | (with_reducible assumption) | assumption)
                              have q246 : x13_4 < (x4_1.length : Int) := of_decide_eq_true (by first | (with_reducible assumption) | assumption)
                              obtain ⟨ad246, A246_0, c246_0, e246, hx246_0, hl246_0, hi246_0⟩ := at_L5 (Kd.S_reads' HO_4.out).2.2 x13_4 p246 q246
                              obtain rfl : ad245 = ad246 := (by injection e246)
                              obtain ⟨ce246, hce246, hMe246, hcc246⟩ := Kd.S_get HO_4.out [] x13_4 p246 (by first | exact q246 | exact of_decide_eq_true (by first | (with_reducible assumption) | assumption) | (have e_ := (Kd.S_reads' HO_4.out).1; omega))
                              obtain ⟨ve246_0, rfl, ge246_0⟩ := hMe246
                              have hv246_0 := hcc246 0 _ rfl
                              rw [Nat.add_zero, show ((Kd.slice 42 k42)).sz = 1 from rfl, Nat.mul_one] at hv246_0
                              replace hv246_0 := Option.some.inj (hv246_0.symm.trans hx246_0)
                              rw [hv246_0] at ge246_0
                              have HL246_0 := Aside0.mk (show Kd.R k42 42 _ _ _ _ (rd_L5 x4_1 x13_4) from ge246_0)
                              clear hv246_0 ge246_0
                              clear hcc246 hce246
                              have HR246_0 := Aside0.mk hi246_0
                              have HC246_0 := Aside0.mk hl246_0
                              clear hi246_0 hl246_0
                              replace p246 := eq_true p246
                              replace q246 := eq_true q246
                              have ea_ := Option.some.inj (hx245_0.symm.trans hx246_0)
                              injection ea_ with ea_ en_ ec_
                              subst ea_
                              subst ec_
                              clear en_
                              have p247 : 0 ≤ (((rd_T42 t231 x57_2).f1) : Int) := of_decide_eq_true (by first | (with_reducible assumption) | assumption)
                              have q247 : ((rd_T42 t231 x57_2).f1) < (x10_2.length : Int) := of_decide_eq_true (by first | (with_reducible assumption) | assumption)
                              obtain ⟨ad247, e247, hx247_0⟩ := Kd.at_int (Kd.R_reads' HO_10.out).2.2 ((rd_T42 t231 x57_2).f1) p247 q247
                              obtain rfl : ad244 = ad247 := (by injection e247)
                              replace p247 := eq_true p247
                              replace q247 := eq_true q247
                              have p248 : 0 ≤ ((rd x10_2 ((rd_T42 t231 x57_2).f1)) : Int) := of_decide_eq_true (by first | (with_reducible assumption) | assumption)
                              have q248 : (rd x10_2 ((rd_T42 t231 x57_2).f1)) < ((rd_L5 x4_1 x13_4).length : Int) := of_decide_eq_true (by first | (with_reducible assumption) | assumption)
                              obtain ⟨ad248, e248, hx248_0, hx248_1, hx248_2, hx248_3⟩ := at_T42 (by repeat (first | (with_reducible exact HR246_0.out) | (with_reducible refine Kd.C_alloc ?_ _) | (with_reducible refine Kd.C_drewN ?_ _) | (with_reducible refine Kd.C_drew ?_) | exact HR246_0.out)) (rd x10_2 ((rd_T42 t231 x57_2).f1)) p248 q248
                              cases e248
                              replace p248 := eq_true p248
                              replace q248 := eq_true q248
                              have p249 : 0 ≤ (((rd_T42 t231 x57_2).f1) : Int) := of_decide_eq_true (by first | (with_reducible assumption) | assumption)
                              have q249 : ((rd_T42 t231 x57_2).f1) < (x10_2.length : Int) := of_decide_eq_true (by first | (with_reducible assumption) | assumption)
                              obtain ⟨ad249, e249, hx249_0⟩ := Kd.at_int (Kd.R_reads' HO_10.out).2.2 ((rd_T42 t231 x57_2).f1) p249 q249
                              obtain rfl : ad244 = ad249 := (by injection e249)
                              replace p249 := eq_true p249
                              replace q249 := eq_true q249
                              have p75 : 0 ≤ (((rd_T42 t231 x57_2).f1) : Int) := of_decide_eq_true (by first | (with_reducible assumption) | assumption)
                              have q75 : (((rd_T42 t231 x57_2).f1) : Int) < ((x10_2.length : Int) : Int) := of_decide_eq_true (by first | (with_reducible assumption) | assumption)
                              obtain ⟨go75, co75, eo75, gb75, gl75, cl75, HG75⟩ := Kd.R_form HO_10.out (by omega)
                              (first | cases eo75 | (injection eo75 with ea_ en_ ec_; (first | subst ea_ | (injection ea_ with ea_; subst ea_)); subst ec_; clear en_))
                              have GB75 := Aside0.mk gb75
                              have GG75 := Aside0.mk HG75
                              clear gb75 gl75 HG75
                              (first | simp only [add_plain] at hx244_0 | skip)
                              (first | simp only [add_plain] at hx247_0 | skip)
                              (first | simp only [add_plain] at hx249_0 | skip)
                              obtain ⟨hx75_0, hf75_0⟩ := Kd.R_celln 0 HO_10.out (((rd_T42 t231 x57_2).f1) : Int) p75 q75
                              replace p75 := eq_true p75
                              replace q75 := eq_true q75
                              have HP78 := Kd.R_putg HO_10.out (((rd_T42 t231 x57_2).f1) : Int) (wrap64 ((rd x10_2 ((rd_T42 t231 x57_2).f1)) + 1))
                              go_wp2_with (first | ((with_reducible refine gate_store (t := 3) (p := 166) rfl ?_); (try (rw [drewN_self wr]; generalize hq_ : World.drewN wr _ = wr; have n0_ := Aside0.mk (Kd.S_at hq_ HO_4.out); have n1_ := Aside0.mk (Kd.R_at hq_ HO_9.out); have n2_ := Aside0.mk (Kd.R_at hq_ HO_10.out); have n3_ := Aside0.mk (Kd.R_at hq_ HO_55.out); have n4_ := Aside0.mk (Kd.S_at hq_ HO_97.out); have n5_ := Aside0.mk (Kd.R_at hq_ HL245_0.out); have n6_ := Aside0.mk (Kd.R_at hq_ HL246_0.out); have n7_ := Aside0.mk (blk_at hq_ BK238.out); have n8_ := Aside0.mk (below_at hq_ HB.out); clear hq_ HO_4 HO_9 HO_10 HO_55 HO_97 HL245_0 HL246_0 BK238 HB; have HO_4 := n0_; have HO_9 := n1_; have HO_10 := n2_; have HO_55 := n3_; have HO_97 := n4_; have HL245_0 := n5_; have HL246_0 := n6_; have BK238 := n7_; have HB := n8_; clear n0_ n1_ n2_ n3_ n4_ n5_ n6_ n7_ n8_; (try (have HP78 := Kd.R_putg HO_10.out (((rd_T42 t231 x57_2).f1) : Int) (wrap64 ((rd x10_2 ((rd_T42 t231 x57_2).f1)) + 1)))))); refine store_event (t := 3) (p := 166) (v := ?vo_w79) (w1 := (wr.setCell ⟨go75, (((rd_T42 t231 x57_2).f1) : Int).toNat, none⟩ (.int .i64 (wrap64 ((rd x10_2 ((rd_T42 t231 x57_2).f1)) + 1))))) ?hg ?ho ?hn ?hr ?_; (case ho => rfl); (case hg => rfl); (case hn => rfl); (case hr => first | (go_simp; done) | (go_simp; rfl)); intro w79 hw; have hg : wr.grownBy w79 (some go75) := (by rw [hw]; exact HP78.2); have hp_ : Kd.R (Kd.int .i64) 3 w79 w.heap.size (fun _ => True) (.slice (some ⟨go75, 0, none⟩) x10_2.length co77) y250 := (by rw [hw, Ny250.out]; exact HP78.1); clear HP78; have n0_ := Aside0.mk (Kd.S_over' (v := (.slice (some ⟨go75, 0, none⟩) x10_2.length co77)) (by (with_reducible repeat (first | apply Kd.S_alloc | apply Kd.S_drewN | apply Kd.S_drew)); exact HO_4.out) (Kd.R_typed HO_10.out) (by decide) hg); have n1_ := Aside0.mk (Kd.R_over' (v := (.slice (some ⟨go75, 0, none⟩) x10_2.length co77)) (by (with_reducible repeat (first | apply Kd.R_alloc | apply Kd.R_drewN | apply Kd.R_drew)); exact HO_9.out) (Kd.R_typed HO_10.out) (by decide) hg); have n2_ := Aside0.mk (hp_); have n3_ := Aside0.mk (Kd.R_over' (v := (.slice (some ⟨go75, 0, none⟩) x10_2.length co77)) (by (with_reducible repeat (first | apply Kd.R_alloc | apply Kd.R_drewN | apply Kd.R_drew)); exact HO_55.out) (Kd.R_typed HO_10.out) (by decide) hg); have n4_ := Aside0.mk (Kd.S_over' (v := (.slice (some ⟨go75, 0, none⟩) x10_2.length co77)) (by (with_reducible repeat (first | apply Kd.S_alloc | apply Kd.S_drewN | apply Kd.S_drew)); exact HO_97.out) (Kd.R_typed HO_10.out) (by decide) hg); have n5_ := Aside0.mk (blk_grown (g := gb238) (o := .cells #[.int .i64 ((rd_T42 t231 x57_2).f0), .int .i64 ((rd_T42 t231 x57_2).f1), .int .i64 ((rd_T42 t231 x57_2).f2), .int .i64 ((rd_T42 t231 x57_2).f3)] 42 (0, 0)) (by (with_reducible repeat (first | refine blk_drewN ?_ _ | refine blk_drew ?_ | refine blk_alloc ?_ _)); exact BK238.out) hg (Kd.R_ne HO_10.out BK238.out (by decide))); have n6_ := Aside0.mk (Kd.R_over' (v := (.slice (some ⟨go75, 0, none⟩) x10_2.length co77)) (by (with_reducible repeat (first | apply Kd.R_alloc | apply Kd.R_drewN | apply Kd.R_drew)); exact HL245_0.out) (Kd.R_typed HO_10.out) (by decide) hg); have n7_ := Aside0.mk (Kd.R_over' (v := (.slice (some ⟨go75, 0, none⟩) x10_2.length co77)) (by (with_reducible repeat (first | apply Kd.R_alloc | apply Kd.R_drewN | apply Kd.R_drew)); exact HL246_0.out) (Kd.R_typed HO_10.out) (by decide) hg); have n8_ := Aside0.mk ((by rw [hw]; exact below_set (HB.out) GB75.out : Below w.heap.size w w79)); clear HO_4; clear HO_9; clear HO_10; clear HO_55; clear HO_97; clear BK238; clear HL245_0; clear HL246_0; clear HB; have HO_4 := n0_; have HO_9 := n1_; have HO_10 := n2_; have HO_55 := n3_; have HO_97 := n4_; have BK238 := n5_; have HL245_0 := n6_; have HL246_0 := n7_; have HB := n8_; clear n0_ n1_ n2_ n3_ n4_ n5_ n6_ n7_ n8_; clear hg hw hp_))
                              repeat (go_quiet (fail); try go_wp2_with (first | ((with_reducible refine gate_store (t := 3) (p := 166) rfl ?_); (try (rw [drewN_self wr]; generalize hq_ : World.drewN wr _ = wr; have n0_ := Aside0.mk (Kd.S_at hq_ HO_4.out); have n1_ := Aside0.mk (Kd.R_at hq_ HO_9.out); have n2_ := Aside0.mk (Kd.R_at hq_ HO_10.out); have n3_ := Aside0.mk (Kd.R_at hq_ HO_55.out); have n4_ := Aside0.mk (Kd.S_at hq_ HO_97.out); have n5_ := Aside0.mk (Kd.R_at hq_ HL245_0.out); have n6_ := Aside0.mk (Kd.R_at hq_ HL246_0.out); have n7_ := Aside0.mk (blk_at hq_ BK238.out); have n8_ := Aside0.mk (below_at hq_ HB.out); clear hq_ HO_4 HO_9 HO_10 HO_55 HO_97 HL245_0 HL246_0 BK238 HB; have HO_4 := n0_; have HO_9 := n1_; have HO_10 := n2_; have HO_55 := n3_; have HO_97 := n4_; have HL245_0 := n5_; have HL246_0 := n6_; have BK238 := n7_; have HB := n8_; clear n0_ n1_ n2_ n3_ n4_ n5_ n6_ n7_ n8_; (try (have HP78 := Kd.R_putg HO_10.out (((rd_T42 t231 x57_2).f1) : Int) (wrap64 ((rd x10_2 ((rd_T42 t231 x57_2).f1)) + 1)))))); refine store_event (t := 3) (p := 166) (v := ?vo_w79) (w1 := (wr.setCell ⟨go75, (((rd_T42 t231 x57_2).f1) : Int).toNat, none⟩ (.int .i64 (wrap64 ((rd x10_2 ((rd_T42 t231 x57_2).f1)) + 1))))) ?hg ?ho ?hn ?hr ?_; (case ho => rfl); (case hg => rfl); (case hn => rfl); (case hr => first | (go_simp; done) | (go_simp; rfl)); intro w79 hw; have hg : wr.grownBy w79 (some go75) := (by rw [hw]; exact HP78.2); have hp_ : Kd.R (Kd.int .i64) 3 w79 w.heap.size (fun _ => True) (.slice (some ⟨go75, 0, none⟩) x10_2.length co77) y250 := (by rw [hw, Ny250.out]; exact HP78.1); clear HP78; have n0_ := Aside0.mk (Kd.S_over' (v := (.slice (some ⟨go75, 0, none⟩) x10_2.length co77)) (by (with_reducible repeat (first | apply Kd.S_alloc | apply Kd.S_drewN | apply Kd.S_drew)); exact HO_4.out) (Kd.R_typed HO_10.out) (by decide) hg); have n1_ := Aside0.mk (Kd.R_over' (v := (.slice (some ⟨go75, 0, none⟩) x10_2.length co77)) (by (with_reducible repeat (first | apply Kd.R_alloc | apply Kd.R_drewN | apply Kd.R_drew)); exact HO_9.out) (Kd.R_typed HO_10.out) (by decide) hg); have n2_ := Aside0.mk (hp_); have n3_ := Aside0.mk (Kd.R_over' (v := (.slice (some ⟨go75, 0, none⟩) x10_2.length co77)) (by (with_reducible repeat (first | apply Kd.R_alloc | apply Kd.R_drewN | apply Kd.R_drew)); exact HO_55.out) (Kd.R_typed HO_10.out) (by decide) hg); have n4_ := Aside0.mk (Kd.S_over' (v := (.slice (some ⟨go75, 0, none⟩) x10_2.length co77)) (by (with_reducible repeat (first | apply Kd.S_alloc | apply Kd.S_drewN | apply Kd.S_drew)); exact HO_97.out) (Kd.R_typed HO_10.out) (by decide) hg); have n5_ := Aside0.mk (blk_grown (g := gb238) (o := .cells #[.int .i64 ((rd_T42 t231 x57_2).f0), .int .i64 ((rd_T42 t231 x57_2).f1), .int .i64 ((rd_T42 t231 x57_2).f2), .int .i64 ((rd_T42 t231 x57_2).f3)] 42 (0, 0)) (by (with_reducible repeat (first | refine blk_drewN ?_ _ | refine blk_drew ?_ | refine blk_alloc ?_ _)); exact BK238.out) hg (Kd.R_ne HO_10.out BK238.out (by decide))); have n6_ := Aside0.mk (Kd.R_over' (v := (.slice (some ⟨go75, 0, none⟩) x10_2.length co77)) (by (with_reducible repeat (first | apply Kd.R_alloc | apply Kd.R_drewN | apply Kd.R_drew)); exact HL245_0.out) (Kd.R_typed HO_10.out) (by decide) hg); have n7_ := Aside0.mk (Kd.R_over' (v := (.slice (some ⟨go75, 0, none⟩) x10_2.length co77)) (by (with_reducible repeat (first | apply Kd.R_alloc | apply Kd.R_drewN | apply Kd.R_drew)); exact HL246_0.out) (Kd.R_typed HO_10.out) (by decide) hg); have n8_ := Aside0.mk ((by rw [hw]; exact below_set (HB.out) GB75.out : Below w.heap.size w w79)); clear HO_4; clear HO_9; clear HO_10; clear HO_55; clear HO_97; clear BK238; clear HL245_0; clear HL246_0; clear HB; have HO_4 := n0_; have HO_9 := n1_; have HO_10 := n2_; have HO_55 := n3_; have HO_97 := n4_; have BK238 := n5_; have HL245_0 := n6_; have HL246_0 := n7_; have HB := n8_; clear n0_ n1_ n2_ n3_ n4_ n5_ n6_ n7_ n8_; clear hg hw hp_)))
                              have hgX_ : wr.grownBy (wr.setCell ⟨go75, (((rd_T42 t231 x57_2).f1) : Int).toNat, none⟩ (.int .i64 (wrap64 ((rd x10_2 ((rd_T42 t231 x57_2).f1)) + 1)))) (some go75) := HP78.2
                              have m4_ := Aside0.mk (Kd.S_over' (v := (.slice (some ⟨go75, 0, none⟩) x10_2.length co77)) HO_4.out (Kd.R_typed HO_10.out) (by decide) hgX_)
                              have m9_ := Aside0.mk (Kd.R_over' (v := (.slice (some ⟨go75, 0, none⟩) x10_2.length co77)) HO_9.out (Kd.R_typed HO_10.out) (by decide) hgX_)
                              have m55_ := Aside0.mk (Kd.R_over' (v := (.slice (some ⟨go75, 0, none⟩) x10_2.length co77)) HO_55.out (Kd.R_typed HO_10.out) (by decide) hgX_)
                              have m10_ := Aside0.mk (show Kd.R (Kd.int .i64) 3 (wr.setCell ⟨go75, (((rd_T42 t231 x57_2).f1) : Int).toNat, none⟩ (.int .i64 (wrap64 ((rd x10_2 ((rd_T42 t231 x57_2).f1)) + 1)))) w.heap.size (fun _ => True) (.slice (some ⟨go75, 0, none⟩) x10_2.length co77) y250 from by rw [Ny250.out]; exact HP78.1)
                              have mB_ := Aside0.mk (below_set (j := (((rd_T42 t231 x57_2).f1) : Int).toNat) (v := (.int .i64 (wrap64 ((rd x10_2 ((rd_T42 t231 x57_2).f1)) + 1)))) HB.out GB75.out)
                              clear hgX_ HP78
                              go_roundg k4
                              case measure => have := HK1.out; have := HK2.out; have := HJ35.out; have := HK4.out; omega
                              case rel => exact ⟨(y250), (wrap64 (x57_2 + 1)), (by first | rfl | (simp; done) | (simp [*]; done)), H', ⟨by have := HK1.out; have := HK2.out; have := HJ35.out; have := HK4.out; omega⟩, ⟨Kd.S_mono (Kd.S_drewN m4_.out _) (fun _ hk => ⟨hk.1, hk.2.1⟩)⟩, ⟨Kd.R_mono (Kd.R_drewN m9_.out _) (fun _ hk => trivial)⟩, ⟨Kd.R_drewN m10_.out _⟩, ⟨Kd.R_mono (Kd.R_drewN m55_.out _) (fun _ hk => trivial)⟩, ⟨pw_below_drewN mB_.out _⟩⟩
                            ·rw [if_neg c71] at H
                             exact absurd H (by simp)
                           ·rw [if_neg c70] at H
                            exact absurd H (by simp)
                         ·rw [if_neg c66] at H
                          exact absurd H (by simp)
                        ·rw [if_neg c65] at H
                         exact absurd H (by simp)
                       ·rw [if_neg c64] at H
                        exact absurd H (by simp)
                      ·rw [if_neg c63] at H
                       exact absurd H (by simp)
            ·rw [if_neg c35] at H
             exact absurd H (by simp)
           ·rw [if_neg c34] at H
            exact absurd H (by simp)
          ·rw [if_neg c33] at H
           have c33b0 : decide (x57_2 < (t231.length : Int)) = false := decide_eq_false c33
           clear c33
           have H' := Aside0.mk H
           clear H
           go_wp2
           repeat (go_quiet (fail); try go_wp2)
           go_loopg [16, 17] k2 (fun kq v16 v17 w' => ∃ (x16_3 : Int) (x17_3 : Int), v16 = .int .i64 x16_3 ∧ v17 = .int .i64 x17_3 ∧ Aside0 (storagebarterlaw28_DutyAll.l3 kq x5_1 t231 x16_3 x17_3 = some r) ∧ Aside0 (kq ≤ k2) ∧ Aside0 (Kd.R k42 42 w' w.heap.size (fun _ => True) (.slice Ao30 t231.length co30) t231) ∧ Aside0 (Below w.heap.size w w'))
           case atStart => exact ⟨(0), (1), (by first | rfl | (simp; done) | (simp [*]; done)), (by first | rfl | (simp; done) | (simp [*]; done)), H', ⟨Nat.le_refl _⟩, ⟨by (with_reducible repeat (first | apply Kd.R_alloc | apply Kd.R_drewN | apply Kd.R_drew)); exact HO_9.out⟩, ⟨by repeat (first | (with_reducible first | exact HB.out | apply below_alloc | apply pw_below_drewN | apply below_drew1) | exact HB.out)⟩⟩
           case round =>
            clear H'
            try clear c2
            try clear p2
            try clear q2
            try clear hx2
            try clear qi2
            try clear c3
            try clear c4
            try clear c5
            try clear c6
            try clear p6
            try clear c7
            try clear p7
            try clear q7
            try clear hx7
            try clear hf7
            try clear p23
            try clear q23
            try clear hx23
            try clear c24
            try clear p24
            try clear q24
            try clear hx24
            try clear qi24
            try clear c26
            try clear c26b0
            try clear c26b1
            try clear c27
            try clear c27b0
            try clear c27b1
            try clear c33
            try clear c33b0
            try clear c34
            try clear c34b0
            try clear c35
            try clear c35b0
            try clear c39
            try clear c39b0
            try clear c41
            try clear c41b0
            try clear c42
            try clear c42b0
            try clear c43
            try clear c43b0
            try clear c45
            try clear c45b0
            try clear c45b1
            try clear c48
            try clear c49
            try clear c49b0
            try clear c50
            try clear c50b0
            try clear c51
            try clear c51b0
            try clear c52
            try clear c52b0
            try clear c52b1
            try clear c53
            try clear c53b0
            try clear c53b1
            try clear c54
            try clear c54b0
            try clear c54b1
            try clear c57
            try clear c57b0
            try clear c58
            try clear c58b0
            try clear c60
            try clear c60b0
            try clear c63
            try clear c63b0
            try clear c64
            try clear c64b0
            try clear p64
            try clear c65
            try clear c65b0
            try clear c66
            try clear c66b0
            try clear c67
            try clear c67b0
            try clear c70
            try clear c70b0
            try clear c71
            try clear c71b0
            try clear c72
            try clear c72b0
            try clear p75
            try clear q75
            try clear hx75
            try clear hf75
            try clear hcz38_0
            try clear hcz38_1
            try clear hcz38_2
            try clear hcz38_3
            try clear hcz44_0
            try clear hcz44_1
            try clear hcz44_2
            try clear hcz44_3
            try clear hcz46_0
            try clear hcz46_1
            try clear hcz46_2
            try clear hcz46_3
            try clear hcz47_0
            try clear hcz47_1
            try clear hcz47_2
            try clear hcz47_3
            try clear hcz55_0
            try clear hcz55_1
            try clear hcz55_2
            try clear hcz55_3
            try clear hcz56_0
            try clear hcz56_1
            try clear hcz56_2
            try clear hcz56_3
            try clear hcz59_0
            try clear hcz59_1
            try clear hcz59_2
            try clear hcz59_3
            try clear hcz61_0
            try clear hcz61_1
            try clear hcz61_2
            try clear hcz61_3
            try clear hcz68_0
            try clear hcz68_1
            try clear hcz68_2
            try clear hcz68_3
            try clear hcz73_0
            try clear hcz73_1
            try clear hcz73_2
            try clear hcz73_3
            try clear hcz76_0
            try clear hcz76_1
            try clear hcz76_2
            try clear hcz76_3
            try clear hfz38_0
            try clear hfz38_1
            try clear hfz38_2
            try clear hfz38_3
            try clear hfz44_0
            try clear hfz44_1
            try clear hfz44_2
            try clear hfz44_3
            try clear hfz46_0
            try clear hfz46_1
            try clear hfz46_2
            try clear hfz46_3
            try clear hfz47_0
            try clear hfz47_1
            try clear hfz47_2
            try clear hfz47_3
            try clear hfz55_0
            try clear hfz55_1
            try clear hfz55_2
            try clear hfz55_3
            try clear hfz56_0
            try clear hfz56_1
            try clear hfz56_2
            try clear hfz56_3
            try clear hfz59_0
            try clear hfz59_1
            try clear hfz59_2
            try clear hfz59_3
            try clear hfz61_0
            try clear hfz61_1
            try clear hfz61_2
            try clear hfz61_3
            try clear hfz68_0
            try clear hfz68_1
            try clear hfz68_2
            try clear hfz68_3
            try clear hfz73_0
            try clear hfz73_1
            try clear hfz73_2
            try clear hfz73_3
            try clear hfz76_0
            try clear hfz76_1
            try clear hfz76_2
            try clear hfz76_3
            try clear hx237_0
            try clear hx237_1
            try clear hx237_2
            try clear hx237_3
            try clear hx239_0
            try clear hx239_1
            try clear hx239_2
            try clear hx239_3
            try clear hx240_0
            try clear hx240_1
            try clear hx240_2
            try clear hx240_3
            try clear hx241_0
            try clear hx241_1
            try clear hx241_2
            try clear hx241_3
            try clear hx242_0
            try clear hx243_0
            try clear hx243_1
            try clear hx243_2
            try clear hx243_3
            try clear hx244_0
            try clear hx245_0
            try clear hx246_0
            try clear hx247_0
            try clear hx248_0
            try clear hx248_1
            try clear hx248_2
            try clear hx248_3
            try clear hx249_0
            try clear hx75_0
            try clear p2
            try clear p23
            try clear p237
            try clear p239
            try clear p24
            try clear p240
            try clear p241
            try clear p242
            try clear p243
            try clear p244
            try clear p245
            try clear p246
            try clear p247
            try clear p248
            try clear p249
            try clear p6
            try clear p75
            try clear q2
            try clear q23
            try clear q237
            try clear q239
            try clear q24
            try clear q240
            try clear q241
            try clear q242
            try clear q243
            try clear q244
            try clear q245
            try clear q246
            try clear q247
            try clear q248
            try clear q249
            try clear q75
            obtain ⟨x16_3, x17_3, rfl, rfl, HA, HK3, HO_9, HB⟩ := hrel
            cases gk with
            | zero => exact absurd HA.out (by simp [storagebarterlaw28_DutyAll.l3])
            | succ k3 =>
             have H := HA.out
             clear HA
             simp only [storagebarterlaw28_DutyAll.l3] at H
             by_cases c80 : x17_3 ≤ 4
             ·rw [if_pos c80] at H
              have c80b0 : decide (x17_3 ≤ 4) = true := decide_eq_true c80
              clear c80
              replace H := Option.bind_eq_some_iff.mp H
              obtain ⟨t251, A810, H⟩ := H
              replace H : (storagebarterlaw28_DutyAll.l3 k3 x5_1 t231 (wrap64 (x16_3 + (t251.length : Int))) (wrap64 (x17_3 + 1))) = some r := H
              have A81 := Aside0.mk A810
              clear A810
              have H' := Aside0.mk H
              clear H
              go_wp2_with (first | (go_at_call 14; (with_reducible refine (duty_Of.calls k3 _ _ t231 x17_3 t251 _ ?side1 ?side2 A81.out).mono ?_); (case side1 => repeat (first | exact (Kd.R_reads' HO_9.out).2.2 | (with_reducible refine Kd.C_alloc ?_ _) | (with_reducible refine Kd.C_drewN ?_ _) | (with_reducible refine Kd.C_drew ?_))); (case side2 => exact (Kd.R_reads' HO_9.out).2.1); rintro e w82 ⟨v252, rfl, ho0, hb⟩; have n0_ := Aside0.mk (Kd.R_below (by (with_reducible repeat (first | apply Kd.R_alloc | apply Kd.R_drewN | apply Kd.R_drew)); exact HO_9.out) hb); have n1_ := Aside0.mk (Kd.R_lower ho0 (below_size (by repeat (first | (with_reducible first | exact HB.out | apply below_alloc | apply pw_below_drewN | apply below_drew1) | exact HB.out)))); have n2_ := Aside0.mk (below_step (by repeat (first | (with_reducible first | exact HB.out | apply below_alloc | apply pw_below_drewN | apply below_drew1) | exact HB.out)) hb); clear HO_9; clear HB; have HO_9 := n0_; have HO253 := n1_; have HB := n2_; clear n0_ n1_ n2_; (try clear hb); (try clear hb2); (try clear hk); (try clear hi); (try clear ho0); obtain ⟨Ao83, co83, eo83⟩ := Kd.R_slice HO253.out; subst eo83))
              repeat (go_quiet (fail); try go_wp2_with (first | (go_at_call 14; (with_reducible refine (duty_Of.calls k3 _ _ t231 x17_3 t251 _ ?side1 ?side2 A81.out).mono ?_); (case side1 => repeat (first | exact (Kd.R_reads' HO_9.out).2.2 | (with_reducible refine Kd.C_alloc ?_ _) | (with_reducible refine Kd.C_drewN ?_ _) | (with_reducible refine Kd.C_drew ?_))); (case side2 => exact (Kd.R_reads' HO_9.out).2.1); rintro e w82 ⟨v252, rfl, ho0, hb⟩; have n0_ := Aside0.mk (Kd.R_below (by (with_reducible repeat (first | apply Kd.R_alloc | apply Kd.R_drewN | apply Kd.R_drew)); exact HO_9.out) hb); have n1_ := Aside0.mk (Kd.R_lower ho0 (below_size (by repeat (first | (with_reducible first | exact HB.out | apply below_alloc | apply pw_below_drewN | apply below_drew1) | exact HB.out)))); have n2_ := Aside0.mk (below_step (by repeat (first | (with_reducible first | exact HB.out | apply below_alloc | apply pw_below_drewN | apply below_drew1) | exact HB.out)) hb); clear HO_9; clear HB; have HO_9 := n0_; have HO253 := n1_; have HB := n2_; clear n0_ n1_ n2_; (try clear hb); (try clear hb2); (try clear hk); (try clear hi); (try clear ho0); obtain ⟨Ao83, co83, eo83⟩ := Kd.R_slice HO253.out; subst eo83)))
              go_roundg k3
              case measure => have := HK1.out; have := HK2.out; have := HK3.out; omega
              case rel => exact ⟨(wrap64 (x16_3 + (t251.length : Int))), (wrap64 (x17_3 + 1)), (by first | rfl | (simp; done) | (simp [*]; done)), (by first | rfl | (simp; done) | (simp [*]; done)), H', ⟨by have := HK1.out; have := HK2.out; have := HK3.out; omega⟩, ⟨by (with_reducible repeat (first | apply Kd.R_alloc | apply Kd.R_drewN | apply Kd.R_drew)); exact HO_9.out⟩, ⟨by repeat (first | (with_reducible first | exact HB.out | apply below_alloc | apply pw_below_drewN | apply below_drew1) | exact HB.out)⟩⟩
             ·rw [if_neg c80] at H
              have c80b0 : decide (x17_3 ≤ 4) = false := decide_eq_false c80
              clear c80
              obtain rfl := Option.some.inj H
              go_wp2
              repeat (go_quiet (fail); try go_wp2)
              go_ret
              exact ⟨by first | rfl | (simp [errW_none, errW_some] <;> rfl) | (simp [*, errW_none, errW_some] <;> rfl), by repeat (first | (with_reducible first | exact HB.out | apply below_alloc | apply pw_below_drewN | apply below_drew1) | exact HB.out)⟩
       ·rw [if_neg c27] at H
        exact absurd H (by simp)
      ·rw [if_neg c26] at H
       have c26b0 : ((t231.length : Int) == x5_1) = false := beq_eq_false_iff_ne.mpr c26
       have c26b1 : ((t231.length : Int) != x5_1) = true := bne_iff_ne.mpr c26
       obtain rfl := Option.some.inj H
       obtain ⟨Ao84, co84, eo84⟩ := Kd.S_slice HO_4.out
       subst eo84
       go_wp2_with (first | (go_at_call 10; (with_reducible refine (duty_Merge.calls k1 _ _ x4_1 t231 _ ?side1 ?side2 A25.out).mono ?_); (case side1 => repeat (first | exact (Kd.S_reads' HO_4.out).2.2 | (with_reducible refine Kd.C_alloc ?_ _) | (with_reducible refine Kd.C_drewN ?_ _) | (with_reducible refine Kd.C_drew ?_))); (case side2 => exact (Kd.S_reads' HO_4.out).2.1); rintro e w85 ⟨v232, rfl, ho0, hb⟩; have n0_ := Aside0.mk (Kd.S_elder' (by (with_reducible repeat (first | apply Kd.S_alloc | apply Kd.S_drewN | apply Kd.S_drew)); exact HO_4.out) (Kd.R_base ho0) hb); have n1_ := Aside0.mk (Kd.R_lower ho0 (below_size (by repeat (first | (with_reducible first | exact HB.out | apply below_alloc | apply pw_below_drewN | apply below_drew1 | refine below_set ?_ (IsS46.ge HI211.out)) | exact HB.out)))); have n2_ := Aside0.mk (IsS46.below (by repeat (first | (with_reducible first | exact HI211.out | apply IsS46.alloc | apply IsS46.drewN | apply IsS46.drew | apply IsS46.set_1) | exact HI211.out)) hb); have n3_ := Aside0.mk (below_step (by repeat (first | (with_reducible first | exact HB.out | apply below_alloc | apply pw_below_drewN | apply below_drew1 | refine below_set ?_ (IsS46.ge HI211.out)) | exact HB.out)) hb); clear HO_4; clear HI211; clear HB; have HO_4 := n0_; have HO233 := n1_; have HI211 := n2_; have HB := n3_; clear n0_ n1_ n2_ n3_; (try clear hb); (try clear hb2); (try clear hk); (try clear hi); (try clear ho0); obtain ⟨Ao86, co86, eo86⟩ := Kd.R_slice HO233.out; subst eo86))
       repeat (go_quiet (fail); try go_wp2_with (first | (go_at_call 10; (with_reducible refine (duty_Merge.calls k1 _ _ x4_1 t231 _ ?side1 ?side2 A25.out).mono ?_); (case side1 => repeat (first | exact (Kd.S_reads' HO_4.out).2.2 | (with_reducible refine Kd.C_alloc ?_ _) | (with_reducible refine Kd.C_drewN ?_ _) | (with_reducible refine Kd.C_drew ?_))); (case side2 => exact (Kd.S_reads' HO_4.out).2.1); rintro e w85 ⟨v232, rfl, ho0, hb⟩; have n0_ := Aside0.mk (Kd.S_elder' (by (with_reducible repeat (first | apply Kd.S_alloc | apply Kd.S_drewN | apply Kd.S_drew)); exact HO_4.out) (Kd.R_base ho0) hb); have n1_ := Aside0.mk (Kd.R_lower ho0 (below_size (by repeat (first | (with_reducible first | exact HB.out | apply below_alloc | apply pw_below_drewN | apply below_drew1 | refine below_set ?_ (IsS46.ge HI211.out)) | exact HB.out)))); have n2_ := Aside0.mk (IsS46.below (by repeat (first | (with_reducible first | exact HI211.out | apply IsS46.alloc | apply IsS46.drewN | apply IsS46.drew | apply IsS46.set_1) | exact HI211.out)) hb); have n3_ := Aside0.mk (below_step (by repeat (first | (with_reducible first | exact HB.out | apply below_alloc | apply pw_below_drewN | apply below_drew1 | refine below_set ?_ (IsS46.ge HI211.out)) | exact HB.out)) hb); clear HO_4; clear HI211; clear HB; have HO_4 := n0_; have HO233 := n1_; have HI211 := n2_; have HB := n3_; clear n0_ n1_ n2_ n3_; (try clear hb); (try clear hb2); (try clear hk); (try clear hi); (try clear ho0); obtain ⟨Ao86, co86, eo86⟩ := Kd.R_slice HO233.out; subst eo86)))
       go_ret
       exact ⟨by first | rfl | (simp [errW_none, errW_some] <;> rfl) | (simp [*, errW_none, errW_some] <;> rfl), by repeat (first | (with_reducible first | exact HB.out | apply below_alloc | apply pw_below_drewN | apply below_drew1 | refine below_set ?_ (IsS46.ge HI211.out)) | exact HB.out)⟩
  ·replace c3 := Bool.eq_false_iff.mpr c3
   subst c3
   have H1 : (some false) = some r := by rw [if_neg (show ¬ (false = true) by decide)] at H; exact H
   clear H
   have H := H1
   clear H1
   obtain rfl := Option.some.inj H
   go_enter Tryd.func4, Tryd.ntmps4
   go_wp2_with (first | (go_at_call 5; (with_reducible refine (storagebarterlaw28_sane.calls k  false _ ?side1 A2.out).mono ?_); (case side1 => exact GOK.below HGOK.out (by repeat (first | (with_reducible first | exact HB.out | apply below_alloc | apply pw_below_drewN | apply below_drew1) | exact HB.out))); rintro e w87 ⟨rfl, hb⟩; have n0_ := Aside0.mk (below_step (by repeat (first | (with_reducible first | exact HB.out | apply below_alloc | apply pw_below_drewN | apply below_drew1) | exact HB.out)) hb); clear HB; have HB := n0_; clear n0_; (try clear hb); (try clear hb2); (try clear hk); (try clear hi)))
   repeat (go_quiet (fail); try go_wp2_with (first | (go_at_call 5; (with_reducible refine (storagebarterlaw28_sane.calls k  false _ ?side1 A2.out).mono ?_); (case side1 => exact GOK.below HGOK.out (by repeat (first | (with_reducible first | exact HB.out | apply below_alloc | apply pw_below_drewN | apply below_drew1) | exact HB.out))); rintro e w87 ⟨rfl, hb⟩; have n0_ := Aside0.mk (below_step (by repeat (first | (with_reducible first | exact HB.out | apply below_alloc | apply pw_below_drewN | apply below_drew1) | exact HB.out)) hb); clear HB; have HB := n0_; clear n0_; (try clear hb); (try clear hb2); (try clear hk); (try clear hi))))
   go_ret
   exact ⟨by first | rfl | (simp [errW_none, errW_some] <;> rfl) | (simp [*, errW_none, errW_some] <;> rfl), by repeat (first | (with_reducible first | exact HB.out | apply below_alloc | apply pw_below_drewN | apply below_drew1) | exact HB.out)⟩

/-- THE ONE PURE STATEMENT of storagebarterlaw28_DutyAll: yours. -/
def storagebarterlaw28_DutyAll.Pure : Prop := ∀ (l0 : List Int), l0.length ≤ maxLen → l0.length * 1 ≤ 140737488351232 → (∀ x ∈ l0, (Lit.int .u8 x).wf = true) → ∃ k, storagebarterlaw28_DutyAll.f k l0 = some true
theorem storagebarterlaw28_DutyAll.walk (P : storagebarterlaw28_DutyAll.Pure) (a0 : Option Addr) (len0 cap0 : Nat) (z0 : List Int) (w : World) (w0 : (a0 = none ∧ len0 = 0 ∧ cap0 = 0 ∧ z0 = []) ∨ ∃ x, a0 = some x ∧ len0 ≤ cap0 ∧ cap0 ≤ maxLen ∧ z0.length = cap0 ∧ (∀ i, i < z0.length → w.cell? (x.add i) = some (.int .u8 (z0.getD i 0))) ∧ ∀ n ∈ z0, (Lit.int .u8 n).wf = true) (y0 : len0 * 1 ≤ 140737488351232) (hG : GOK w) :
    Calls Tryd.prog 4 #[.slice a0 len0 cap0] w fun e w' => e = .returned (.bool true) ∧ Below w.heap.size w w' := by
  obtain ⟨l0, rfl, hr0, hm0, hw0, hc0⟩ := ReadsInt.ofRowC w0
  obtain ⟨k, h⟩ := P l0 hm0 y0 hw0
  refine (storagebarterlaw28_DutyAll.calls k _ _ l0 true w (Kd.C_of_reads (d := (0 : Int)) (h1 := fun _ => rfl) hr0) hc0 hG h).mono ?_
  rintro e w' ⟨rfl, hd⟩
  exact ⟨rfl, hd⟩

end Go.Proofs.YtccchkjbcokfnaaDoor.PDutyAll
