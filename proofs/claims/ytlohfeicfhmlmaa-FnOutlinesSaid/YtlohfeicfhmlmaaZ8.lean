/- A part of the proof that the law answers true for every input; this part bears lemmas that hold with no condition beyond those that each of them names. -/
import Derived.Maps.OwnSet
import Derived.Maps.Views
import Derived.DeepKeys4
import Derived.Test.YtlohfeicfhmlmaaZ7
set_option linter.unusedVariables false
set_option linter.unusedSimpArgs false
namespace Go.Proofs.Ytlohfeicfhmlmaa.PFnOutlines
open Go.RowKit Go.Proofs.YtlohfeicfhmlmaaW.PrintWords Go.Proofs.YtlohfeicfhmlmaaW.PrintLast Go.Proofs.YtlohfeicfhmlmaaW.PrintMore
attribute [local go_sem] max2_int min2_int max_two min_two max_three min_three max_four min_four   -- for this text's walks alone
set_option linter.unusedVariables false
set_option linter.unusedSimpArgs false
mutual
def spec_HolesOf.l0 : Nat → Int → Int → List (S41) → List (S41) → Int → Int → Option (Int)
  | 0, _, _, _, _, _, _ => none
  | k + 1, x3, x4, x5, x6, x7, x8 => if x8 < x4 then (spec_HolesOf.l1 k x3 x4 x5 x6 x7 x8 0) else (some x7)
def spec_HolesOf.l1 : Nat → Int → Int → List (S41) → List (S41) → Int → Int → Int → Option (Int)
  | 0, _, _, _, _, _, _, _ => none
  | k + 1, x3, x4, x5, x6, x7, x8, x9 => if x9 < x3 then ((spec_HasCell.f x5 x9 x8).bind fun t332 => (if t332 = true then (spec_HolesOf.j2 k x3 x4 x5 x6 x7 x8 x9 true) else ((spec_HasCell.f x6 x9 x8).bind fun t333 => (spec_HolesOf.j2 k x3 x4 x5 x6 x7 x8 x9 t333)))) else (spec_HolesOf.l0 k x3 x4 x5 x6 x7 (wrap64 (x8 + 1)))
def spec_HolesOf.j2 : Nat → Int → Int → List (S41) → List (S41) → Int → Int → Int → Bool → Option (Int)
  | 0, _, _, _, _, _, _, _, _ => none
  | k + 1, x3, x4, x5, x6, x7, x8, x9, x46 => if x46 = true then (spec_HolesOf.l1 k x3 x4 x5 x6 x7 x8 (wrap64 (x9 + 1))) else (if x6.length < 8796093022208 then (spec_HolesOf.l2 k x3 x4 x5 (x6 ++ [(⟨x9, x8⟩ : S41)]) (wrap64 (x7 + 1)) x8 x9 (x6.length : Int)) else (none))
def spec_HolesOf.l2 : Nat → Int → Int → List (S41) → List (S41) → Int → Int → Int → Int → Option (Int)
  | 0, _, _, _, _, _, _, _, _ => none
  | k + 1, x3, x4, x5, x6, x7, x8, x9, x11 => if x11 < (x6.length : Int) then (spec_HolesOf.l3 k x3 x4 x5 x6 x7 x8 x9 x11 0) else (spec_HolesOf.l1 k x3 x4 x5 x6 x7 x8 (wrap64 (x9 + 1)))
def spec_HolesOf.l3 : Nat → Int → Int → List (S41) → List (S41) → Int → Int → Int → Int → Int → Option (Int)
  | 0, _, _, _, _, _, _, _, _, _ => none
  | k + 1, x3, x4, x5, x6, x7, x8, x9, x11, x12 => if x12 < 4 then (if 0 ≤ x11 then (if x11 < (x6.length : Int) then ((spec_HasCell.f x5 (wrap64 (((rd_T41 x6 x11).f0) + (Int.tmod (wrap64 (1 - x12)) 2))) (wrap64 (((rd_T41 x6 x11).f1) + (Int.tmod (wrap64 (2 - x12)) 2)))).bind fun t339 => (if t339 = true then (spec_HolesOf.l3 k x3 x4 x5 x6 x7 x8 x9 x11 (wrap64 (x12 + 1))) else ((spec_HasCell.f x6 (wrap64 (((rd_T41 x6 x11).f0) + (Int.tmod (wrap64 (1 - x12)) 2))) (wrap64 (((rd_T41 x6 x11).f1) + (Int.tmod (wrap64 (2 - x12)) 2)))).bind fun t340 => (if t340 = true then (spec_HolesOf.l3 k x3 x4 x5 x6 x7 x8 x9 x11 (wrap64 (x12 + 1))) else (if x6.length < 8796093022208 then (spec_HolesOf.l3 k x3 x4 x5 (x6 ++ [(⟨wrap64 (((rd_T41 x6 x11).f0) + (Int.tmod (wrap64 (1 - x12)) 2)), wrap64 (((rd_T41 x6 x11).f1) + (Int.tmod (wrap64 (2 - x12)) 2))⟩ : S41)]) x7 x8 x9 x11 (wrap64 (x12 + 1))) else (none)))))) else (none)) else (none)) else (spec_HolesOf.l2 k x3 x4 x5 x6 x7 x8 x9 (wrap64 (x11 + 1)))
end
def spec_HolesOf.f (k : Nat) (l0 : List (S41)) : Option (Int) := (spec_IsShape.f l0).bind fun t323 => (if t323 = true then ((spec_SizeOf.f k l0).bind fun bt324 => ((spec_CornerShape.f k l0).bind fun t326 => ((spec_l5Outside.f k l0).bind fun t329 => (spec_HolesOf.l0 k bt324.1 bt324.2 t326 t329 0 0)))) else (some (-1)))
theorem spec_HolesOf.mono_l : ∀ k, (∀ y0 y1 y2 y3 y4 y5, LeO (spec_HolesOf.l0 k y0 y1 y2 y3 y4 y5) (spec_HolesOf.l0 (k + 1) y0 y1 y2 y3 y4 y5)) ∧ (∀ y0 y1 y2 y3 y4 y5 y6, LeO (spec_HolesOf.l1 k y0 y1 y2 y3 y4 y5 y6) (spec_HolesOf.l1 (k + 1) y0 y1 y2 y3 y4 y5 y6)) ∧ (∀ y0 y1 y2 y3 y4 y5 y6 y7, LeO (spec_HolesOf.j2 k y0 y1 y2 y3 y4 y5 y6 y7) (spec_HolesOf.j2 (k + 1) y0 y1 y2 y3 y4 y5 y6 y7)) ∧ (∀ y0 y1 y2 y3 y4 y5 y6 y7, LeO (spec_HolesOf.l2 k y0 y1 y2 y3 y4 y5 y6 y7) (spec_HolesOf.l2 (k + 1) y0 y1 y2 y3 y4 y5 y6 y7)) ∧ (∀ y0 y1 y2 y3 y4 y5 y6 y7 y8, LeO (spec_HolesOf.l3 k y0 y1 y2 y3 y4 y5 y6 y7 y8) (spec_HolesOf.l3 (k + 1) y0 y1 y2 y3 y4 y5 y6 y7 y8))
  | 0 => ⟨fun _ _ _ _ _ _ r h => by simp [spec_HolesOf.l0] at h, fun _ _ _ _ _ _ _ r h => by simp [spec_HolesOf.l1] at h, fun _ _ _ _ _ _ _ _ r h => by simp [spec_HolesOf.j2] at h, fun _ _ _ _ _ _ _ _ r h => by simp [spec_HolesOf.l2] at h, fun _ _ _ _ _ _ _ _ _ r h => by simp [spec_HolesOf.l3] at h⟩
  | k + 1 => by
    obtain ⟨ih0, ih1, ih2, ih3, ih4⟩ := spec_HolesOf.mono_l k
    refine ⟨?_, ?_, ?_, ?_, ?_⟩
    · intro y0 y1 y2 y3 y4 y5
      unfold spec_HolesOf.l0
      repeat' first
      | (with_reducible exact ih0 _ _ _ _ _ _)
      | (with_reducible exact ih1 _ _ _ _ _ _ _)
      | (with_reducible exact ih2 _ _ _ _ _ _ _ _)
      | (with_reducible exact ih3 _ _ _ _ _ _ _ _)
      | (with_reducible exact ih4 _ _ _ _ _ _ _ _ _)
      | (with_reducible exact spec_CornerShape.mono _ _)
      | (with_reducible exact spec_SizeOf.mono _ _)
      | (with_reducible exact spec_l5Outside.mono _ _)
      | (with_reducible exact LeO.refl _)
      | (with_reducible exact LeO.none _)
      | (with_reducible refine LeO.ite ?_ ?_)
      | (with_reducible refine LeO.bind ?_ (fun _ => ?_))
      | exact ih0 _ _ _ _ _ _
      | exact ih1 _ _ _ _ _ _ _
      | exact ih2 _ _ _ _ _ _ _ _
      | exact ih3 _ _ _ _ _ _ _ _
      | exact ih4 _ _ _ _ _ _ _ _ _
      | exact spec_CornerShape.mono _ _
      | exact spec_SizeOf.mono _ _
      | exact spec_l5Outside.mono _ _
      | exact LeO.none _
      | refine LeO.ite ?_ ?_
      | refine LeO.bind ?_ (fun _ => ?_)
    · intro y0 y1 y2 y3 y4 y5 y6
      unfold spec_HolesOf.l1
      repeat' first
      | (with_reducible exact ih0 _ _ _ _ _ _)
      | (with_reducible exact ih1 _ _ _ _ _ _ _)
      | (with_reducible exact ih2 _ _ _ _ _ _ _ _)
      | (with_reducible exact ih3 _ _ _ _ _ _ _ _)
      | (with_reducible exact ih4 _ _ _ _ _ _ _ _ _)
      | (with_reducible exact spec_CornerShape.mono _ _)
      | (with_reducible exact spec_SizeOf.mono _ _)
      | (with_reducible exact spec_l5Outside.mono _ _)
      | (with_reducible exact LeO.refl _)
      | (with_reducible exact LeO.none _)
      | (with_reducible refine LeO.ite ?_ ?_)
      | (with_reducible refine LeO.bind ?_ (fun _ => ?_))
      | exact ih0 _ _ _ _ _ _
      | exact ih1 _ _ _ _ _ _ _
      | exact ih2 _ _ _ _ _ _ _ _
      | exact ih3 _ _ _ _ _ _ _ _
      | exact ih4 _ _ _ _ _ _ _ _ _
      | exact spec_CornerShape.mono _ _
      | exact spec_SizeOf.mono _ _
      | exact spec_l5Outside.mono _ _
      | exact LeO.none _
      | refine LeO.ite ?_ ?_
      | refine LeO.bind ?_ (fun _ => ?_)
    · intro y0 y1 y2 y3 y4 y5 y6 y7
      unfold spec_HolesOf.j2
      repeat' first
      | (with_reducible exact ih0 _ _ _ _ _ _)
      | (with_reducible exact ih1 _ _ _ _ _ _ _)
      | (with_reducible exact ih2 _ _ _ _ _ _ _ _)
      | (with_reducible exact ih3 _ _ _ _ _ _ _ _)
      | (with_reducible exact ih4 _ _ _ _ _ _ _ _ _)
      | (with_reducible exact spec_CornerShape.mono _ _)
      | (with_reducible exact spec_SizeOf.mono _ _)
      | (with_reducible exact spec_l5Outside.mono _ _)
      | (with_reducible exact LeO.refl _)
      | (with_reducible exact LeO.none _)
      | (with_reducible refine LeO.ite ?_ ?_)
      | (with_reducible refine LeO.bind ?_ (fun _ => ?_))
      | exact ih0 _ _ _ _ _ _
      | exact ih1 _ _ _ _ _ _ _
      | exact ih2 _ _ _ _ _ _ _ _
      | exact ih3 _ _ _ _ _ _ _ _
      | exact ih4 _ _ _ _ _ _ _ _ _
      | exact spec_CornerShape.mono _ _
      | exact spec_SizeOf.mono _ _
      | exact spec_l5Outside.mono _ _
      | exact LeO.none _
      | refine LeO.ite ?_ ?_
      | refine LeO.bind ?_ (fun _ => ?_)
    · intro y0 y1 y2 y3 y4 y5 y6 y7
      unfold spec_HolesOf.l2
      repeat' first
      | (with_reducible exact ih0 _ _ _ _ _ _)
      | (with_reducible exact ih1 _ _ _ _ _ _ _)
      | (with_reducible exact ih2 _ _ _ _ _ _ _ _)
      | (with_reducible exact ih3 _ _ _ _ _ _ _ _)
      | (with_reducible exact ih4 _ _ _ _ _ _ _ _ _)
      | (with_reducible exact spec_CornerShape.mono _ _)
      | (with_reducible exact spec_SizeOf.mono _ _)
      | (with_reducible exact spec_l5Outside.mono _ _)
      | (with_reducible exact LeO.refl _)
      | (with_reducible exact LeO.none _)
      | (with_reducible refine LeO.ite ?_ ?_)
      | (with_reducible refine LeO.bind ?_ (fun _ => ?_))
      | exact ih0 _ _ _ _ _ _
      | exact ih1 _ _ _ _ _ _ _
      | exact ih2 _ _ _ _ _ _ _ _
      | exact ih3 _ _ _ _ _ _ _ _
      | exact ih4 _ _ _ _ _ _ _ _ _
      | exact spec_CornerShape.mono _ _
      | exact spec_SizeOf.mono _ _
      | exact spec_l5Outside.mono _ _
      | exact LeO.none _
      | refine LeO.ite ?_ ?_
      | refine LeO.bind ?_ (fun _ => ?_)
    · intro y0 y1 y2 y3 y4 y5 y6 y7 y8
      unfold spec_HolesOf.l3
      repeat' first
      | (with_reducible exact ih0 _ _ _ _ _ _)
      | (with_reducible exact ih1 _ _ _ _ _ _ _)
      | (with_reducible exact ih2 _ _ _ _ _ _ _ _)
      | (with_reducible exact ih3 _ _ _ _ _ _ _ _)
      | (with_reducible exact ih4 _ _ _ _ _ _ _ _ _)
      | (with_reducible exact spec_CornerShape.mono _ _)
      | (with_reducible exact spec_SizeOf.mono _ _)
      | (with_reducible exact spec_l5Outside.mono _ _)
      | (with_reducible exact LeO.refl _)
      | (with_reducible exact LeO.none _)
      | (with_reducible refine LeO.ite ?_ ?_)
      | (with_reducible refine LeO.bind ?_ (fun _ => ?_))
      | exact ih0 _ _ _ _ _ _
      | exact ih1 _ _ _ _ _ _ _
      | exact ih2 _ _ _ _ _ _ _ _
      | exact ih3 _ _ _ _ _ _ _ _
      | exact ih4 _ _ _ _ _ _ _ _ _
      | exact spec_CornerShape.mono _ _
      | exact spec_SizeOf.mono _ _
      | exact spec_l5Outside.mono _ _
      | exact LeO.none _
      | refine LeO.ite ?_ ?_
      | refine LeO.bind ?_ (fun _ => ?_)
theorem spec_HolesOf.mono : ∀ a0 k, LeO (spec_HolesOf.f k a0) (spec_HolesOf.f (k + 1) a0) := by
  intro a0 k
  obtain ⟨ih0, ih1, ih2, ih3, ih4⟩ := spec_HolesOf.mono_l k
  unfold spec_HolesOf.f
  repeat' first
      | (with_reducible exact ih0 _ _ _ _ _ _)
      | (with_reducible exact ih1 _ _ _ _ _ _ _)
      | (with_reducible exact ih2 _ _ _ _ _ _ _ _)
      | (with_reducible exact ih3 _ _ _ _ _ _ _ _)
      | (with_reducible exact ih4 _ _ _ _ _ _ _ _ _)
      | (with_reducible exact spec_CornerShape.mono _ _)
      | (with_reducible exact spec_SizeOf.mono _ _)
      | (with_reducible exact spec_l5Outside.mono _ _)
      | (with_reducible exact LeO.refl _)
      | (with_reducible exact LeO.none _)
      | (with_reducible refine LeO.ite ?_ ?_)
      | (with_reducible refine LeO.bind ?_ (fun _ => ?_))
      | exact ih0 _ _ _ _ _ _
      | exact ih1 _ _ _ _ _ _ _
      | exact ih2 _ _ _ _ _ _ _ _
      | exact ih3 _ _ _ _ _ _ _ _
      | exact ih4 _ _ _ _ _ _ _ _ _
      | exact spec_CornerShape.mono _ _
      | exact spec_SizeOf.mono _ _
      | exact spec_l5Outside.mono _ _
      | exact LeO.none _
      | refine LeO.ite ?_ ?_
      | refine LeO.bind ?_ (fun _ => ?_)
set_option maxHeartbeats 8000000 in
set_option maxRecDepth 100000 in
theorem spec_HolesOf.calls (k : Nat) (A0 : Option Addr) (c0 : Nat) (l0 : List (S41)) (r : Int) (w : World) (hr0 : Kd.C k41 w A0 l0.length l0) (hc0 : l0.length ≤ c0) (h : spec_HolesOf.f k l0 = some r) :
    Calls Try.prog 12 #[.slice A0 l0.length c0] w fun e w' => e = .returned (.int .i64 r) ∧ Below w.heap.size w w' := by
  have hu41 := Try.underlying41
  have HR0 := Aside0.mk hr0
  have HC0 := Aside0.mk hc0
  clear hr0 hc0
  have HB := Aside0.mk (Below.refl w.heap.size w)
  have H : ((spec_IsShape.f l0).bind fun t323 => (if t323 = true then ((spec_SizeOf.f k l0).bind fun bt324 => ((spec_CornerShape.f k l0).bind fun t326 => ((spec_l5Outside.f k l0).bind fun t329 => (spec_HolesOf.l0 k bt324.1 bt324.2 t326 t329 0 0)))) else (some (-1)))) = some r := h
  clear h
  replace H := Option.bind_eq_some_iff.mp H
  obtain ⟨t323, A20, H⟩ := H
  replace H : (if t323 = true then ((spec_SizeOf.f k l0).bind fun bt324 => ((spec_CornerShape.f k l0).bind fun t326 => ((spec_l5Outside.f k l0).bind fun t329 => (spec_HolesOf.l0 k bt324.1 bt324.2 t326 t329 0 0)))) else (some (-1))) = some r := H
  have A2 := Aside0.mk A20
  clear A20
  by_cases c3 : t323 = true
  · subst c3
    have H1 : ((spec_SizeOf.f k l0).bind fun bt324 => ((spec_CornerShape.f k l0).bind fun t326 => ((spec_l5Outside.f k l0).bind fun t329 => (spec_HolesOf.l0 k bt324.1 bt324.2 t326 t329 0 0)))) = some r := by rw [if_pos rfl] at H; exact H
    clear H
    have H := H1
    clear H1
    replace H := Option.bind_eq_some_iff.mp H
    obtain ⟨⟨t324, t325⟩, A40, H⟩ := H
    replace H : ((spec_CornerShape.f k l0).bind fun t326 => ((spec_l5Outside.f k l0).bind fun t329 => (spec_HolesOf.l0 k t324 t325 t326 t329 0 0))) = some r := H
    have A4 := Aside0.mk A40
    clear A40
    replace H := Option.bind_eq_some_iff.mp H
    obtain ⟨t326, A50, H⟩ := H
    replace H : ((spec_l5Outside.f k l0).bind fun t329 => (spec_HolesOf.l0 k t324 t325 t326 t329 0 0)) = some r := H
    have A5 := Aside0.mk A50
    clear A50
    replace H := Option.bind_eq_some_iff.mp H
    obtain ⟨t329, A60, H⟩ := H
    replace H : (spec_HolesOf.l0 k t324 t325 t326 t329 0 0) = some r := H
    have A6 := Aside0.mk A60
    clear A60
    have H' := Aside0.mk H
    clear H
    go_enter Try.func12, Try.ntmps12
    go_wp2_with (first | ((with_reducible refine gate_callee (f := 23) rfl ?_); refine goesL_ (some 16) rfl rfl Try.func23 (by kernel_rfl) rfl #[.slice A0 l0.length c0] rfl (by (try simp only [List.map_toArray, List.map_cons, List.map_nil]); first | done | rfl | (simp only [List.length_drop, List.length_take]; rfl)) ?_; (with_reducible refine (spec_IsShape.calls _ _ l0 true _ ?side1 ?side2 A2.out).mono ?_); (case side1 => repeat (first | exact HR0.out | (with_reducible refine Kd.C_alloc ?_ _) | (with_reducible refine Kd.C_drewN ?_ _) | (with_reducible refine Kd.C_drew ?_))); (case side2 => exact HC0.out); rintro e w7 ⟨rfl, hb⟩; refine ⟨_, rfl, ?_⟩; have n0_ := Aside0.mk (below_step (by repeat (first | (with_reducible first | exact HB.out | apply below_alloc | apply pw_below_drewN | apply below_drew1) | exact HB.out)) hb); clear HB; have HB := n0_; clear n0_; (try clear hb); (try clear hb2); (try clear hk); (try clear hi)) | ((with_reducible refine gate_callee (f := 37) rfl ?_); refine goesL_ (some 20) rfl rfl Try.func37 (by kernel_rfl) rfl #[.slice A0 l0.length c0] rfl (by (try simp only [List.map_toArray, List.map_cons, List.map_nil]); first | done | rfl | (simp only [List.length_drop, List.length_take]; rfl)) ?_; (with_reducible refine (spec_SizeOf.calls k _ _ l0 t324 t325 _ ?side1 ?side2 A4.out).mono ?_); (case side1 => repeat (first | exact (Kd.C_below HR0.out HB.out) | (with_reducible refine Kd.C_alloc ?_ _) | (with_reducible refine Kd.C_drewN ?_ _) | (with_reducible refine Kd.C_drew ?_))); (case side2 => exact HC0.out); rintro e w8 ⟨rfl, hb⟩; refine ⟨_, rfl, ?_⟩; have n0_ := Aside0.mk (below_step (by repeat (first | (with_reducible first | exact HB.out | apply below_alloc | apply pw_below_drewN | apply below_drew1) | exact HB.out)) hb); clear HB; have HB := n0_; clear n0_; (try clear hb); (try clear hb2); (try clear hk); (try clear hi)) | ((with_reducible refine gate_callee (f := 38) rfl ?_); refine goesL_ (some 24) rfl rfl Try.func38 (by kernel_rfl) rfl #[.slice A0 l0.length c0] rfl (by (try simp only [List.map_toArray, List.map_cons, List.map_nil]); first | done | rfl | (simp only [List.length_drop, List.length_take]; rfl)) ?_; (with_reducible refine (spec_CornerShape.calls k _ _ l0 t326 _ ?side1 ?side2 A5.out).mono ?_); (case side1 => repeat (first | exact (Kd.C_below HR0.out HB.out) | (with_reducible refine Kd.C_alloc ?_ _) | (with_reducible refine Kd.C_drewN ?_ _) | (with_reducible refine Kd.C_drew ?_))); (case side2 => exact HC0.out); rintro e w9 ⟨v327, rfl, ho0, hb⟩; refine ⟨_, rfl, ?_⟩; have n0_ := Aside0.mk (Kd.R_lower ho0 (below_size (by repeat (first | (with_reducible first | exact HB.out | apply below_alloc | apply pw_below_drewN | apply below_drew1) | exact HB.out)))); have n1_ := Aside0.mk (below_step (by repeat (first | (with_reducible first | exact HB.out | apply below_alloc | apply pw_below_drewN | apply below_drew1) | exact HB.out)) hb); clear HB; have HO328 := n0_; have HB := n1_; clear n0_ n1_; (try clear hb); (try clear hb2); (try clear hk); (try clear hi); (try clear ho0)) | ((with_reducible refine gate_callee (f := 39) rfl ?_); refine goesL_ (some 26) rfl rfl Try.func39 (by kernel_rfl) rfl #[.slice A0 l0.length c0] rfl (by (try simp only [List.map_toArray, List.map_cons, List.map_nil]); first | done | rfl | (simp only [List.length_drop, List.length_take]; rfl)) ?_; (with_reducible refine (spec_l5Outside.calls k _ _ l0 t329 _ ?side1 ?side2 A6.out).mono ?_); (case side1 => repeat (first | exact (Kd.C_below HR0.out HB.out) | (with_reducible refine Kd.C_alloc ?_ _) | (with_reducible refine Kd.C_drewN ?_ _) | (with_reducible refine Kd.C_drew ?_))); (case side2 => exact HC0.out); rintro e w10 ⟨v330, rfl, ho0, hb⟩; refine ⟨_, rfl, ?_⟩; have n0_ := Aside0.mk (Kd.R_elder' (by (with_reducible repeat (first | apply Kd.R_alloc | apply Kd.R_drewN | apply Kd.R_drew)); exact HO328.out) (Kd.R_base ho0) hb); have n1_ := Aside0.mk (Kd.R_lower (Kd.R_new' ho0 (Kd.R_lt (by (with_reducible repeat (first | apply Kd.R_alloc | apply Kd.R_drewN | apply Kd.R_drew)); exact HO328.out))) (below_size (by repeat (first | (with_reducible first | exact HB.out | apply below_alloc | apply pw_below_drewN | apply below_drew1) | exact HB.out)))); have n2_ := Aside0.mk (below_step (by repeat (first | (with_reducible first | exact HB.out | apply below_alloc | apply pw_below_drewN | apply below_drew1) | exact HB.out)) hb); clear HO328; clear HB; have HO328 := n0_; have HO331 := n1_; have HB := n2_; clear n0_ n1_ n2_; (try clear hb); (try clear hb2); (try clear hk); (try clear hi); (try clear ho0)))
    go_loopg [6, 7, 8] k (fun kq v6 v7 v8 w' => ∃ (x6_1 : List (S41)) (x7_1 : Int) (x8_1 : Int), v7 = .int .i64 x7_1 ∧ v8 = .int .i64 x8_1 ∧ Aside0 (spec_HolesOf.l0 kq t324 t325 t326 x6_1 x7_1 x8_1 = some r) ∧ Aside0 (kq ≤ k) ∧ Aside0 (Kd.R k41 41 w' w.heap.size (fun k_ => some k_ ≠ (v6 : Value).ownBlock) v327 t326) ∧ Aside0 (Kd.R k41 41 w' w.heap.size (fun k_ => some k_ ≠ (v327 : Value).ownBlock) v6 x6_1) ∧ Aside0 (Below w.heap.size w w'))
    case atStart => exact ⟨(t329), (0), (0), (by first | rfl | (simp; done) | (simp [*]; done)), (by first | rfl | (simp; done) | (simp [*]; done)), H', ⟨Nat.le_refl _⟩, ⟨by (with_reducible repeat (first | apply Kd.R_alloc | apply Kd.R_drewN | apply Kd.R_drew)); exact Kd.R_mono HO328.out (fun _ hk => hk.2)⟩, ⟨by (with_reducible repeat (first | apply Kd.R_alloc | apply Kd.R_drewN | apply Kd.R_drew)); exact Kd.R_mono HO331.out (fun _ hk => hk.2)⟩, ⟨by repeat (first | (with_reducible first | exact HB.out | apply below_alloc | apply pw_below_drewN | apply below_drew1) | exact HB.out)⟩⟩
    case round =>
      clear H'
      try clear c1
      try clear c2
      try clear p2
      try clear c3
      obtain ⟨x6_1, x7_1, x8_1, rfl, rfl, HA, HK1, HO_5, HO_6, HB⟩ := hrel
      cases gk with
      | zero => exact absurd HA.out (by simp [spec_HolesOf.l0])
      | succ k1 =>
        have H := HA.out
        clear HA
        simp only [spec_HolesOf.l0] at H
        by_cases c11 : x8_1 < t325
        · rw [if_pos c11] at H
          have c11b0 : decide (x8_1 < t325) = true := decide_eq_true c11
          clear c11
          have H' := Aside0.mk H
          clear H
          go_wp2
          go_loopg [6, 7, 9] k1 (fun kq v6 v7 v9 w' => ∃ (x6_2 : List (S41)) (x7_2 : Int) (x9_2 : Int), v7 = .int .i64 x7_2 ∧ v9 = .int .i64 x9_2 ∧ Aside0 (spec_HolesOf.l1 kq t324 t325 t326 x6_2 x7_2 x8_1 x9_2 = some r) ∧ Aside0 (kq ≤ k1) ∧ Aside0 (Kd.R k41 41 w' w.heap.size (fun k_ => some k_ ≠ (v6 : Value).ownBlock) v327 t326) ∧ Aside0 (Kd.R k41 41 w' w.heap.size (fun k_ => some k_ ≠ (v327 : Value).ownBlock) v6 x6_2) ∧ Aside0 (Below w.heap.size w w'))
          case atStart => exact ⟨(x6_1), (x7_1), (0), (by first | rfl | (simp; done) | (simp [*]; done)), (by first | rfl | (simp; done) | (simp [*]; done)), H', ⟨Nat.le_refl _⟩, ⟨by (with_reducible repeat (first | apply Kd.R_alloc | apply Kd.R_drewN | apply Kd.R_drew)); exact HO_5.out⟩, ⟨by (with_reducible repeat (first | apply Kd.R_alloc | apply Kd.R_drewN | apply Kd.R_drew)); exact HO_6.out⟩, ⟨by repeat (first | (with_reducible first | exact HB.out | apply below_alloc | apply pw_below_drewN | apply below_drew1) | exact HB.out)⟩⟩
          case round =>
            clear H'
            try clear c1
            try clear c2
            try clear p2
            try clear c3
            try clear c11
            try clear c11b0
            try clear p2
            obtain ⟨x6_2, x7_2, x9_2, rfl, rfl, HA, HK2, HO_5, HO_6, HB⟩ := hrel
            cases gk with
            | zero => exact absurd HA.out (by simp [spec_HolesOf.l1])
            | succ k2 =>
              have H := HA.out
              clear HA
              simp only [spec_HolesOf.l1] at H
              by_cases c12 : x9_2 < t324
              · rw [if_pos c12] at H
                have c12b0 : decide (x9_2 < t324) = true := decide_eq_true c12
                clear c12
                have HC13 := Aside0.mk H
                clear H
                go_upto_region 13 with (fail)
                go_cut [46] (fun v46 wc => ∃ (kq : Nat) (x46_12 : Bool), v46 = .bool x46_12 ∧ Aside0 (spec_HolesOf.j2 kq t324 t325 t326 x6_2 x7_2 x8_1 x9_2 x46_12 = some r) ∧ Aside0 (kq ≤ k2) ∧ Aside0 (Kd.R k41 41 wc w.heap.size (fun k_ => some k_ ≠ (u6 : Value).ownBlock) v327 t326) ∧ Aside0 (Kd.R k41 41 wc w.heap.size (fun k_ => some k_ ≠ (v327 : Value).ownBlock) u6 x6_2) ∧ Aside0 (Below w.heap.size w wc))
                case first =>
                  have H := HC13.out
                  clear HC13
                  replace H := Option.bind_eq_some_iff.mp H
                  obtain ⟨t332, A140, H⟩ := H
                  replace H : (if t332 = true then (spec_HolesOf.j2 k2 t324 t325 t326 x6_2 x7_2 x8_1 x9_2 true) else ((spec_HasCell.f x6_2 x9_2 x8_1).bind fun t333 => (spec_HolesOf.j2 k2 t324 t325 t326 x6_2 x7_2 x8_1 x9_2 t333))) = some r := H
                  have A14 := Aside0.mk A140
                  clear A140
                  by_cases c15 : t332 = true
                  · subst c15
                    have H1 : (spec_HolesOf.j2 k2 t324 t325 t326 x6_2 x7_2 x8_1 x9_2 true) = some r := by rw [if_pos rfl] at H; exact H
                    clear H
                    have H := H1
                    clear H1
                    have H' := Aside0.mk H
                    clear H
                    obtain ⟨Ao16, co16, eo16⟩ := Kd.R_slice HO_5.out
                    subst eo16
                    go_wp2_with (first | ((with_reducible refine gate_callee (f := 40) rfl ?_); refine goesL_ (some 40) rfl rfl Try.func40 (by kernel_rfl) rfl #[.slice Ao16 t326.length co16, .int .i64 x9_2, .int .i64 x8_1] rfl (by (try simp only [List.map_toArray, List.map_cons, List.map_nil]); first | done | rfl | (simp only [List.length_drop, List.length_take]; rfl)) ?_; (with_reducible refine (spec_HasCell.calls _ _ t326 x9_2 x8_1 true _ ?side1 ?side2 A14.out).mono ?_); (case side1 => repeat (first | exact (Kd.R_reads' HO_5.out).2.2 | (with_reducible refine Kd.C_alloc ?_ _) | (with_reducible refine Kd.C_drewN ?_ _) | (with_reducible refine Kd.C_drew ?_))); (case side2 => exact (Kd.R_reads' HO_5.out).2.1); rintro e w' ⟨rfl, ⟨nd, rfl⟩⟩; refine ⟨_, rfl, ?_⟩))
                    go_meet
                    case rel => exact ⟨_, (true), (by first | rfl | (simp; done) | (simp [*]; done)), H', ⟨by have := HK1.out; have := HK2.out; first | omega | exact Nat.le_refl _⟩, ⟨by (with_reducible repeat (first | apply Kd.R_alloc | apply Kd.R_drewN | apply Kd.R_drew)); exact HO_5.out⟩, ⟨by (with_reducible repeat (first | apply Kd.R_alloc | apply Kd.R_drewN | apply Kd.R_drew)); exact HO_6.out⟩, ⟨by repeat (first | (with_reducible first | exact HB.out | apply below_alloc | apply pw_below_drewN | apply below_drew1) | exact HB.out)⟩⟩
                  · replace c15 := Bool.eq_false_iff.mpr c15
                    subst c15
                    have H1 : ((spec_HasCell.f x6_2 x9_2 x8_1).bind fun t333 => (spec_HolesOf.j2 k2 t324 t325 t326 x6_2 x7_2 x8_1 x9_2 t333)) = some r := by rw [if_neg (show ¬ (false = true) by decide)] at H; exact H
                    clear H
                    have H := H1
                    clear H1
                    replace H := Option.bind_eq_some_iff.mp H
                    obtain ⟨t333, A170, H⟩ := H
                    replace H : (spec_HolesOf.j2 k2 t324 t325 t326 x6_2 x7_2 x8_1 x9_2 t333) = some r := H
                    have A17 := Aside0.mk A170
                    clear A170
                    have H' := Aside0.mk H
                    clear H
                    obtain ⟨Ao18, co18, eo18⟩ := Kd.R_slice HO_5.out
                    subst eo18
                    go_wp2_with (first | ((with_reducible refine gate_callee (f := 40) rfl ?_); refine goesL_ (some 40) rfl rfl Try.func40 (by kernel_rfl) rfl #[.slice Ao18 t326.length co18, .int .i64 x9_2, .int .i64 x8_1] rfl (by (try simp only [List.map_toArray, List.map_cons, List.map_nil]); first | done | rfl | (simp only [List.length_drop, List.length_take]; rfl)) ?_; (with_reducible refine (spec_HasCell.calls _ _ t326 x9_2 x8_1 false _ ?side1 ?side2 A14.out).mono ?_); (case side1 => repeat (first | exact (Kd.R_reads' HO_5.out).2.2 | (with_reducible refine Kd.C_alloc ?_ _) | (with_reducible refine Kd.C_drewN ?_ _) | (with_reducible refine Kd.C_drew ?_))); (case side2 => exact (Kd.R_reads' HO_5.out).2.1); rintro e w' ⟨rfl, ⟨nd, rfl⟩⟩; refine ⟨_, rfl, ?_⟩; obtain ⟨Ao19, co19, eo19⟩ := Kd.R_slice HO_6.out; subst eo19) | (go_at_call 40; (with_reducible refine (spec_HasCell.calls _ _ x6_2 x9_2 x8_1 t333 _ ?side1 ?side2 A17.out).mono ?_); (case side1 => repeat (first | exact (Kd.R_reads' HO_6.out).2.2 | (with_reducible refine Kd.C_alloc ?_ _) | (with_reducible refine Kd.C_drewN ?_ _) | (with_reducible refine Kd.C_drew ?_))); (case side2 => exact (Kd.R_reads' HO_6.out).2.1); rintro e w' ⟨rfl, ⟨nd, rfl⟩⟩))
                    go_meet
                    case rel => exact ⟨_, (t333), (by first | rfl | (simp; done) | (simp [*]; done)), H', ⟨by have := HK1.out; have := HK2.out; first | omega | exact Nat.le_refl _⟩, ⟨by (with_reducible repeat (first | apply Kd.R_alloc | apply Kd.R_drewN | apply Kd.R_drew)); exact HO_5.out⟩, ⟨by (with_reducible repeat (first | apply Kd.R_alloc | apply Kd.R_drewN | apply Kd.R_drew)); exact HO_6.out⟩, ⟨by repeat (first | (with_reducible first | exact HB.out | apply below_alloc | apply pw_below_drewN | apply below_drew1) | exact HB.out)⟩⟩
                case rest =>
                  clear HC13
                  try clear c1
                  try clear c2
                  try clear p2
                  try clear c3
                  try clear c4
                  try clear c11
                  try clear c11b0
                  try clear c12
                  try clear c12b0
                  try clear c15
                  try clear p2
                  obtain ⟨kq, x46_12, rfl, HA, HJ12, HO_5, HO_6, HB⟩ := hcut
                  cases kq with
                  | zero => exact absurd HA.out (by simp [spec_HolesOf.j2])
                  | succ kj12 =>
                    have H := HA.out
                    clear HA
                    simp only [spec_HolesOf.j2] at H
                    by_cases c20 : x46_12 = true
                    · subst c20
                      have H1 : (spec_HolesOf.l1 kj12 t324 t325 t326 x6_2 x7_2 x8_1 (wrap64 (x9_2 + 1))) = some r := by rw [if_pos rfl] at H; exact H
                      clear H
                      have H := H1
                      clear H1
                      have H' := Aside0.mk H
                      clear H
                      go_wp2
                      go_roundg kj12
                      case measure => have := HK1.out; have := HK2.out; have := HJ12.out; omega
                      case rel => exact ⟨(x6_2), (x7_2), (wrap64 (x9_2 + 1)), (by first | rfl | (simp; done) | (simp [*]; done)), (by first | rfl | (simp; done) | (simp [*]; done)), H', ⟨by have := HK1.out; have := HK2.out; have := HJ12.out; omega⟩, ⟨by (with_reducible repeat (first | apply Kd.R_alloc | apply Kd.R_drewN | apply Kd.R_drew)); exact HO_5.out⟩, ⟨by (with_reducible repeat (first | apply Kd.R_alloc | apply Kd.R_drewN | apply Kd.R_drew)); exact HO_6.out⟩, ⟨by repeat (first | (with_reducible first | exact HB.out | apply below_alloc | apply pw_below_drewN | apply below_drew1) | exact HB.out)⟩⟩
                    · replace c20 := Bool.eq_false_iff.mpr c20
                      subst c20
                      have H1 : (if x6_2.length < 8796093022208 then (spec_HolesOf.l2 kj12 t324 t325 t326 (x6_2 ++ [(⟨x9_2, x8_1⟩ : S41)]) (wrap64 (x7_2 + 1)) x8_1 x9_2 (x6_2.length : Int)) else (none)) = some r := by rw [if_neg (show ¬ (false = true) by decide)] at H; exact H
                      clear H
                      have H := H1
                      clear H1
                      by_cases c21 : x6_2.length < 8796093022208
                      · rw [if_pos c21] at H
                        have LMc21 := Aside0.mk c21
                        clear c21
                        obtain ⟨y334, hy334⟩ : ∃ y_ : List (S41), y_ = (x6_2 ++ [(⟨x9_2, x8_1⟩ : S41)]) := ⟨_, rfl⟩
                        replace H : (spec_HolesOf.l2 kj12 t324 t325 t326 y334 (wrap64 (x7_2 + 1)) x8_1 x9_2 (x6_2.length : Int)) = some r := by first | (rw [hy334]; with_reducible exact H) | (have H2_ := (Option.bind_some _ _).symm.trans H; rw [hy334]; with_reducible exact H2_) | (have H2_ := (Option.bind_some _ _).symm.trans H; with_reducible exact H2_) | with_reducible exact H | (rw [hy334]; exact H) | exact H
                        have Ny334 := Aside0.mk hy334
                        clear hy334
                        have H' := Aside0.mk H
                        clear H
                        obtain ⟨Ao22, co22, eo22⟩ := Kd.R_slice HO_6.out
                        subst eo22
                        go_wp2_with (first | ((with_reducible refine gate_builtin (b := .append) (xs := #[.tmp 51, .tmp 55]) rfl ?_); at_builtin; refine Kd.R_append k41 (w0 := w) w.heap.size rfl (.tmp 51) (.tmp 55) 24 41 (.agg #[(.int .i64 0), (.int .i64 0)]) 16 rfl Try.underlying24 info41 rfl (by decide) (by omega) (.slice Ao22 x6_2.length co22) x6_2 (⟨x9_2, x8_1⟩ : S41) [.int .i64 x9_2, .int .i64 x8_1] (fun k_ => some k_ ≠ (v327 : Value).ownBlock) (fun _ => False) rfl rfl ?aP (fun _ hk => hk.elim) ?aF ?aO ?aB ?aS ?aL ?_; (case aP => exact k41_mkM _ _ _ (⟨x9_2, x8_1⟩ : S41)); (case aB => exact (by repeat (first | (with_reducible first | exact HB.out | apply below_alloc | apply pw_below_drewN | apply below_drew1) | exact HB.out))); (case aF => exact (fun k_ hk => Kd.fresh' (Kd.R_lt (by (with_reducible repeat (first | apply Kd.R_alloc | apply Kd.R_drewN | apply Kd.R_drew)); exact HO_5.out)) k_ hk)); (case aO => exact (by (with_reducible repeat (first | apply Kd.R_alloc | apply Kd.R_drewN | apply Kd.R_drew)); exact HO_6.out)); (case aS => exact (below_size (by repeat (first | (with_reducible first | exact HB.out | apply below_alloc | apply pw_below_drewN | apply below_drew1) | exact HB.out)))); (case aL => have := LMc21.out; omega); intro v335 w23 ho hb hg hat; rw [← Ny334.out] at ho; have n0_ := Aside0.mk (Kd.R_after (ok := (fun _ => True)) (by (with_reducible repeat (first | apply Kd.R_alloc | apply Kd.R_drewN | apply Kd.R_drew)); exact Kd.R_mono HO_5.out (fun _ hk => ⟨trivial, hk⟩)) hg hat); have n1_ := Aside0.mk (hb); have n2_ := Aside0.mk (ho); clear HO_5; clear HB; clear HO_6; have HO_5 := n0_; have HB := n1_; have HO336 := n2_; clear n0_ n1_ n2_; clear ho hb hg hat))
                        go_loopg [6, 11] kj12 (fun kq v6 v11 w' => ∃ (x6_4 : List (S41)) (x11_4 : Int), v11 = .int .i64 x11_4 ∧ Aside0 (spec_HolesOf.l2 kq t324 t325 t326 x6_4 (wrap64 (x7_2 + 1)) x8_1 x9_2 x11_4 = some r) ∧ Aside0 (kq ≤ kj12) ∧ Aside0 (Kd.R k41 41 w' w.heap.size (fun k_ => some k_ ≠ (v6 : Value).ownBlock) v327 t326) ∧ Aside0 (Kd.R k41 41 w' w.heap.size (fun k_ => some k_ ≠ (v327 : Value).ownBlock) v6 x6_4) ∧ Aside0 (Below w.heap.size w w'))
                        case atStart => exact ⟨(y334), ((x6_2.length : Int)), (by first | rfl | (simp; done) | (simp [*]; done)), H', ⟨Nat.le_refl _⟩, ⟨by (with_reducible repeat (first | apply Kd.R_alloc | apply Kd.R_drewN | apply Kd.R_drew)); exact Kd.R_mono HO_5.out (fun _ hk => hk.2)⟩, ⟨by (with_reducible repeat (first | apply Kd.R_alloc | apply Kd.R_drewN | apply Kd.R_drew)); exact HO336.out⟩, ⟨by repeat (first | (with_reducible first | exact HB.out | apply below_alloc | apply pw_below_drewN | apply below_drew1) | exact HB.out)⟩⟩
                        case round =>
                          clear H'
                          try clear c1
                          try clear c2
                          try clear p2
                          try clear c3
                          try clear c4
                          try clear p6
                          try clear c11
                          try clear c11b0
                          try clear c12
                          try clear c12b0
                          try clear c15
                          try clear c20
                          try clear c21
                          try clear c23
                          try clear p2
                          obtain ⟨x6_4, x11_4, rfl, HA, HK4, HO_5, HO_6, HB⟩ := hrel
                          cases gk with
                          | zero => exact absurd HA.out (by simp [spec_HolesOf.l2])
                          | succ k4 =>
                            have H := HA.out
                            clear HA
                            simp only [spec_HolesOf.l2] at H
                            by_cases c24 : x11_4 < (x6_4.length : Int)
                            · rw [if_pos c24] at H
                              have c24b0 : decide (x11_4 < (x6_4.length : Int)) = true := decide_eq_true c24
                              clear c24
                              have H' := Aside0.mk H
                              clear H
                              obtain ⟨Ao25, co25, eo25⟩ := Kd.R_slice HO_6.out
                              subst eo25
                              go_wp2
                              go_loopg [6, 12] k4 (fun kq v6 v12 w' => ∃ (x6_5 : List (S41)) (x12_5 : Int), v12 = .int .i64 x12_5 ∧ Aside0 (spec_HolesOf.l3 kq t324 t325 t326 x6_5 (wrap64 (x7_2 + 1)) x8_1 x9_2 x11_4 x12_5 = some r) ∧ Aside0 (kq ≤ k4) ∧ Aside0 (Kd.R k41 41 w' w.heap.size (fun k_ => some k_ ≠ (v6 : Value).ownBlock) v327 t326) ∧ Aside0 (Kd.R k41 41 w' w.heap.size (fun k_ => some k_ ≠ (v327 : Value).ownBlock) v6 x6_5) ∧ Aside0 (Below w.heap.size w w'))
                              case atStart => exact ⟨(x6_4), (0), (by first | rfl | (simp; done) | (simp [*]; done)), H', ⟨Nat.le_refl _⟩, ⟨by (with_reducible repeat (first | apply Kd.R_alloc | apply Kd.R_drewN | apply Kd.R_drew)); exact HO_5.out⟩, ⟨by (with_reducible repeat (first | apply Kd.R_alloc | apply Kd.R_drewN | apply Kd.R_drew)); exact HO_6.out⟩, ⟨by repeat (first | (with_reducible first | exact HB.out | apply below_alloc | apply pw_below_drewN | apply below_drew1) | exact HB.out)⟩⟩
                              case round =>
                                clear H'
                                try clear c1
                                try clear c2
                                try clear p2
                                try clear c3
                                try clear c4
                                try clear p6
                                try clear c11
                                try clear c11b0
                                try clear c12
                                try clear c12b0
                                try clear c15
                                try clear c20
                                try clear c21
                                try clear c23
                                try clear c24
                                try clear c24b0
                                try clear p2
                                try clear p6
                                obtain ⟨x6_5, x12_5, rfl, HA, HK5, HO_5, HO_6, HB⟩ := hrel
                                cases gk with
                                | zero => exact absurd HA.out (by simp [spec_HolesOf.l3])
                                | succ k5 =>
                                  have H := HA.out
                                  clear HA
                                  simp only [spec_HolesOf.l3] at H
                                  by_cases c26 : x12_5 < 4
                                  · rw [if_pos c26] at H
                                    have c26b0 : decide (x12_5 < 4) = true := decide_eq_true c26
                                    clear c26
                                    by_cases c27 : 0 ≤ x11_4
                                    · rw [if_pos c27] at H
                                      have c27b0 : decide (0 ≤ x11_4) = true := decide_eq_true c27
                                      clear c27
                                      by_cases c28 : x11_4 < (x6_5.length : Int)
                                      · rw [if_pos c28] at H
                                        have c28b0 : decide (x11_4 < (x6_5.length : Int)) = true := decide_eq_true c28
                                        clear c28
                                        replace H := Option.bind_eq_some_iff.mp H
                                        obtain ⟨t339, A290, H⟩ := H
                                        replace H : (if t339 = true then (spec_HolesOf.l3 k5 t324 t325 t326 x6_5 (wrap64 (x7_2 + 1)) x8_1 x9_2 x11_4 (wrap64 (x12_5 + 1))) else ((spec_HasCell.f x6_5 (wrap64 (((rd_T41 x6_5 x11_4).f0) + (Int.tmod (wrap64 (1 - x12_5)) 2))) (wrap64 (((rd_T41 x6_5 x11_4).f1) + (Int.tmod (wrap64 (2 - x12_5)) 2)))).bind fun t340 => (if t340 = true then (spec_HolesOf.l3 k5 t324 t325 t326 x6_5 (wrap64 (x7_2 + 1)) x8_1 x9_2 x11_4 (wrap64 (x12_5 + 1))) else (if x6_5.length < 8796093022208 then (spec_HolesOf.l3 k5 t324 t325 t326 (x6_5 ++ [(⟨wrap64 (((rd_T41 x6_5 x11_4).f0) + (Int.tmod (wrap64 (1 - x12_5)) 2)), wrap64 (((rd_T41 x6_5 x11_4).f1) + (Int.tmod (wrap64 (2 - x12_5)) 2))⟩ : S41)]) (wrap64 (x7_2 + 1)) x8_1 x9_2 x11_4 (wrap64 (x12_5 + 1))) else (none))))) = some r := H
                                        have A29 := Aside0.mk A290
                                        clear A290
                                        by_cases c30 : t339 = true
                                        · subst c30
                                          have H1 : (spec_HolesOf.l3 k5 t324 t325 t326 x6_5 (wrap64 (x7_2 + 1)) x8_1 x9_2 x11_4 (wrap64 (x12_5 + 1))) = some r := by rw [if_pos rfl] at H; exact H
                                          clear H
                                          have H := H1
                                          clear H1
                                          have H' := Aside0.mk H
                                          clear H
                                          obtain ⟨Ao31, co31, eo31⟩ := Kd.R_slice HO_6.out
                                          subst eo31
                                          have p337 : 0 ≤ (x11_4 : Int) := of_decide_eq_true (by first | (with_reducible assumption) | assumption)
                                          have q337 : x11_4 < (x6_5.length : Int) := of_decide_eq_true (by first | (with_reducible assumption) | assumption)
                                          obtain ⟨ad337, e337, hx337_0, hx337_1⟩ := at_T41 (Kd.R_reads' HO_6.out).2.2 x11_4 p337 q337
                                          cases e337
                                          replace p337 := eq_true p337
                                          replace q337 := eq_true q337
                                          have p338 : 0 ≤ (x11_4 : Int) := of_decide_eq_true (by first | (with_reducible assumption) | assumption)
                                          have q338 : x11_4 < (x6_5.length : Int) := of_decide_eq_true (by first | (with_reducible assumption) | assumption)
                                          obtain ⟨ad338, e338, hx338_0, hx338_1⟩ := at_T41 (Kd.R_reads' HO_6.out).2.2 x11_4 p338 q338
                                          obtain rfl : ad337 = ad338 := (by injection e338)
                                          replace p338 := eq_true p338
                                          replace q338 := eq_true q338
                                          obtain ⟨Ao32, co32, eo32⟩ := Kd.R_slice HO_5.out
                                          subst eo32
                                          go_wp2_with (first | ((with_reducible refine gate_callee (f := 40) rfl ?_); refine goesL_ (some 89) rfl rfl Try.func40 (by kernel_rfl) rfl #[.slice Ao32 t326.length co32, .int .i64 (wrap64 (((rd_T41 x6_5 x11_4).f0) + (Int.tmod (wrap64 (1 - x12_5)) 2))), .int .i64 (wrap64 (((rd_T41 x6_5 x11_4).f1) + (Int.tmod (wrap64 (2 - x12_5)) 2)))] rfl (by (try simp only [List.map_toArray, List.map_cons, List.map_nil]); first | done | rfl | (simp only [List.length_drop, List.length_take]; rfl)) ?_; (with_reducible refine (spec_HasCell.calls _ _ t326 (wrap64 (((rd_T41 x6_5 x11_4).f0) + (Int.tmod (wrap64 (1 - x12_5)) 2))) (wrap64 (((rd_T41 x6_5 x11_4).f1) + (Int.tmod (wrap64 (2 - x12_5)) 2))) true _ ?side1 ?side2 A29.out).mono ?_); (case side1 => repeat (first | exact (Kd.R_reads' HO_5.out).2.2 | (with_reducible refine Kd.C_alloc ?_ _) | (with_reducible refine Kd.C_drewN ?_ _) | (with_reducible refine Kd.C_drew ?_))); (case side2 => exact (Kd.R_reads' HO_5.out).2.1); rintro e w' ⟨rfl, ⟨nd, rfl⟩⟩; refine ⟨_, rfl, ?_⟩))
                                          go_roundg k5
                                          case measure => have := HK1.out; have := HK2.out; have := HJ12.out; have := HK4.out; have := HK5.out; omega
                                          case rel => exact ⟨(x6_5), (wrap64 (x12_5 + 1)), (by first | rfl | (simp; done) | (simp [*]; done)), H', ⟨by have := HK1.out; have := HK2.out; have := HJ12.out; have := HK4.out; have := HK5.out; omega⟩, ⟨by (with_reducible repeat (first | apply Kd.R_alloc | apply Kd.R_drewN | apply Kd.R_drew)); exact HO_5.out⟩, ⟨by (with_reducible repeat (first | apply Kd.R_alloc | apply Kd.R_drewN | apply Kd.R_drew)); exact HO_6.out⟩, ⟨by repeat (first | (with_reducible first | exact HB.out | apply below_alloc | apply pw_below_drewN | apply below_drew1) | exact HB.out)⟩⟩
                                        · replace c30 := Bool.eq_false_iff.mpr c30
                                          subst c30
                                          have H1 : ((spec_HasCell.f x6_5 (wrap64 (((rd_T41 x6_5 x11_4).f0) + (Int.tmod (wrap64 (1 - x12_5)) 2))) (wrap64 (((rd_T41 x6_5 x11_4).f1) + (Int.tmod (wrap64 (2 - x12_5)) 2)))).bind fun t340 => (if t340 = true then (spec_HolesOf.l3 k5 t324 t325 t326 x6_5 (wrap64 (x7_2 + 1)) x8_1 x9_2 x11_4 (wrap64 (x12_5 + 1))) else (if x6_5.length < 8796093022208 then (spec_HolesOf.l3 k5 t324 t325 t326 (x6_5 ++ [(⟨wrap64 (((rd_T41 x6_5 x11_4).f0) + (Int.tmod (wrap64 (1 - x12_5)) 2)), wrap64 (((rd_T41 x6_5 x11_4).f1) + (Int.tmod (wrap64 (2 - x12_5)) 2))⟩ : S41)]) (wrap64 (x7_2 + 1)) x8_1 x9_2 x11_4 (wrap64 (x12_5 + 1))) else (none)))) = some r := by rw [if_neg (show ¬ (false = true) by decide)] at H; exact H
                                          clear H
                                          have H := H1
                                          clear H1
                                          replace H := Option.bind_eq_some_iff.mp H
                                          obtain ⟨t340, A330, H⟩ := H
                                          replace H : (if t340 = true then (spec_HolesOf.l3 k5 t324 t325 t326 x6_5 (wrap64 (x7_2 + 1)) x8_1 x9_2 x11_4 (wrap64 (x12_5 + 1))) else (if x6_5.length < 8796093022208 then (spec_HolesOf.l3 k5 t324 t325 t326 (x6_5 ++ [(⟨wrap64 (((rd_T41 x6_5 x11_4).f0) + (Int.tmod (wrap64 (1 - x12_5)) 2)), wrap64 (((rd_T41 x6_5 x11_4).f1) + (Int.tmod (wrap64 (2 - x12_5)) 2))⟩ : S41)]) (wrap64 (x7_2 + 1)) x8_1 x9_2 x11_4 (wrap64 (x12_5 + 1))) else (none))) = some r := H
                                          have A33 := Aside0.mk A330
                                          clear A330
                                          by_cases c34 : t340 = true
                                          · subst c34
                                            have H1 : (spec_HolesOf.l3 k5 t324 t325 t326 x6_5 (wrap64 (x7_2 + 1)) x8_1 x9_2 x11_4 (wrap64 (x12_5 + 1))) = some r := by rw [if_pos rfl] at H; exact H
                                            clear H
                                            have H := H1
                                            clear H1
                                            have H' := Aside0.mk H
                                            clear H
                                            obtain ⟨Ao35, co35, eo35⟩ := Kd.R_slice HO_6.out
                                            subst eo35
                                            have p337 : 0 ≤ (x11_4 : Int) := of_decide_eq_true (by first | (with_reducible assumption) | assumption)
                                            have q337 : x11_4 < (x6_5.length : Int) := of_decide_eq_true (by first | (with_reducible assumption) | assumption)
                                            obtain ⟨ad337, e337, hx337_0, hx337_1⟩ := at_T41 (Kd.R_reads' HO_6.out).2.2 x11_4 p337 q337
                                            cases e337
                                            replace p337 := eq_true p337
                                            replace q337 := eq_true q337
                                            have p338 : 0 ≤ (x11_4 : Int) := of_decide_eq_true (by first | (with_reducible assumption) | assumption)
                                            have q338 : x11_4 < (x6_5.length : Int) := of_decide_eq_true (by first | (with_reducible assumption) | assumption)
                                            obtain ⟨ad338, e338, hx338_0, hx338_1⟩ := at_T41 (Kd.R_reads' HO_6.out).2.2 x11_4 p338 q338
                                            obtain rfl : ad337 = ad338 := (by injection e338)
                                            replace p338 := eq_true p338
                                            replace q338 := eq_true q338
                                            obtain ⟨Ao36, co36, eo36⟩ := Kd.R_slice HO_5.out
                                            subst eo36
                                            go_wp2_with (first | ((with_reducible refine gate_callee (f := 40) rfl ?_); refine goesL_ (some 89) rfl rfl Try.func40 (by kernel_rfl) rfl #[.slice Ao36 t326.length co36, .int .i64 (wrap64 (((rd_T41 x6_5 x11_4).f0) + (Int.tmod (wrap64 (1 - x12_5)) 2))), .int .i64 (wrap64 (((rd_T41 x6_5 x11_4).f1) + (Int.tmod (wrap64 (2 - x12_5)) 2)))] rfl (by (try simp only [List.map_toArray, List.map_cons, List.map_nil]); first | done | rfl | (simp only [List.length_drop, List.length_take]; rfl)) ?_; (with_reducible refine (spec_HasCell.calls _ _ t326 (wrap64 (((rd_T41 x6_5 x11_4).f0) + (Int.tmod (wrap64 (1 - x12_5)) 2))) (wrap64 (((rd_T41 x6_5 x11_4).f1) + (Int.tmod (wrap64 (2 - x12_5)) 2))) false _ ?side1 ?side2 A29.out).mono ?_); (case side1 => repeat (first | exact (Kd.R_reads' HO_5.out).2.2 | (with_reducible refine Kd.C_alloc ?_ _) | (with_reducible refine Kd.C_drewN ?_ _) | (with_reducible refine Kd.C_drew ?_))); (case side2 => exact (Kd.R_reads' HO_5.out).2.1); rintro e w' ⟨rfl, ⟨nd, rfl⟩⟩; refine ⟨_, rfl, ?_⟩) | (go_at_call 40; (with_reducible refine (spec_HasCell.calls _ _ x6_5 (wrap64 (((rd_T41 x6_5 x11_4).f0) + (Int.tmod (wrap64 (1 - x12_5)) 2))) (wrap64 (((rd_T41 x6_5 x11_4).f1) + (Int.tmod (wrap64 (2 - x12_5)) 2))) true _ ?side1 ?side2 A33.out).mono ?_); (case side1 => repeat (first | exact (Kd.R_reads' HO_6.out).2.2 | (with_reducible refine Kd.C_alloc ?_ _) | (with_reducible refine Kd.C_drewN ?_ _) | (with_reducible refine Kd.C_drew ?_))); (case side2 => exact (Kd.R_reads' HO_6.out).2.1); rintro e w' ⟨rfl, ⟨nd, rfl⟩⟩))
                                            go_roundg k5
                                            case measure => have := HK1.out; have := HK2.out; have := HJ12.out; have := HK4.out; have := HK5.out; omega
                                            case rel => exact ⟨(x6_5), (wrap64 (x12_5 + 1)), (by first | rfl | (simp; done) | (simp [*]; done)), H', ⟨by have := HK1.out; have := HK2.out; have := HJ12.out; have := HK4.out; have := HK5.out; omega⟩, ⟨by (with_reducible repeat (first | apply Kd.R_alloc | apply Kd.R_drewN | apply Kd.R_drew)); exact HO_5.out⟩, ⟨by (with_reducible repeat (first | apply Kd.R_alloc | apply Kd.R_drewN | apply Kd.R_drew)); exact HO_6.out⟩, ⟨by repeat (first | (with_reducible first | exact HB.out | apply below_alloc | apply pw_below_drewN | apply below_drew1) | exact HB.out)⟩⟩
                                          · replace c34 := Bool.eq_false_iff.mpr c34
                                            subst c34
                                            have H1 : (if x6_5.length < 8796093022208 then (spec_HolesOf.l3 k5 t324 t325 t326 (x6_5 ++ [(⟨wrap64 (((rd_T41 x6_5 x11_4).f0) + (Int.tmod (wrap64 (1 - x12_5)) 2)), wrap64 (((rd_T41 x6_5 x11_4).f1) + (Int.tmod (wrap64 (2 - x12_5)) 2))⟩ : S41)]) (wrap64 (x7_2 + 1)) x8_1 x9_2 x11_4 (wrap64 (x12_5 + 1))) else (none)) = some r := by rw [if_neg (show ¬ (false = true) by decide)] at H; exact H
                                            clear H
                                            have H := H1
                                            clear H1
                                            by_cases c37 : x6_5.length < 8796093022208
                                            · rw [if_pos c37] at H
                                              have LMc37 := Aside0.mk c37
                                              clear c37
                                              obtain ⟨y341, hy341⟩ : ∃ y_ : List (S41), y_ = (x6_5 ++ [(⟨wrap64 (((rd_T41 x6_5 x11_4).f0) + (Int.tmod (wrap64 (1 - x12_5)) 2)), wrap64 (((rd_T41 x6_5 x11_4).f1) + (Int.tmod (wrap64 (2 - x12_5)) 2))⟩ : S41)]) := ⟨_, rfl⟩
                                              replace H : (spec_HolesOf.l3 k5 t324 t325 t326 y341 (wrap64 (x7_2 + 1)) x8_1 x9_2 x11_4 (wrap64 (x12_5 + 1))) = some r := by first | (rw [hy341]; with_reducible exact H) | (have H2_ := (Option.bind_some _ _).symm.trans H; rw [hy341]; with_reducible exact H2_) | (have H2_ := (Option.bind_some _ _).symm.trans H; with_reducible exact H2_) | with_reducible exact H | (rw [hy341]; exact H) | exact H
                                              have Ny341 := Aside0.mk hy341
                                              clear hy341
                                              have H' := Aside0.mk H
                                              clear H
                                              obtain ⟨Ao38, co38, eo38⟩ := Kd.R_slice HO_6.out
                                              subst eo38
                                              have p337 : 0 ≤ (x11_4 : Int) := of_decide_eq_true (by first | (with_reducible assumption) | assumption)
                                              have q337 : x11_4 < (x6_5.length : Int) := of_decide_eq_true (by first | (with_reducible assumption) | assumption)
                                              obtain ⟨ad337, e337, hx337_0, hx337_1⟩ := at_T41 (Kd.R_reads' HO_6.out).2.2 x11_4 p337 q337
                                              cases e337
                                              replace p337 := eq_true p337
                                              replace q337 := eq_true q337
                                              have p338 : 0 ≤ (x11_4 : Int) := of_decide_eq_true (by first | (with_reducible assumption) | assumption)
                                              have q338 : x11_4 < (x6_5.length : Int) := of_decide_eq_true (by first | (with_reducible assumption) | assumption)
                                              obtain ⟨ad338, e338, hx338_0, hx338_1⟩ := at_T41 (Kd.R_reads' HO_6.out).2.2 x11_4 p338 q338
                                              obtain rfl : ad337 = ad338 := (by injection e338)
                                              replace p338 := eq_true p338
                                              replace q338 := eq_true q338
                                              obtain ⟨Ao39, co39, eo39⟩ := Kd.R_slice HO_5.out
                                              subst eo39
                                              go_wp2_with (first | ((with_reducible refine gate_callee (f := 40) rfl ?_); refine goesL_ (some 89) rfl rfl Try.func40 (by kernel_rfl) rfl #[.slice Ao39 t326.length co39, .int .i64 (wrap64 (((rd_T41 x6_5 x11_4).f0) + (Int.tmod (wrap64 (1 - x12_5)) 2))), .int .i64 (wrap64 (((rd_T41 x6_5 x11_4).f1) + (Int.tmod (wrap64 (2 - x12_5)) 2)))] rfl (by (try simp only [List.map_toArray, List.map_cons, List.map_nil]); first | done | rfl | (simp only [List.length_drop, List.length_take]; rfl)) ?_; (with_reducible refine (spec_HasCell.calls _ _ t326 (wrap64 (((rd_T41 x6_5 x11_4).f0) + (Int.tmod (wrap64 (1 - x12_5)) 2))) (wrap64 (((rd_T41 x6_5 x11_4).f1) + (Int.tmod (wrap64 (2 - x12_5)) 2))) false _ ?side1 ?side2 A29.out).mono ?_); (case side1 => repeat (first | exact (Kd.R_reads' HO_5.out).2.2 | (with_reducible refine Kd.C_alloc ?_ _) | (with_reducible refine Kd.C_drewN ?_ _) | (with_reducible refine Kd.C_drew ?_))); (case side2 => exact (Kd.R_reads' HO_5.out).2.1); rintro e w' ⟨rfl, ⟨nd, rfl⟩⟩; refine ⟨_, rfl, ?_⟩) | (go_at_call 40; (with_reducible refine (spec_HasCell.calls _ _ x6_5 (wrap64 (((rd_T41 x6_5 x11_4).f0) + (Int.tmod (wrap64 (1 - x12_5)) 2))) (wrap64 (((rd_T41 x6_5 x11_4).f1) + (Int.tmod (wrap64 (2 - x12_5)) 2))) false _ ?side1 ?side2 A33.out).mono ?_); (case side1 => repeat (first | exact (Kd.R_reads' HO_6.out).2.2 | (with_reducible refine Kd.C_alloc ?_ _) | (with_reducible refine Kd.C_drewN ?_ _) | (with_reducible refine Kd.C_drew ?_))); (case side2 => exact (Kd.R_reads' HO_6.out).2.1); rintro e w' ⟨rfl, ⟨nd, rfl⟩⟩) | ((with_reducible refine gate_builtin (b := .append) (xs := #[.tmp 98, .tmp 102]) rfl ?_); at_builtin; refine Kd.R_append k41 (w0 := w) w.heap.size rfl (.tmp 98) (.tmp 102) 24 41 (.agg #[(.int .i64 0), (.int .i64 0)]) 16 rfl Try.underlying24 info41 rfl (by decide) (by omega) (.slice (some ad337) x6_5.length co38) x6_5 (⟨wrap64 (((rd_T41 x6_5 x11_4).f0) + (Int.tmod (wrap64 (1 - x12_5)) 2)), wrap64 (((rd_T41 x6_5 x11_4).f1) + (Int.tmod (wrap64 (2 - x12_5)) 2))⟩ : S41) [.int .i64 (wrap64 (((rd_T41 x6_5 x11_4).f0) + (Int.tmod (wrap64 (1 - x12_5)) 2))), .int .i64 (wrap64 (((rd_T41 x6_5 x11_4).f1) + (Int.tmod (wrap64 (2 - x12_5)) 2)))] (fun k_ => some k_ ≠ (.slice Ao39 t326.length co39 : Value).ownBlock) (fun _ => False) rfl rfl ?aP (fun _ hk => hk.elim) ?aF ?aO ?aB ?aS ?aL ?_; (case aP => exact k41_mkM _ _ _ (⟨wrap64 (((rd_T41 x6_5 x11_4).f0) + (Int.tmod (wrap64 (1 - x12_5)) 2)), wrap64 (((rd_T41 x6_5 x11_4).f1) + (Int.tmod (wrap64 (2 - x12_5)) 2))⟩ : S41)); (case aB => exact (by repeat (first | (with_reducible first | exact HB.out | apply below_alloc | apply pw_below_drewN | apply below_drew1) | exact HB.out))); (case aF => exact (fun k_ hk => Kd.fresh' (Kd.R_lt (by (with_reducible repeat (first | apply Kd.R_alloc | apply Kd.R_drewN | apply Kd.R_drew)); exact HO_5.out)) k_ hk)); (case aO => exact (by (with_reducible repeat (first | apply Kd.R_alloc | apply Kd.R_drewN | apply Kd.R_drew)); exact HO_6.out)); (case aS => exact (below_size (by repeat (first | (with_reducible first | exact HB.out | apply below_alloc | apply pw_below_drewN | apply below_drew1) | exact HB.out)))); (case aL => have := LMc37.out; omega); intro v342 w40 ho hb hg hat; rw [← Ny341.out] at ho; have n0_ := Aside0.mk (Kd.R_after (ok := (fun _ => True)) (by (with_reducible repeat (first | apply Kd.R_alloc | apply Kd.R_drewN | apply Kd.R_drew)); exact Kd.R_mono HO_5.out (fun _ hk => ⟨trivial, hk⟩)) hg hat); have n1_ := Aside0.mk (hb); have n2_ := Aside0.mk (ho); clear HO_5; clear HB; clear HO_6; have HO_5 := n0_; have HB := n1_; have HO343 := n2_; clear n0_ n1_ n2_; clear ho hb hg hat))
                                              go_roundg k5
                                              case measure => have := HK1.out; have := HK2.out; have := HJ12.out; have := HK4.out; have := HK5.out; omega
                                              case rel => exact ⟨(y341), (wrap64 (x12_5 + 1)), (by first | rfl | (simp; done) | (simp [*]; done)), H', ⟨by have := HK1.out; have := HK2.out; have := HJ12.out; have := HK4.out; have := HK5.out; omega⟩, ⟨by (with_reducible repeat (first | apply Kd.R_alloc | apply Kd.R_drewN | apply Kd.R_drew)); exact Kd.R_mono HO_5.out (fun _ hk => hk.2)⟩, ⟨by (with_reducible repeat (first | apply Kd.R_alloc | apply Kd.R_drewN | apply Kd.R_drew)); exact HO343.out⟩, ⟨by repeat (first | (with_reducible first | exact HB.out | apply below_alloc | apply pw_below_drewN | apply below_drew1) | exact HB.out)⟩⟩
                                            · rw [if_neg c37] at H
                                              exact absurd H (by simp)
                                      · rw [if_neg c28] at H
                                        exact absurd H (by simp)
                                    · rw [if_neg c27] at H
                                      exact absurd H (by simp)
                                  · rw [if_neg c26] at H
                                    have c26b0 : decide (x12_5 < 4) = false := decide_eq_false c26
                                    clear c26
                                    have H' := Aside0.mk H
                                    clear H
                                    go_wp2
                                    go_roundg k5
                                    case measure => have := HK1.out; have := HK2.out; have := HJ12.out; have := HK4.out; have := HK5.out; omega
                                    case rel => exact ⟨(x6_5), (wrap64 (x11_4 + 1)), (by first | rfl | (simp; done) | (simp [*]; done)), H', ⟨by have := HK1.out; have := HK2.out; have := HJ12.out; have := HK4.out; have := HK5.out; omega⟩, ⟨by (with_reducible repeat (first | apply Kd.R_alloc | apply Kd.R_drewN | apply Kd.R_drew)); exact HO_5.out⟩, ⟨by (with_reducible repeat (first | apply Kd.R_alloc | apply Kd.R_drewN | apply Kd.R_drew)); exact HO_6.out⟩, ⟨by repeat (first | (with_reducible first | exact HB.out | apply below_alloc | apply pw_below_drewN | apply below_drew1) | exact HB.out)⟩⟩
                            · rw [if_neg c24] at H
                              have c24b0 : decide (x11_4 < (x6_4.length : Int)) = false := decide_eq_false c24
                              clear c24
                              have H' := Aside0.mk H
                              clear H
                              obtain ⟨Ao41, co41, eo41⟩ := Kd.R_slice HO_6.out
                              subst eo41
                              go_wp2
                              go_roundg k4
                              case measure => have := HK1.out; have := HK2.out; have := HJ12.out; have := HK4.out; omega
                              case rel => exact ⟨(x6_4), ((wrap64 (x7_2 + 1))), (wrap64 (x9_2 + 1)), (by first | rfl | (simp; done) | (simp [*]; done)), (by first | rfl | (simp; done) | (simp [*]; done)), H', ⟨by have := HK1.out; have := HK2.out; have := HJ12.out; have := HK4.out; omega⟩, ⟨by (with_reducible repeat (first | apply Kd.R_alloc | apply Kd.R_drewN | apply Kd.R_drew)); exact HO_5.out⟩, ⟨by (with_reducible repeat (first | apply Kd.R_alloc | apply Kd.R_drewN | apply Kd.R_drew)); exact HO_6.out⟩, ⟨by repeat (first | (with_reducible first | exact HB.out | apply below_alloc | apply pw_below_drewN | apply below_drew1) | exact HB.out)⟩⟩
                      · rw [if_neg c21] at H
                        exact absurd H (by simp)
              · rw [if_neg c12] at H
                have c12b0 : decide (x9_2 < t324) = false := decide_eq_false c12
                clear c12
                have H' := Aside0.mk H
                clear H
                go_wp2
                go_roundg k2
                case measure => have := HK1.out; have := HK2.out; omega
                case rel => exact ⟨(x6_2), (x7_2), (wrap64 (x8_1 + 1)), (by first | rfl | (simp; done) | (simp [*]; done)), (by first | rfl | (simp; done) | (simp [*]; done)), H', ⟨by have := HK1.out; have := HK2.out; omega⟩, ⟨by (with_reducible repeat (first | apply Kd.R_alloc | apply Kd.R_drewN | apply Kd.R_drew)); exact HO_5.out⟩, ⟨by (with_reducible repeat (first | apply Kd.R_alloc | apply Kd.R_drewN | apply Kd.R_drew)); exact HO_6.out⟩, ⟨by repeat (first | (with_reducible first | exact HB.out | apply below_alloc | apply pw_below_drewN | apply below_drew1) | exact HB.out)⟩⟩
        · rw [if_neg c11] at H
          have c11b0 : decide (x8_1 < t325) = false := decide_eq_false c11
          clear c11
          obtain rfl := Option.some.inj H
          go_wp2
          go_ret
          exact ⟨by first | rfl | (simp [errW_none, errW_some] <;> rfl) | (simp [*, errW_none, errW_some] <;> rfl), by repeat (first | (with_reducible first | exact HB.out | apply below_alloc | apply pw_below_drewN | apply below_drew1) | exact HB.out)⟩
  · replace c3 := Bool.eq_false_iff.mpr c3
    subst c3
    have H1 : (some (-1)) = some r := by rw [if_neg (show ¬ (false = true) by decide)] at H; exact H
    clear H
    have H := H1
    clear H1
    obtain rfl := Option.some.inj H
    go_enter Try.func12, Try.ntmps12
    go_wp2_with (first | ((with_reducible refine gate_callee (f := 23) rfl ?_); refine goesL_ (some 16) rfl rfl Try.func23 (by kernel_rfl) rfl #[.slice A0 l0.length c0] rfl (by (try simp only [List.map_toArray, List.map_cons, List.map_nil]); first | done | rfl | (simp only [List.length_drop, List.length_take]; rfl)) ?_; (with_reducible refine (spec_IsShape.calls _ _ l0 false _ ?side1 ?side2 A2.out).mono ?_); (case side1 => repeat (first | exact HR0.out | (with_reducible refine Kd.C_alloc ?_ _) | (with_reducible refine Kd.C_drewN ?_ _) | (with_reducible refine Kd.C_drew ?_))); (case side2 => exact HC0.out); rintro e w42 ⟨rfl, hb⟩; refine ⟨_, rfl, ?_⟩; have n0_ := Aside0.mk (below_step (by repeat (first | (with_reducible first | exact HB.out | apply below_alloc | apply pw_below_drewN | apply below_drew1) | exact HB.out)) hb); clear HB; have HB := n0_; clear n0_; (try clear hb); (try clear hb2); (try clear hk); (try clear hi)))
    go_ret
    exact ⟨by first | rfl | (simp [errW_none, errW_some] <;> rfl) | (simp [*, errW_none, errW_some] <;> rfl), by repeat (first | (with_reducible first | exact HB.out | apply below_alloc | apply pw_below_drewN | apply below_drew1) | exact HB.out)⟩
end Go.Proofs.Ytlohfeicfhmlmaa.PFnOutlines

namespace Go.Proofs.Ytlohfeicfhmlmaa.PFnOutlines
open Go.RowKit Go.Proofs.YtlohfeicfhmlmaaW.PrintWords Go.Proofs.YtlohfeicfhmlmaaW.PrintLast Go.Proofs.YtlohfeicfhmlmaaW.PrintMore ETool
theorem l1In_eq (z a b : Int) : spec_l1In.f z a b = some (decide (a ≤ z) && decide (z ≤ b)) := by
  unfold spec_l1In.f
  by_cases h : a ≤ z <;> simp [h]
theorem rd_app {l m : List S41} {i : Int} (h0 : 0 ≤ i) (h1 : i < l.length) : rd_T41 (l ++ m) i = rd_T41 l i := by
  unfold rd_T41
  rw [List.getD_eq_getElem?_getD, List.getD_eq_getElem?_getD, List.getElem?_append_left (by omega)]
/-- The place beside (u, v) in direction d, as the reference computes it. -/
def nbX (u d : Int) : Int := wrap64 (u + Int.tmod (wrap64 (1 - d)) 2)
def nbY (v d : Int) : Int := wrap64 (v + Int.tmod (wrap64 (2 - d)) 2)
theorem nb_eq {u v : Int} (hu : -100 ≤ u ∧ u ≤ 100) (hv : -100 ≤ v ∧ v ≤ 100) : (nbX u 0 = u + 1 ∧ nbY v 0 = v) ∧ (nbX u 1 = u ∧ nbY v 1 = v + 1) ∧ (nbX u 2 = u - 1 ∧ nbY v 2 = v) ∧ (nbX u 3 = u ∧ nbY v 3 = v - 1) := by
  have e1 : Int.tmod (wrap64 (1 - 0)) 2 = 1 := by rw [w64 (by omega) (by omega)]; rfl
  have e2 : Int.tmod (wrap64 (1 - 1)) 2 = 0 := by rw [w64 (by omega) (by omega)]; rfl
  have e3 : Int.tmod (wrap64 (1 - 2)) 2 = -1 := by rw [w64 (by omega) (by omega)]; rfl
  have e4 : Int.tmod (wrap64 (1 - 3)) 2 = 0 := by rw [w64 (by omega) (by omega)]; rfl
  have f1 : Int.tmod (wrap64 (2 - 0)) 2 = 0 := by rw [w64 (by omega) (by omega)]; rfl
  have f2 : Int.tmod (wrap64 (2 - 1)) 2 = 1 := by rw [w64 (by omega) (by omega)]; rfl
  have f3 : Int.tmod (wrap64 (2 - 2)) 2 = 0 := by rw [w64 (by omega) (by omega)]; rfl
  have f4 : Int.tmod (wrap64 (2 - 3)) 2 = -1 := by rw [w64 (by omega) (by omega)]; rfl
  unfold nbX nbY
  rw [e1, e2, e3, e4, f1, f2, f3, f4]
  refine ⟨⟨w64 (by omega) (by omega), ?_⟩, ⟨?_, w64 (by omega) (by omega)⟩, ⟨?_, ?_⟩, ⟨?_, ?_⟩⟩ <;> (rw [w64 (by omega) (by omega)]; omega)
theorem seen_len {seen : List S41} (hn : seen.Nodup) (hf : ∀ u v : Int, (⟨u, v⟩ : S41) ∈ seen → -1 ≤ u ∧ u ≤ 8 ∧ -1 ≤ v ∧ v ≤ 8) : seen.length ≤ 100 := by
  have := nodup_sub_len hn (ys := grid 10) fun c hc => by
    have := hf c.f0 c.f1 hc
    exact grid_mem (by omega) (by omega) (by omega) (by omega)
  rw [grid10_len] at this
  exact this
theorem nodup_inj {xs : List S41} (h : xs.Nodup) {i j : Nat} (hi : i < xs.length) (hj : j < xs.length) (e : xs[i] = xs[j]) : i = j := by
  rw [List.Nodup, List.pairwise_iff_getElem] at h
  rcases Nat.lt_trichotomy i j with k | k | k
  · exact absurd e (h i j hi hj k)
  · exact k
  · exact absurd e.symm (h j i hj hi k)
theorem nodup_snoc {seen : List S41} {c : S41} (h : seen.Nodup) (hc : c ∉ seen) : (seen ++ [c]).Nodup := by
  rw [List.nodup_append]
  exact ⟨h, by simp, fun a ha b hb => by rw [List.mem_singleton] at hb; subst hb; exact fun e => hc (e ▸ ha)⟩
section
variable {c : List S41} {w h : Int} (hw : 1 ≤ w ∧ w ≤ 8) (hh : 1 ≤ h ∧ h ≤ 8)
def GS (c : List S41) (w h : Int) (x y : Int) : Prop := Gb c 0 (w - 1) 0 (h - 1) x y
theorem GS_iff {c : List S41} {w h x y : Int} : GS c w h x y ↔ (-1 ≤ x ∧ x ≤ w ∧ -1 ≤ y ∧ y ≤ h) ∧ Fr c x y := by
  unfold GS Gb
  constructor
  · rintro ⟨h, k⟩; exact ⟨by omega, k⟩
  · rintro ⟨h, k⟩; exact ⟨by omega, k⟩
structure Bf (c : List S41) (w h : Int) (seen : List S41) (i : Int) (P : Int → Int → Prop) : Prop where
  nd : seen.Nodup
  sub : ∀ u v : Int, (⟨u, v⟩ : S41) ∈ seen → Rch (GS c w h) (-1) (-1) u v
  start : (⟨-1, -1⟩ : S41) ∈ seen
  cls : ∀ p : Int, 0 ≤ p → p < i → ∀ a b, adj4 (rd_T41 seen p).f0 (rd_T41 seen p).f1 a b → GS c w h a b → (⟨a, b⟩ : S41) ∈ seen
  ext : i < seen.length → ∀ a b, adj4 (rd_T41 seen i).f0 (rd_T41 seen i).f1 a b → GS c w h a b → (⟨a, b⟩ : S41) ∈ seen ∨ P a b
include hw hh
theorem Bf.len {seen : List S41} {i : Int} {P : Int → Int → Prop} (H : Bf c w h seen i P) : seen.length ≤ 100 := seen_len H.nd fun u v huv => by
  have := (GS_iff.mp (H.sub u v huv).right).1
  omega
theorem l5_one {i : Int} (hi0 : 0 ≤ i) {d u v a b : Int} (hd0 : 0 ≤ d) (hd4 : d < 4) {P P' : Int → Int → Prop} (hP : ∀ a' b', P a' b' → P' a' b' ∨ (a' = a ∧ b' = b)) (he : adj4 u v a b) (ha : nbX u d = a) (hb : nbY v d = b) {post : List S41 → Prop}
    (next : ∀ seen, Bf c w h seen i P' → i < seen.length → rd_T41 seen i = ⟨u, v⟩ → ∃ out, post out ∧ Ev (fun k => spec_l5Outside.l1 k w h c seen i (d + 1)) out) {seen : List S41} (H : Bf c w h seen i P) (hi1 : i < seen.length) (hr : rd_T41 seen i = ⟨u, v⟩) : ∃ out, post out ∧ Ev (fun k => spec_l5Outside.l1 k w h c seen i d) out := by
  have e1 : wrap64 (d + 1) = d + 1 := w64 (by omega) (by omega)
  have hin : (⟨u, v⟩ : S41) ∈ seen := by rw [← hr]; exact rd_mem hi0 hi1
  have hreach := H.sub u v hin
  have hl := H.len hw hh
  have ea : wrap64 ((rd_T41 seen i).f0 + Int.tmod (wrap64 (1 - d)) 2) = a := by rw [hr]; exact ha
  have eb : wrap64 ((rd_T41 seen i).f1 + Int.tmod (wrap64 (2 - d)) 2) = b := by rw [hr]; exact hb
  by_cases hg : GS c w h a b ∧ hasB seen a b = false
  · obtain ⟨hg1, hg2⟩ := hg
    have hf := (GS_iff.mp hg1).1
    have hfr : hasB c a b = false := (GS_iff.mp hg1).2
    have hno : (⟨a, b⟩ : S41) ∉ seen := Fr_iff.mp hg2
    obtain ⟨out, k1, k2⟩ := next (seen ++ [⟨a, b⟩]) ⟨nodup_snoc H.nd hno, fun x y hxy => by
        rcases List.mem_append.mp hxy with hxy | hxy
        · exact H.sub x y hxy
        · rw [List.mem_singleton, S41.mk.injEq] at hxy
          rw [hxy.1, hxy.2]
          exact .step hreach he hg1, by simp [H.start], fun p p0 p1 x y h1 h2 => by
        rw [rd_app p0 (by omega)] at h1
        simp [H.cls p p0 p1 x y h1 h2], fun _ x y h1 h2 => by
        rw [rd_app hi0 hi1] at h1
        rcases H.ext hi1 x y h1 h2 with k | k
        · exact .inl (by simp [k])
        · rcases hP x y k with k | ⟨rfl, rfl⟩
          · exact .inr k
          · exact .inl (by simp)⟩ (by simp; omega) (by rw [rd_app hi0 hi1]; exact hr)
    refine ⟨out, k1, Ev.step (fun k => ?_) k2⟩
    simp only [spec_l5Outside.l1]
    rw [if_pos hd4, if_pos hi0, if_pos hi1, ea, eb, e1]
    simp only [l1In_eq, spec_HasCell.f, Option.bind_some]
    rw [if_pos (by simp; omega), if_pos (by simp; omega), hfr, if_neg (by simp), hg2, if_neg (by simp), if_pos (by omega)]
  · obtain ⟨out, k1, k2⟩ := next seen ⟨H.nd, H.sub, H.start, H.cls, fun _ x y h1 h2 => by
        rcases H.ext hi1 x y h1 h2 with k | k
        · exact .inl k
        · rcases hP x y k with k | ⟨rfl, rfl⟩
          · exact .inr k
          · refine .inl ?_
            rcases hs : hasB seen x y with _ | _
            · exact absurd ⟨h2, hs⟩ hg
            · exact hasB_iff.mp hs⟩ hi1 hr
    refine ⟨out, k1, Ev.step (fun k => ?_) k2⟩
    simp only [spec_l5Outside.l1]
    rw [if_pos hd4, if_pos hi0, if_pos hi1, ea, eb, e1]
    simp only [l1In_eq, spec_HasCell.f, Option.bind_some]
    by_cases f1 : -1 ≤ a ∧ a ≤ w
    · rw [if_pos (by simp; omega)]
      by_cases f2 : -1 ≤ b ∧ b ≤ h
      · rw [if_pos (by simp; omega)]
        rcases hcc : hasB c a b with _ | _
        · rw [if_neg (by simp)]
          rcases hs : hasB seen a b with _ | _
          · exact absurd ⟨GS_iff.mpr ⟨by omega, hcc⟩, hs⟩ hg
          · rw [if_pos rfl]
        · rw [if_pos rfl]
      · rw [if_neg (by simp; omega)]
    · rw [if_neg (by simp; omega)]
theorem l5_l0 (B : Bxd c 0 (w - 1) 0 (h - 1)) : ∀ (m : Nat) (seen : List S41) (i : Int), 0 ≤ i → Bf c w h seen i (fun a b => i < seen.length ∧ adj4 (rd_T41 seen i).f0 (rd_T41 seen i).f1 a b) → i ≤ seen.length → 101 ≤ i + m → ∃ out, (out.Nodup ∧ ∀ u v : Int, (⟨u, v⟩ : S41) ∈ out ↔ Rch (GS c w h) (-1) (-1) u v) ∧ Ev (fun k => spec_l5Outside.l0 k w h c seen i) out
  | m, seen, i, hi0, H, hil, hm => by
    have hl := H.len hw hh
    by_cases hlt : i < (seen.length : Int)
    · obtain ⟨m', rfl⟩ : ∃ m', m = m' + 1 := ⟨m - 1, by omega⟩
      obtain ⟨u, v, hr⟩ : ∃ u v : Int, rd_T41 seen i = ⟨u, v⟩ := ⟨_, _, rfl⟩
      have hin : (⟨u, v⟩ : S41) ∈ seen := by rw [← hr]; exact rd_mem hi0 hlt
      have hf := (GS_iff.mp (H.sub u v hin).right).1
      obtain ⟨⟨n1, n2⟩, ⟨n3, n4⟩, ⟨n5, n6⟩, n7, n8⟩ := nb_eq (u := u) (v := v) (by omega) (by omega)
      have ih := fun seen H1 H2 H3 H4 => l5_l0 B m' seen (i + 1) H1 H2 H3 H4
      have q4 : ∀ seen, Bf c w h seen i (fun _ _ => False) → i < seen.length → rd_T41 seen i = ⟨u, v⟩ → ∃ out, (out.Nodup ∧ ∀ u v : Int, (⟨u, v⟩ : S41) ∈ out ↔ Rch (GS c w h) (-1) (-1) u v) ∧ Ev (fun k => spec_l5Outside.l1 k w h c seen i (3 + 1)) out := by
        intro seen H h1 hr
        have hl := H.len hw hh
        have e1 : wrap64 (i + 1) = i + 1 := w64 (by omega) (by omega)
        obtain ⟨out, k1, k2⟩ := ih seen (by omega) ⟨H.nd, H.sub, H.start, fun p p0 p1 a b g1 g2 => by
            by_cases e : p = i
            · subst e
              rcases H.ext h1 a b g1 g2 with k | k
              · exact k
              · cases k
            · exact H.cls p p0 (by omega) a b g1 g2, fun g1 a b g2 g3 => .inr ⟨g1, g2⟩⟩ (by omega) (by omega)
        refine ⟨out, k1, Ev.step (fun k => ?_) k2⟩
        simp only [spec_l5Outside.l1]
        rw [if_neg (by omega), e1]
      have q3 := fun seen => l5_one (c := c) (P := fun a b => a = u ∧ b = v - 1) hw hh hi0 (d := 3) (u := u) (v := v) (a := u) (b := v - 1) (by omega) (by omega) (fun a b k => .inr k) (by unfold adj4; omega) n7 n8 q4 (seen := seen)
      have q2 := fun seen => l5_one (c := c) (P := fun a b => (a = u - 1 ∧ b = v) ∨ (a = u ∧ b = v - 1)) hw hh hi0 (d := 2) (u := u) (v := v) (a := u - 1) (b := v) (by omega) (by omega) (fun a b k => k.elim .inr .inl) (by unfold adj4; omega) n5 n6 q3 (seen := seen)
      have q1 := fun seen => l5_one (c := c) (P := fun a b => (a = u ∧ b = v + 1) ∨ (a = u - 1 ∧ b = v) ∨ (a = u ∧ b = v - 1)) hw hh hi0 (d := 1) (u := u) (v := v) (a := u) (b := v + 1) (by omega) (by omega) (fun a b k => k.elim .inr .inl) (by unfold adj4; omega) n3 n4 q2 (seen := seen)
      obtain ⟨out, k1, k2⟩ := l5_one (c := c) (P := fun a b => (a = u + 1 ∧ b = v) ∨ (a = u ∧ b = v + 1) ∨ (a = u - 1 ∧ b = v) ∨ (a = u ∧ b = v - 1)) hw hh hi0 (d := 0) (u := u) (v := v) (a := u + 1) (b := v) (by omega) (by omega) (fun a b k => k.elim .inr .inl) (by unfold adj4; omega) n1 n2 q1 (seen := seen) ⟨H.nd, H.sub, H.start, H.cls, fun _ a b g1 g2 => .inr (by rw [hr] at g1; unfold adj4 at g1; simp only at g1; omega)⟩ hlt hr
      refine ⟨out, k1, Ev.step (fun k => ?_) k2⟩
      simp only [spec_l5Outside.l0]
      rw [if_pos hlt]
    · refine ⟨seen, ⟨H.nd, fun u v => ⟨H.sub u v, fun hr => ?_⟩⟩, Ev.step (f := fun _ => some seen) (fun k => ?_) (Ev.now _)⟩
      · induction hr with
        | base _ => exact H.start
        | step h1 e f ih =>
          obtain ⟨p, p0, p1, ep⟩ := mem_rd ih
          exact H.cls p p0 (by omega) _ _ (by rw [ep]; exact e) f
      · simp only [spec_l5Outside.l0]
        rw [if_neg hlt]
end
theorem l5_ev {l c : List S41} {dx dy w h : Int} (C : Crn l c dx dy w h) (hc : Ev (fun k => spec_CornerShape.f k l) c) (hsz : Ev (fun k => spec_SizeOf.f k l) (w, h)) : ∃ out, (out.Nodup ∧ ∀ u v : Int, (⟨u, v⟩ : S41) ∈ out ↔ Rch (GS c w h) (-1) (-1) u v) ∧ Ev (fun k => spec_l5Outside.f k l) out := by
  have B := C.bxd
  have h1 := C.hw
  have h2 := C.hh
  obtain ⟨out, k1, k2⟩ := l5_l0 (c := c) C.hw C.hh B 101 [⟨-1, -1⟩] 0 (by omega) ⟨by simp, fun u v huv => by
      rw [List.mem_singleton, S41.mk.injEq] at huv
      rw [huv.1, huv.2]
      exact .base (GS_iff.mpr ⟨by omega, B.free (by unfold inB4; omega)⟩), by simp, fun p p0 p1 => by omega, fun h1 a b h2 h3 => .inr ⟨h1, h2⟩⟩ (by simp) (by omega)
  exact ⟨out, k1, Ev.bind hsz (Ev.bind hc k2)⟩
structure Hf (c : List S41) (px py : Int) (S0 seen : List S41) (i : Int) (P : Int → Int → Prop) : Prop where
  nd : seen.Nodup
  pre : ∃ T, seen = S0 ++ T
  sub : ∀ u v : Int, (⟨u, v⟩ : S41) ∈ seen → (⟨u, v⟩ : S41) ∈ S0 ∨ Rch (Fr c) px py u v
  start : (⟨px, py⟩ : S41) ∈ seen
  cls : ∀ p : Int, (S0.length : Int) ≤ p → p < i → ∀ a b, adj4 (rd_T41 seen p).f0 (rd_T41 seen p).f1 a b → Fr c a b → (⟨a, b⟩ : S41) ∈ seen
  ext : i < seen.length → ∀ a b, adj4 (rd_T41 seen i).f0 (rd_T41 seen i).f1 a b → Fr c a b → (⟨a, b⟩ : S41) ∈ seen ∨ P a b
section
variable {c : List S41} {w h : Int} (hw : 1 ≤ w ∧ w ≤ 8) (hh : 1 ≤ h ∧ h ≤ 8) (B : Bxd c 0 (w - 1) 0 (h - 1)) {px py : Int} (hp1 : Fr c px py) (hp2 : ¬ Esc c px py) {S0 : List S41} (hS : ∀ u v : Int, (⟨u, v⟩ : S41) ∈ S0 → -1 ≤ u ∧ u ≤ w ∧ -1 ≤ v ∧ v ≤ h) (hD : ∀ u v : Int, (⟨u, v⟩ : S41) ∈ S0 → ¬ Rch (Fr c) px py u v)
include hw hh B hp2 hS
theorem Hf.frame {seen : List S41} {i : Int} {P : Int → Int → Prop} (H : Hf c px py S0 seen i P) : ∀ u v : Int, (⟨u, v⟩ : S41) ∈ seen → -1 ≤ u ∧ u ≤ w ∧ -1 ≤ v ∧ v ≤ h := by
  have _ := hw
  have _ := hh
  intro u v huv
  rcases H.sub u v huv with k | k
  · exact hS u v k
  · have := B.hole_in k.right (B.hole_rch hp2 k).2
    unfold inB4 at this
    omega
theorem Hf.len {seen : List S41} {i : Int} {P : Int → Int → Prop} (H : Hf c px py S0 seen i P) : seen.length ≤ 100 := seen_len H.nd fun u v huv => by
  have := H.frame hw hh B hp2 hS u v huv
  omega
theorem h3_one {i n y x r : Int} (hi0 : 0 ≤ i) {d u v a b : Int} (hd0 : 0 ≤ d) (hd4 : d < 4) {P P' : Int → Int → Prop} (hP : ∀ a' b', P a' b' → P' a' b' ∨ (a' = a ∧ b' = b)) (hrch : Rch (Fr c) px py u v) (he : adj4 u v a b) (ha : nbX u d = a) (hb : nbY v d = b)
    (next : ∀ seen, Hf c px py S0 seen i P' → i < seen.length → rd_T41 seen i = ⟨u, v⟩ → Ev (fun k => spec_HolesOf.l3 k w h c seen n y x i (d + 1)) r) {seen : List S41} (H : Hf c px py S0 seen i P) (hi1 : i < seen.length) (hr : rd_T41 seen i = ⟨u, v⟩) : Ev (fun k => spec_HolesOf.l3 k w h c seen n y x i d) r := by
  have e1 : wrap64 (d + 1) = d + 1 := w64 (by omega) (by omega)
  have hl := H.len hw hh B hp2 hS
  have ea : wrap64 ((rd_T41 seen i).f0 + Int.tmod (wrap64 (1 - d)) 2) = a := by rw [hr]; exact ha
  have eb : wrap64 ((rd_T41 seen i).f1 + Int.tmod (wrap64 (2 - d)) 2) = b := by rw [hr]; exact hb
  by_cases hg : Fr c a b ∧ hasB seen a b = false
  · obtain ⟨hg1, hg2⟩ := hg
    have hfr : hasB c a b = false := hg1
    have hno : (⟨a, b⟩ : S41) ∉ seen := Fr_iff.mp hg2
    obtain ⟨T, hT⟩ := H.pre
    have k2 := next (seen ++ [⟨a, b⟩]) ⟨nodup_snoc H.nd hno, ⟨T ++ [⟨a, b⟩], by rw [hT]; simp⟩, fun x y hxy => by
        rcases List.mem_append.mp hxy with hxy | hxy
        · exact H.sub x y hxy
        · rw [List.mem_singleton, S41.mk.injEq] at hxy
          rw [hxy.1, hxy.2]
          exact .inr (.step hrch he hg1), by simp [H.start], fun p p0 p1 x y h1 h2 => by
        rw [rd_app (by omega) (by omega)] at h1
        simp [H.cls p p0 p1 x y h1 h2], fun _ x y h1 h2 => by
        rw [rd_app hi0 hi1] at h1
        rcases H.ext hi1 x y h1 h2 with k | k
        · exact .inl (by simp [k])
        · rcases hP x y k with k | ⟨rfl, rfl⟩
          · exact .inr k
          · exact .inl (by simp)⟩ (by simp; omega) (by rw [rd_app hi0 hi1]; exact hr)
    refine Ev.step (fun k => ?_) k2
    simp only [spec_HolesOf.l3]
    rw [if_pos hd4, if_pos hi0, if_pos hi1, ea, eb, e1]
    simp only [spec_HasCell.f, Option.bind_some]
    rw [hfr, if_neg (by simp), hg2, if_neg (by simp), if_pos (by omega)]
  · have k2 := next seen ⟨H.nd, H.pre, H.sub, H.start, H.cls, fun _ x y h1 h2 => by
        rcases H.ext hi1 x y h1 h2 with k | k
        · exact .inl k
        · rcases hP x y k with k | ⟨rfl, rfl⟩
          · exact .inr k
          · refine .inl ?_
            rcases hs : hasB seen x y with _ | _
            · exact absurd ⟨h2, hs⟩ hg
            · exact hasB_iff.mp hs⟩ hi1 hr
    refine Ev.step (fun k => ?_) k2
    simp only [spec_HolesOf.l3]
    rw [if_pos hd4, if_pos hi0, if_pos hi1, ea, eb, e1]
    simp only [spec_HasCell.f, Option.bind_some]
    rcases hcc : hasB c a b with _ | _
    · rw [if_neg (by simp)]
      rcases hs : hasB seen a b with _ | _
      · exact absurd ⟨hcc, hs⟩ hg
      · rw [if_pos rfl]
    · rw [if_pos rfl]
include hp1 hD
theorem h2_ev {n y x r : Int} (hx : 0 ≤ x ∧ x ≤ 8) (cont : ∀ seen, seen.Nodup → (∀ u v : Int, (⟨u, v⟩ : S41) ∈ seen ↔ (⟨u, v⟩ : S41) ∈ S0 ∨ Rch (Fr c) px py u v) → Ev (fun k => spec_HolesOf.l1 k w h c seen n y (x + 1)) r) : ∀ (m : Nat) (seen : List S41) (i : Int), (S0.length : Int) ≤ i → Hf c px py S0 seen i (fun a b => i < seen.length ∧ adj4 (rd_T41 seen i).f0 (rd_T41 seen i).f1 a b) → i ≤ seen.length → 101 ≤ i + m → Ev (fun k => spec_HolesOf.l2 k w h c seen n y x i) r
  | m, seen, i, hi0, H, hil, hm => by
    have _ := hp1
    have hl := H.len hw hh B hp2 hS
    have hi00 : 0 ≤ i := by omega
    by_cases hlt : i < (seen.length : Int)
    · obtain ⟨m', rfl⟩ : ∃ m', m = m' + 1 := ⟨m - 1, by omega⟩
      obtain ⟨u, v, hr⟩ : ∃ u v : Int, rd_T41 seen i = ⟨u, v⟩ := ⟨_, _, rfl⟩
      have hin : (⟨u, v⟩ : S41) ∈ seen := by rw [← hr]; exact rd_mem hi00 hlt
      have hf := H.frame hw hh B hp2 hS u v hin
      have hrch : Rch (Fr c) px py u v := by
        rcases H.sub u v hin with k | k
        · exfalso
          obtain ⟨T, hT⟩ := H.pre
          obtain ⟨q, q0, q1, eq⟩ := mem_rd k
          have e2 : rd_T41 seen q = rd_T41 seen i := by rw [hr, hT, rd_app q0 q1, eq]
          unfold rd_T41 at e2
          rw [List.getD_eq_getElem?_getD, List.getD_eq_getElem?_getD, List.getElem?_eq_getElem (by omega), List.getElem?_eq_getElem (by omega)] at e2
          have := nodup_inj H.nd (by omega) (by omega) e2
          omega
        · exact k
      obtain ⟨⟨n1, n2⟩, ⟨n3, n4⟩, ⟨n5, n6⟩, n7, n8⟩ := nb_eq (u := u) (v := v) (by omega) (by omega)
      have ih := fun seen H1 H2 H3 H4 => h2_ev hx cont m' seen (i + 1) H1 H2 H3 H4
      have q4 : ∀ seen, Hf c px py S0 seen i (fun _ _ => False) → i < seen.length → rd_T41 seen i = ⟨u, v⟩ → Ev (fun k => spec_HolesOf.l3 k w h c seen n y x i (3 + 1)) r := by
        intro seen H h1 hr
        have hl := H.len hw hh B hp2 hS
        have e1 : wrap64 (i + 1) = i + 1 := w64 (by omega) (by omega)
        refine Ev.step (fun k => ?_) (ih seen (by omega) ⟨H.nd, H.pre, H.sub, H.start, fun p p0 p1 a b g1 g2 => by
            by_cases e : p = i
            · subst e
              rcases H.ext h1 a b g1 g2 with k | k
              · exact k
              · cases k
            · exact H.cls p p0 (by omega) a b g1 g2, fun g1 a b g2 g3 => .inr ⟨g1, g2⟩⟩ (by omega) (by omega))
        simp only [spec_HolesOf.l3]
        rw [if_neg (by omega), e1]
      have q3 := fun seen => h3_one (c := c) (P := fun a b => a = u ∧ b = v - 1) (n := n) (y := y) (x := x) (r := r) hw hh B hp2 hS hi00 (d := 3) (u := u) (v := v) (a := u) (b := v - 1) (by omega) (by omega) (fun a b k => .inr k) hrch (by unfold adj4; omega) n7 n8 q4 (seen := seen)
      have q2 := fun seen => h3_one (c := c) (P := fun a b => (a = u - 1 ∧ b = v) ∨ (a = u ∧ b = v - 1)) (n := n) (y := y) (x := x) (r := r) hw hh B hp2 hS hi00 (d := 2) (u := u) (v := v) (a := u - 1) (b := v) (by omega) (by omega) (fun a b k => k.elim .inr .inl) hrch (by unfold adj4; omega) n5 n6 q3 (seen := seen)
      have q1 := fun seen => h3_one (c := c) (P := fun a b => (a = u ∧ b = v + 1) ∨ (a = u - 1 ∧ b = v) ∨ (a = u ∧ b = v - 1)) (n := n) (y := y) (x := x) (r := r) hw hh B hp2 hS hi00 (d := 1) (u := u) (v := v) (a := u) (b := v + 1) (by omega) (by omega) (fun a b k => k.elim .inr .inl) hrch (by unfold adj4; omega) n3 n4 q2 (seen := seen)
      have k2 := h3_one (c := c) (P := fun a b => (a = u + 1 ∧ b = v) ∨ (a = u ∧ b = v + 1) ∨ (a = u - 1 ∧ b = v) ∨ (a = u ∧ b = v - 1)) (n := n) (y := y) (x := x) (r := r) hw hh B hp2 hS hi00 (d := 0) (u := u) (v := v) (a := u + 1) (b := v) (by omega) (by omega) (fun a b k => k.elim .inr .inl) hrch (by unfold adj4; omega) n1 n2 q1 (seen := seen) ⟨H.nd, H.pre, H.sub, H.start, H.cls, fun _ a b g1 g2 => .inr (by rw [hr] at g1; unfold adj4 at g1; simp only at g1; omega)⟩ hlt hr
      refine Ev.step (fun k => ?_) k2
      simp only [spec_HolesOf.l2]
      rw [if_pos hlt]
    · have e1 : wrap64 (x + 1) = x + 1 := w64 (by omega) (by omega)
      refine Ev.step (f := fun k => spec_HolesOf.l1 k w h c seen n y (x + 1)) (fun k => ?_) (cont seen H.nd fun u v => ⟨H.sub u v, ?_⟩)
      · simp only [spec_HolesOf.l2]
        rw [if_neg hlt, e1]
      · obtain ⟨T, hT⟩ := H.pre
        rintro (k | hr)
        · rw [hT]; simp [k]
        · induction hr with
          | base _ => exact H.start
          | step h1 e f ih =>
            obtain ⟨p, p0, p1, ep⟩ := mem_rd ih
            by_cases hps : p < S0.length
            · exfalso
              refine hD _ _ ?_ h1
              rw [hT, rd_app p0 (by omega)] at ep
              rw [← ep]
              exact rd_mem p0 hps
            · exact H.cls p (by omega) (by omega) _ _ (by rw [ep]; exact e) f
end
def bef2 (u v x y : Int) : Prop := v < y ∨ (v = y ∧ u < x)
structure Sd (c : List S41) (w h : Int) (seen : List S41) (n : Int) (L : List S41) (x y : Int) : Prop where
  nd : seen.Nodup
  mem : ∀ u v : Int, (⟨u, v⟩ : S41) ∈ seen ↔ ((-1 ≤ u ∧ u ≤ w ∧ -1 ≤ v ∧ v ≤ h) ∧ Esc c u v) ∨ (∃ a b, (0 ≤ a ∧ a < w ∧ 0 ≤ b ∧ b < h) ∧ bef2 a b x y ∧ ¬ Esc c a b ∧ Rch (Fr c) a b u v)
  ln : L.Nodup
  lm : ∀ u v : Int, (⟨u, v⟩ : S41) ∈ L ↔ Lead c u v ∧ bef2 u v x y
  num : n = L.length
  le : n ≤ 10 * y + x
section
variable {c : List S41} {w h : Int} (hw : 1 ≤ w ∧ w ≤ 8) (hh : 1 ≤ h ∧ h ≤ 8) (B : Bxd c 0 (w - 1) 0 (h - 1))
include B
theorem Sd.skip {seen : List S41} {n : Int} {L : List S41} {x y : Int} (H : Sd c w h seen n L x y) (hxy : hasB c x y = true ∨ hasB seen x y = true) : Sd c w h seen n L (x + 1) y := by
  have _ := B
  have hp : ¬ Esc c x y → ∀ u v, Rch (Fr c) x y u v → ∃ a b, (0 ≤ a ∧ a < w ∧ 0 ≤ b ∧ b < h) ∧ bef2 a b x y ∧ ¬ Esc c a b ∧ Rch (Fr c) a b u v := by
    intro hE u v hr
    rcases hxy with k | k
    · have := hr.left
      unfold Fr at this
      rw [this] at k
      cases k
    · rcases (H.mem x y).mp (hasB_iff.mp k) with k | ⟨a, b, k1, k2, k3, k4⟩
      · exact absurd k.2 hE
      · exact ⟨a, b, k1, k2, k3, k4.trans hr⟩
  refine ⟨H.nd, fun u v => (H.mem u v).trans (or_congr Iff.rfl ⟨?_, ?_⟩), H.ln, fun u v => (H.lm u v).trans ⟨?_, ?_⟩, H.num, by have := H.le; omega⟩
  · rintro ⟨a, b, k1, k2, k3⟩
    exact ⟨a, b, k1, by unfold bef2 at *; omega, k3⟩
  · rintro ⟨a, b, k1, k2, k3, k4⟩
    by_cases e : a = x ∧ b = y
    · obtain ⟨rfl, rfl⟩ := e
      exact hp k3 u v k4
    · exact ⟨a, b, k1, by unfold bef2 at *; omega, k3, k4⟩
  · rintro ⟨k1, k2⟩
    exact ⟨k1, by unfold bef2 at *; omega⟩
  · rintro ⟨k1, k2⟩
    by_cases e : u = x ∧ v = y
    · obtain ⟨rfl, rfl⟩ := e
      obtain ⟨a, b, g1, g2, g3, g4⟩ := hp k1.2.1 u v (.base k1.1)
      exact absurd g4 (k1.2.2 a b g2)
    · exact ⟨k1, by unfold bef2 at *; omega⟩
include hw hh
theorem sscan {r : Int} (fin : ∀ n, HolN c n → r = n) : ∀ (m : Nat) (seen : List S41) (n : Int) (L : List S41) (x y : Int), Sd c w h seen n L x y → 0 ≤ x → x ≤ w → 0 ≤ y → y < h → 200 ≤ m + (11 * y + x) → Ev (fun k => spec_HolesOf.l1 k w h c seen n y x) r
  | 0, seen, n, L, x, y, _, _, _, _, _, hm => by omega
  | m + 1, seen, n, L, x, y, H, hx0, hx1, hy0, hy1, hm => by
    have hn := H.le
    have hn0 : 0 ≤ n := by rw [H.num]; omega
    have w1 : wrap64 (x + 1) = x + 1 := w64 (by omega) (by omega)
    have w2 : wrap64 (y + 1) = y + 1 := w64 (by omega) (by omega)
    have w3 : wrap64 (n + 1) = n + 1 := w64 (by omega) (by omega)
    by_cases hx : x < w
    · have ih := fun seen n L H' => sscan fin m seen n L (x + 1) y H' (by omega) (by omega) hy0 hy1 (by omega)
      rcases hc : hasB c x y with _ | _
      · rcases hs : hasB seen x y with _ | _
        · have hno : (⟨x, y⟩ : S41) ∉ seen := Fr_iff.mp hs
          have hE : ¬ Esc c x y := fun hE => hno ((H.mem x y).mpr (.inl ⟨by omega, hE⟩))
          have hS : ∀ u v : Int, (⟨u, v⟩ : S41) ∈ seen → -1 ≤ u ∧ u ≤ w ∧ -1 ≤ v ∧ v ≤ h := by
            intro u v huv
            rcases (H.mem u v).mp huv with k | ⟨a, b, k1, k2, k3, k4⟩
            · exact k.1
            · have := B.hole_in k4.right (B.hole_rch k3 k4).2
              unfold inB4 at this
              omega
          have hD : ∀ u v : Int, (⟨u, v⟩ : S41) ∈ seen → ¬ Rch (Fr c) x y u v := by
            intro u v huv hr
            refine hno ((H.mem x y).mpr ?_)
            rcases (H.mem u v).mp huv with k | ⟨a, b, k1, k2, k3, k4⟩
            · exact absurd (Esc.of hr k.2) hE
            · exact .inr ⟨a, b, k1, k2, k3, k4.trans hr.symm⟩
          have hl := seen_len H.nd fun u v huv => by have := hS u v huv; omega
          have hlead : Lead c x y := ⟨hc, hE, fun u v huv hr => by
            have hu := B.hole_rch hE hr.symm
            have hin := B.hole_in hr.left hu.2
            unfold inB4 at hin
            exact hno ((H.mem x y).mpr (.inr ⟨u, v, by omega, huv, hu.2, hr⟩))⟩
          refine Ev.step (f := fun k => spec_HolesOf.j2 k w h c seen n y x false) (fun k => ?_) ?_
          · simp only [spec_HolesOf.l1, spec_HasCell.f, Option.bind_some]
            rw [if_pos hx, hc, if_neg (by simp), hs]
          · refine Ev.step (f := fun k => spec_HolesOf.l2 k w h c (seen ++ [⟨x, y⟩]) (n + 1) y x (seen.length : Int)) (fun k => ?_) ?_
            · simp only [spec_HolesOf.j2]
              rw [if_neg (by simp), if_pos (by omega), w3]
            · refine h2_ev (S0 := seen) hw hh B hc hE hS hD (by omega) (fun sn k1 k2 => ?_) 101 _ _ (by omega) ⟨nodup_snoc H.nd hno, ⟨_, rfl⟩, fun u v huv => ?_, by simp, fun p p0 p1 => by omega, fun g1 a b g2 g3 => .inr ⟨g1, g2⟩⟩ (by simp; omega) (by omega)
              · refine ih sn (n + 1) (⟨x, y⟩ :: L) ⟨k1, fun u v => ?_, ?_, fun u v => ?_, by rw [H.num]; simp, by omega⟩
                · rw [k2, H.mem]
                  constructor
                  · rintro ((g | ⟨a, b, g1, g2, g3⟩) | g)
                    · exact .inl g
                    · exact .inr ⟨a, b, g1, by unfold bef2 at *; omega, g3⟩
                    · exact .inr ⟨x, y, by omega, by unfold bef2; omega, hE, g⟩
                  · rintro (g | ⟨a, b, g1, g2, g3, g4⟩)
                    · exact .inl (.inl g)
                    · by_cases e : a = x ∧ b = y
                      · obtain ⟨rfl, rfl⟩ := e
                        exact .inr g4
                      · exact .inl (.inr ⟨a, b, g1, by unfold bef2 at *; omega, g3, g4⟩)
                · rw [List.nodup_cons]
                  refine ⟨fun hm => ?_, H.ln⟩
                  have := ((H.lm x y).mp hm).2
                  unfold bef2 at this
                  omega
                · rw [List.mem_cons, S41.mk.injEq, H.lm]
                  constructor
                  · rintro (⟨rfl, rfl⟩ | ⟨g1, g2⟩)
                    · exact ⟨hlead, by unfold bef2; omega⟩
                    · exact ⟨g1, by unfold bef2 at *; omega⟩
                  · rintro ⟨g1, g2⟩
                    by_cases e : u = x ∧ v = y
                    · exact .inl e
                    · exact .inr ⟨g1, by unfold bef2 at *; omega⟩
              · rcases List.mem_append.mp huv with g | g
                · exact .inl g
                · rw [List.mem_singleton, S41.mk.injEq] at g
                  rw [g.1, g.2]
                  exact .inr (.base hc)
        · refine Ev.step (f := fun k => spec_HolesOf.j2 k w h c seen n y x true) (fun k => ?_) ?_
          · simp only [spec_HolesOf.l1, spec_HasCell.f, Option.bind_some]
            rw [if_pos hx, hc, if_neg (by simp), hs]
          · refine Ev.step (f := fun k => spec_HolesOf.l1 k w h c seen n y (x + 1)) (fun k => ?_) (ih seen n L (H.skip B (.inr hs)))
            simp only [spec_HolesOf.j2]
            rw [if_pos trivial, w1]
      · refine Ev.step (f := fun k => spec_HolesOf.j2 k w h c seen n y x true) (fun k => ?_) ?_
        · simp only [spec_HolesOf.l1, spec_HasCell.f, Option.bind_some]
          rw [if_pos hx, hc, if_pos rfl]
        · refine Ev.step (f := fun k => spec_HolesOf.l1 k w h c seen n y (x + 1)) (fun k => ?_) (ih seen n L (H.skip B (.inl hc)))
          simp only [spec_HolesOf.j2]
          rw [if_pos trivial, w1]
    · have e0 : x = w := by omega
      refine Ev.step (f := fun k => spec_HolesOf.l0 k w h c seen n (y + 1)) (fun k => ?_) ?_
      · simp only [spec_HolesOf.l1]
        rw [if_neg (by omega), w2]
      · have hb : ∀ u v, (0 ≤ u ∧ u < w ∧ 0 ≤ v ∧ v < h) → (bef2 u v x y ↔ bef2 u v 0 (y + 1)) := by
          intro u v huv
          unfold bef2
          omega
        have H' : Sd c w h seen n L 0 (y + 1) := by
          refine ⟨H.nd, fun u v => (H.mem u v).trans (or_congr Iff.rfl ⟨?_, ?_⟩), H.ln, fun u v => (H.lm u v).trans (and_congr_right fun hL => hb u v ?_), H.num, by omega⟩
          · rintro ⟨a, b, k1, k2, k3⟩
            exact ⟨a, b, k1, (hb a b k1).mp k2, k3⟩
          · rintro ⟨a, b, k1, k2, k3⟩
            exact ⟨a, b, k1, (hb a b k1).mpr k2, k3⟩
          · have := B.hole_in hL.1 hL.2.1
            unfold inB4 at this
            omega
        by_cases hy : y + 1 < h
        · refine Ev.step (f := fun k => spec_HolesOf.l1 k w h c seen n (y + 1) 0) (fun k => ?_) (sscan fin m seen n L 0 (y + 1) H' (by omega) (by omega) (by omega) hy (by omega))
          simp only [spec_HolesOf.l0]
          rw [if_pos hy]
        · refine Ev.step (f := fun _ => some r) (fun k => ?_) (Ev.now r)
          simp only [spec_HolesOf.l0]
          rw [if_neg hy, fin n ⟨L, H'.ln, fun u v => (H'.lm u v).trans ⟨fun k => k.1, fun k => ⟨k, ?_⟩⟩, H'.num.symm⟩]
          have := B.hole_in k.1 k.2.1
          unfold inB4 at this
          unfold bef2
          omega
end
theorem sHoles_plain {l : List S41} (hs : isShapeB l = true) {r : Int} (hr : HolN l r) : Ev (fun k => spec_HolesOf.f k l) r := by
  obtain ⟨dx, dy, w, h, C, hsz⟩ := size_ev hs
  have hc := corner_ev hs
  obtain ⟨out, ⟨o1, o2⟩, o3⟩ := l5_ev C hc hsz
  have B := C.bxd
  have h1 := C.hw
  have h2 := C.hh
  have hfin : ∀ n, HolN (crnW l) n → r = n := fun n hn => hr.uniq (hn.move C.has)
  have k0 : Ev (fun k => spec_HolesOf.l0 k w h (crnW l) out 0 0) r := by
    refine Ev.step (f := fun k => spec_HolesOf.l1 k w h (crnW l) out 0 0 0) (fun k => ?_) (sscan C.hw C.hh B hfin 200 out 0 [] 0 0 ⟨o1, fun u v => ?_, by simp, fun u v => ?_, by simp, by omega⟩ (by omega) (by omega) (by omega) (by omega) (by omega))
    · simp only [spec_HolesOf.l0]
      rw [if_pos (by omega)]
    · rw [o2]
      constructor
      · intro k
        have hf := (GS_iff.mp k.right).1
        exact .inl ⟨hf, (B.frame_iff (x := u) (y := v) (by omega)).mp k⟩
      · rintro (k | ⟨a, b, k1, k2, k3⟩)
        · exact (B.frame_iff (x := u) (y := v) (by omega)).mpr k.2
        · unfold bef2 at k2
          omega
    · constructor
      · intro k; cases k
      · rintro ⟨k1, k2⟩
        have := B.hole_in k1.1 k1.2.1
        unfold inB4 at this
        unfold bef2 at k2
        omega
  refine Ev.congr (f := fun k => (spec_SizeOf.f k l).bind fun bt324 => ((spec_CornerShape.f k l).bind fun t326 => ((spec_l5Outside.f k l).bind fun t329 => (spec_HolesOf.l0 k bt324.1 bt324.2 t326 t329 0 0)))) (fun k => ?_) (Ev.bind hsz (Ev.bind hc (Ev.bind o3 k0)))
  unfold spec_HolesOf.f spec_IsShape.f
  rw [hs]
  rfl
end Go.Proofs.Ytlohfeicfhmlmaa.PFnOutlines

namespace Go.Proofs.Ytlohfeicfhmlmaa.PFnOutlines
open Go.RowKit Go.Proofs.YtlohfeicfhmlmaaW.PrintWords Go.Proofs.YtlohfeicfhmlmaaW.PrintLast Go.Proofs.YtlohfeicfhmlmaaW.PrintMore ETool
open Classical in
noncomputable def holB (l : List S41) : Int := if h : isShapeB l = true then Classical.choose (HolN.ex (shape_Bxd h)) else -1
theorem holB_yes {l : List S41} (h : isShapeB l = true) : HolN l (holB l) := by
  unfold holB
  rw [dif_pos h]
  exact Classical.choose_spec (HolN.ex (shape_Bxd h))
theorem holB_no {l : List S41} (h : isShapeB l = false) : holB l = -1 := by
  unfold holB
  rw [dif_neg (by rw [h]; simp)]
theorem iHol (A0 : Option Addr) (c0 : Nat) (l0 : List S41) (w : World) (hr0 : Kd.C k41 w A0 l0.length l0) (hc0 : l0.length ≤ c0) :
    Calls Try.prog 8 #[.slice A0 l0.length c0] w fun e w' => e = .returned (.int .i64 (holB l0)) ∧ Below w.heap.size w w' := by
  rcases hs : isShapeB l0 with _ | _
  · refine impl_HolesOf.calls 0 A0 c0 l0 (holB l0) w hr0 hc0 ?_
    unfold impl_HolesOf.f impl_IsShape.f
    rw [holB_no hs, hs]
    rfl
  · obtain ⟨k, hk⟩ := (iHoles_plain hs (holB_yes hs)).rounds
    exact impl_HolesOf.calls k A0 c0 l0 (holB l0) w hr0 hc0 hk
theorem sHol (A0 : Option Addr) (c0 : Nat) (l0 : List S41) (w : World) (hr0 : Kd.C k41 w A0 l0.length l0) (hc0 : l0.length ≤ c0) :
    Calls Try.prog 12 #[.slice A0 l0.length c0] w fun e w' => e = .returned (.int .i64 (holB l0)) ∧ Below w.heap.size w w' := by
  rcases hs : isShapeB l0 with _ | _
  · refine spec_HolesOf.calls 0 A0 c0 l0 (holB l0) w hr0 hc0 ?_
    unfold spec_HolesOf.f spec_IsShape.f
    rw [holB_no hs, hs]
    rfl
  · obtain ⟨k, hk⟩ := (sHoles_plain hs (holB_yes hs)).rounds
    exact spec_HolesOf.calls k A0 c0 l0 (holB l0) w hr0 hc0 hk
theorem iTurn (A0 : Option Addr) (c0 : Nat) (l0 : List S41) (w : World) (hr0 : Kd.C k41 w A0 l0.length l0) (hc0 : l0.length ≤ c0) (hs : isShapeB l0 = true) :
    Calls Try.prog 44 #[.slice A0 l0.length c0, .int .i64 1] w fun e w' => ∃ (Ad : Option Addr) (cd : Nat), e = .returned (.slice Ad (trn l0).length cd) ∧ (trn l0).length ≤ cd ∧ Kd.C k41 w' Ad (trn l0).length (trn l0) ∧ Below w.heap.size w w' := by
  obtain ⟨k, hk⟩ := (iTurned_plain hs).rounds
  refine (impl_turned.calls k A0 c0 l0 1 (trn l0) w hr0 hc0 hk).mono ?_
  rintro e w' ⟨v0, rfl, ho, hb⟩
  obtain ⟨Ad, cd, rfl, hl, hcd⟩ := Kd.R_reads ho
  exact ⟨Ad, cd, rfl, hl, hcd, hb⟩
theorem sTurn (A0 : Option Addr) (c0 : Nat) (l0 : List S41) (w : World) (hr0 : Kd.C k41 w A0 l0.length l0) (hc0 : l0.length ≤ c0) (hs : isShapeB l0 = true) :
    Calls Try.prog 46 #[.slice A0 l0.length c0, .int .i64 1] w fun e w' => ∃ (Ad : Option Addr) (cd : Nat), e = .returned (.slice Ad (trn l0).length cd) ∧ (trn l0).length ≤ cd ∧ Kd.C k41 w' Ad (trn l0).length (trn l0) ∧ Below w.heap.size w w' := by
  obtain ⟨k, hk⟩ := (sTurned_plain hs).rounds
  refine (spec_l3Turn.calls k A0 c0 l0 1 (trn l0) w hr0 hc0 hk).mono ?_
  rintro e w' ⟨v0, rfl, ho, hb⟩
  obtain ⟨Ad, cd, rfl, hl, hcd⟩ := Kd.R_reads ho
  exact ⟨Ad, cd, rfl, hl, hcd, hb⟩
noncomputable def cvB (l : List S41) : Bool := cnB l && (rfB l && rfB (trn l))
set_option maxHeartbeats 4000000 in
set_option maxRecDepth 100000 in
theorem iConvex (A0 : Option Addr) (c0 : Nat) (l0 : List S41) (w : World) (hr0 : Kd.C k41 w A0 l0.length l0) (hc0 : l0.length ≤ c0) :
    Calls Try.prog 19 #[.slice A0 l0.length c0] w fun e w' => e = .returned (.bool (cvB l0)) ∧ Below w.heap.size w w' := by
  have HC := Aside0.mk (iConn A0 c0 l0 w hr0 hc0)
  rcases hs : cnB l0 with _ | _
  · have HV := Aside0.mk (show cvB l0 = false by simp [cvB, hs])
    rw [hs] at HC
    clear hr0
    go_enter Try.func19, Try.ntmps19
    go_wp2_with (first | (go_at_call 43; refine HC.out.mono ?_; rintro e w5 ⟨rfl, hb⟩; have HB5 := Aside0.mk hb; clear hb))
    go_ret
    exact ⟨by rw [HV.out]; rfl, HB5.out⟩
  have hsh := (cnB_split hs).1
  have HI := Aside0.mk (fun W (hb : Below w.heap.size w W) => iRows A0 c0 l0 W (Kd.C_below hr0 hb) hc0 (shape_sm hsh))
  have HT := Aside0.mk (fun W (hb : Below w.heap.size w W) => iTurn A0 c0 l0 W (Kd.C_below hr0 hb) hc0 hsh)
  have HJ := Aside0.mk (fun Ad cd W (hc : Kd.C k41 W Ad (trn l0).length (trn l0)) (hl : (trn l0).length ≤ cd) => iRows Ad cd (trn l0) W hc hl (shape_sm (trn_shape hsh)))
  clear hr0
  rcases hf : rfB l0 with _ | _
  · have HV := Aside0.mk (show cvB l0 = false by simp [cvB, hs, hf])
    rw [hs] at HC
    rw [hf] at HI
    clear hs hf hsh
    go_enter Try.func19, Try.ntmps19
    go_wp2_with (first | (go_at_call 43; refine HC.out.mono ?_; rintro e w5 ⟨rfl, hb⟩; have HB5 := Aside0.mk hb; clear hb) | (go_at_call 42; refine (HI.out _ HB5.out).mono ?_; rintro e w6 ⟨rfl, hb⟩; have HB6 := Aside0.mk (below_step HB5.out hb); clear hb))
    go_ret
    exact ⟨by rw [HV.out]; rfl, HB6.out⟩
  · have HV := Aside0.mk (show cvB l0 = rfB (trn l0) by simp [cvB, hs, hf])
    rw [hs] at HC
    rw [hf] at HI
    clear hs hf hsh
    generalize rfB (trn l0) = t at HV HJ
    generalize cvB l0 = u at HV
    generalize trn l0 = l1 at HT HJ
    go_enter Try.func19, Try.ntmps19
    go_wp2_with (first
      | (go_at_call 43; refine HC.out.mono ?_; rintro e w5 ⟨rfl, hb⟩; have HB5 := Aside0.mk hb; clear hb)
      | (go_at_call 42; (with_reducible refine (HI.out _ HB5.out).mono ?_); rintro e w6 ⟨rfl, hb⟩; have HB6 := Aside0.mk (below_step HB5.out hb); clear hb)
      | (go_at_call 44; (with_reducible refine (HT.out _ HB6.out).mono ?_); rintro e w7 ⟨Ad, cd, rfl, hl, hc, hb⟩; have HCD := Aside0.mk hc; have HLD := Aside0.mk hl; have HB7 := Aside0.mk (below_step HB6.out hb); clear hb hc hl)
      | (go_at_call 42; (with_reducible refine (HJ.out Ad cd _ HCD.out HLD.out).mono ?_); rintro e w8 ⟨rfl, hb⟩; have HB8 := Aside0.mk (below_step HB7.out hb); clear hb))
    go_ret
    exact ⟨by rw [HV.out]; rfl, HB8.out⟩
set_option maxHeartbeats 4000000 in
set_option maxRecDepth 100000 in
theorem sConvex (A0 : Option Addr) (c0 : Nat) (l0 : List S41) (w : World) (hr0 : Kd.C k41 w A0 l0.length l0) (hc0 : l0.length ≤ c0) :
    Calls Try.prog 20 #[.slice A0 l0.length c0] w fun e w' => e = .returned (.bool (cvB l0)) ∧ Below w.heap.size w w' := by
  have HS := Aside0.mk (sIsShape A0 c0 l0 w hr0 hc0)
  rcases hsh : isShapeB l0 with _ | _
  · have HV := Aside0.mk (show cvB l0 = false by simp [cvB, cnB_no hsh])
    rw [hsh] at HS
    clear hr0 hsh
    go_enter Try.func20, Try.ntmps20
    go_wp2_with (first | (go_at_call 23; refine HS.out.mono ?_; rintro e w4 ⟨rfl, hb⟩; have HB4 := Aside0.mk hb; clear hb))
    go_ret
    exact ⟨by rw [HV.out]; rfl, HB4.out⟩
  rw [hsh] at HS
  have HC := Aside0.mk (fun W (hb : Below w.heap.size w W) => sConn A0 c0 l0 W (Kd.C_below hr0 hb) hc0)
  rcases hs : cnB l0 with _ | _
  · have HV := Aside0.mk (show cvB l0 = false by simp [cvB, hs])
    rw [hs] at HC
    clear hr0 hs hsh
    go_enter Try.func20, Try.ntmps20
    go_wp2_with (first
      | (go_at_call 23; refine HS.out.mono ?_; rintro e w4 ⟨rfl, hb⟩; have HB4 := Aside0.mk hb; clear hb)
      | (go_at_call 45; refine (HC.out _ HB4.out).mono ?_; rintro e w5 ⟨rfl, hb⟩; have HB5 := Aside0.mk (below_step HB4.out hb); clear hb))
    go_ret
    exact ⟨by rw [HV.out]; rfl, HB5.out⟩
  have HI := Aside0.mk (fun W (hb : Below w.heap.size w W) => sRowConv A0 c0 l0 W (Kd.C_below hr0 hb) hc0)
  have HT := Aside0.mk (fun W (hb : Below w.heap.size w W) => sTurn A0 c0 l0 W (Kd.C_below hr0 hb) hc0 hsh)
  have HJ := Aside0.mk (fun Ad cd W (hc : Kd.C k41 W Ad (trn l0).length (trn l0)) (hl : (trn l0).length ≤ cd) => sRowConv Ad cd (trn l0) W hc hl)
  rw [cf_rf hsh] at HI
  rw [cf_rf (trn_shape hsh)] at HJ
  clear hr0 hsh
  rcases hf : rfB l0 with _ | _
  · have HV := Aside0.mk (show cvB l0 = false by simp [cvB, hs, hf])
    rw [hs] at HC
    rw [hf] at HI
    clear hs hf
    go_enter Try.func20, Try.ntmps20
    go_wp2_with (first
      | (go_at_call 23; refine HS.out.mono ?_; rintro e w4 ⟨rfl, hb⟩; have HB4 := Aside0.mk hb; clear hb)
      | (go_at_call 45; refine (HC.out _ HB4.out).mono ?_; rintro e w5 ⟨rfl, hb⟩; have HB5 := Aside0.mk (below_step HB4.out hb); clear hb)
      | (go_at_call 18; refine (HI.out _ HB5.out).mono ?_; rintro e w6 ⟨rfl, hb⟩; have HB6 := Aside0.mk (below_step HB5.out hb); clear hb))
    go_ret
    exact ⟨by rw [HV.out]; rfl, HB6.out⟩
  · have HV := Aside0.mk (show cvB l0 = rfB (trn l0) by simp [cvB, hs, hf])
    rw [hs] at HC
    rw [hf] at HI
    clear hs hf
    generalize rfB (trn l0) = t at HV HJ
    generalize cvB l0 = u at HV
    generalize trn l0 = l1 at HT HJ
    go_enter Try.func20, Try.ntmps20
    go_wp2_with (first
      | (go_at_call 23; refine HS.out.mono ?_; rintro e w4 ⟨rfl, hb⟩; have HB4 := Aside0.mk hb; clear hb)
      | (go_at_call 45; refine (HC.out _ HB4.out).mono ?_; rintro e w5 ⟨rfl, hb⟩; have HB5 := Aside0.mk (below_step HB4.out hb); clear hb)
      | (go_at_call 18; (with_reducible refine (HI.out _ HB5.out).mono ?_); rintro e w6 ⟨rfl, hb⟩; have HB6 := Aside0.mk (below_step HB5.out hb); clear hb)
      | (go_at_call 46; (with_reducible refine (HT.out _ HB6.out).mono ?_); rintro e w7 ⟨Ad, cd, rfl, hl, hc, hb⟩; have HCD := Aside0.mk hc; have HLD := Aside0.mk hl; have HB7 := Aside0.mk (below_step HB6.out hb); clear hb hc hl)
      | (go_at_call 18; (with_reducible refine (HJ.out Ad cd _ HCD.out HLD.out).mono ?_); rintro e w8 ⟨rfl, hb⟩; have HB8 := Aside0.mk (below_step HB7.out hb); clear hb))
    go_ret
    exact ⟨by rw [HV.out]; rfl, HB8.out⟩
/-- A convex shape has no holes. -/
theorem convex_holes {l : List S41} (h : cvB l = true) : holB l ≤ 0 := by
  simp only [cvB, Bool.and_eq_true] at h
  obtain ⟨h1, h2, h3⟩ := h
  have hs := (cnB_split h1).1
  have hr : RF l := by
    apply Classical.byContradiction
    intro hh
    rw [rfB_no hh] at h2
    cases h2
  have := HolN.row hr (holB_yes hs)
  omega
theorem holB_holeAt {l : List S41} (hs : isShapeB l = true) (h : holB l = 0) : ¬ holeAt l := by
  rintro ⟨x, y, h0, h1, h2, h3, h4⟩
  have := (holB_yes hs).pos (holeAt_lead h0 h1 h2 h3 h4)
  omega
end Go.Proofs.Ytlohfeicfhmlmaa.PFnOutlines

namespace Go.Proofs.Ytlohfeicfhmlmaa.PFnOutlines
open Go.RowKit Go.Proofs.YtlohfeicfhmlmaaW.PrintWords Go.Proofs.YtlohfeicfhmlmaaW.PrintLast Go.Proofs.YtlohfeicfhmlmaaW.PrintMore
attribute [local go_sem] max2_int min2_int max_two min_two max_three min_three max_four min_four   -- for this text's walks alone
set_option linter.unusedVariables false
set_option linter.unusedSimpArgs false
mutual
def spec_NeighbourCells.l0 : Nat → List (S41) → List (S41) → Int → Option (Int)
  | 0, _, _, _ => none
  | k + 1, x0, x3, x4 => if x4 < (x0.length : Int) then (spec_NeighbourCells.l1 k x0 x3 x4 0) else (some (x3.length : Int))
def spec_NeighbourCells.l1 : Nat → List (S41) → List (S41) → Int → Int → Option (Int)
  | 0, _, _, _, _ => none
  | k + 1, x0, x3, x4, x5 => if x5 < 4 then (if 0 ≤ x4 then (if x4 < (x0.length : Int) then ((spec_HasCell.f x0 (wrap64 (((rd_T41 x0 x4).f0) + (Int.tmod (wrap64 (1 - x5)) 2))) (wrap64 (((rd_T41 x0 x4).f1) + (Int.tmod (wrap64 (2 - x5)) 2)))).bind fun t360 => (if t360 = true then (spec_NeighbourCells.l1 k x0 x3 x4 (wrap64 (x5 + 1))) else ((spec_HasCell.f x3 (wrap64 (((rd_T41 x0 x4).f0) + (Int.tmod (wrap64 (1 - x5)) 2))) (wrap64 (((rd_T41 x0 x4).f1) + (Int.tmod (wrap64 (2 - x5)) 2)))).bind fun t361 => (if t361 = true then (spec_NeighbourCells.l1 k x0 x3 x4 (wrap64 (x5 + 1))) else (if x3.length < 8796093022208 then (spec_NeighbourCells.l1 k x0 (x3 ++ [(⟨wrap64 (((rd_T41 x0 x4).f0) + (Int.tmod (wrap64 (1 - x5)) 2)), wrap64 (((rd_T41 x0 x4).f1) + (Int.tmod (wrap64 (2 - x5)) 2))⟩ : S41)]) x4 (wrap64 (x5 + 1))) else (none)))))) else (none)) else (none)) else (spec_NeighbourCells.l0 k x0 x3 (wrap64 (x4 + 1)))
end
def spec_NeighbourCells.f (k : Nat) (l0 : List (S41)) : Option (Int) := (spec_IsShape.f l0).bind fun t354 => (if t354 = true then (spec_NeighbourCells.l0 k l0 (([] : List (S41))) 0) else (some (-1)))
theorem spec_NeighbourCells.mono_l : ∀ k, (∀ y0 y1 y2, LeO (spec_NeighbourCells.l0 k y0 y1 y2) (spec_NeighbourCells.l0 (k + 1) y0 y1 y2)) ∧ (∀ y0 y1 y2 y3, LeO (spec_NeighbourCells.l1 k y0 y1 y2 y3) (spec_NeighbourCells.l1 (k + 1) y0 y1 y2 y3))
  | 0 => ⟨fun _ _ _ r h => by simp [spec_NeighbourCells.l0] at h, fun _ _ _ _ r h => by simp [spec_NeighbourCells.l1] at h⟩
  | k + 1 => by
    obtain ⟨ih0, ih1⟩ := spec_NeighbourCells.mono_l k
    refine ⟨?_, ?_⟩
    · intro y0 y1 y2
      unfold spec_NeighbourCells.l0
      repeat' first
      | (with_reducible exact ih0 _ _ _)
      | (with_reducible exact ih1 _ _ _ _)
      | (with_reducible exact LeO.refl _)
      | (with_reducible exact LeO.none _)
      | (with_reducible refine LeO.ite ?_ ?_)
      | (with_reducible refine LeO.bind ?_ (fun _ => ?_))
      | exact ih0 _ _ _
      | exact ih1 _ _ _ _
      | exact LeO.none _
      | refine LeO.ite ?_ ?_
      | refine LeO.bind ?_ (fun _ => ?_)
    · intro y0 y1 y2 y3
      unfold spec_NeighbourCells.l1
      repeat' first
      | (with_reducible exact ih0 _ _ _)
      | (with_reducible exact ih1 _ _ _ _)
      | (with_reducible exact LeO.refl _)
      | (with_reducible exact LeO.none _)
      | (with_reducible refine LeO.ite ?_ ?_)
      | (with_reducible refine LeO.bind ?_ (fun _ => ?_))
      | exact ih0 _ _ _
      | exact ih1 _ _ _ _
      | exact LeO.none _
      | refine LeO.ite ?_ ?_
      | refine LeO.bind ?_ (fun _ => ?_)
theorem spec_NeighbourCells.mono : ∀ a0 k, LeO (spec_NeighbourCells.f k a0) (spec_NeighbourCells.f (k + 1) a0) := by
  intro a0 k
  obtain ⟨ih0, ih1⟩ := spec_NeighbourCells.mono_l k
  unfold spec_NeighbourCells.f
  repeat' first
      | (with_reducible exact ih0 _ _ _)
      | (with_reducible exact ih1 _ _ _ _)
      | (with_reducible exact LeO.refl _)
      | (with_reducible exact LeO.none _)
      | (with_reducible refine LeO.ite ?_ ?_)
      | (with_reducible refine LeO.bind ?_ (fun _ => ?_))
      | exact ih0 _ _ _
      | exact ih1 _ _ _ _
      | exact LeO.none _
      | refine LeO.ite ?_ ?_
      | refine LeO.bind ?_ (fun _ => ?_)
set_option maxHeartbeats 8000000 in
set_option maxRecDepth 100000 in
theorem spec_NeighbourCells.calls (k : Nat) (A0 : Option Addr) (c0 : Nat) (l0 : List (S41)) (r : Int) (w : World) (hr0 : Kd.C k41 w A0 l0.length l0) (hc0 : l0.length ≤ c0) (h : spec_NeighbourCells.f k l0 = some r) :
    Calls Try.prog 16 #[.slice A0 l0.length c0] w fun e w' => e = .returned (.int .i64 r) ∧ Below w.heap.size w w' := by
  have hu41 := Try.underlying41
  have HR0 := Aside0.mk hr0
  have HC0 := Aside0.mk hc0
  clear hr0 hc0
  have HB := Aside0.mk (Below.refl w.heap.size w)
  have H : ((spec_IsShape.f l0).bind fun t354 => (if t354 = true then (spec_NeighbourCells.l0 k l0 (([] : List (S41))) 0) else (some (-1)))) = some r := h
  clear h
  replace H := Option.bind_eq_some_iff.mp H
  obtain ⟨t354, A20, H⟩ := H
  replace H : (if t354 = true then (spec_NeighbourCells.l0 k l0 (([] : List (S41))) 0) else (some (-1))) = some r := H
  have A2 := Aside0.mk A20
  clear A20
  by_cases c3 : t354 = true
  · subst c3
    have H1 : (spec_NeighbourCells.l0 k l0 (([] : List (S41))) 0) = some r := by rw [if_pos rfl] at H; exact H
    clear H
    have H := H1
    clear H1
    obtain ⟨y355, hy355⟩ : ∃ y_ : List (S41), y_ = (([] : List (S41))) := ⟨_, rfl⟩
    replace H : (spec_NeighbourCells.l0 k l0 y355 0) = some r := by first | (rw [hy355]; with_reducible exact H) | (have H2_ := (Option.bind_some _ _).symm.trans H; rw [hy355]; with_reducible exact H2_) | (have H2_ := (Option.bind_some _ _).symm.trans H; with_reducible exact H2_) | with_reducible exact H | (rw [hy355]; exact H) | exact H
    have Ny355 := Aside0.mk hy355
    clear hy355
    have H' := Aside0.mk H
    clear H
    go_enter Try.func16, Try.ntmps16
    go_wp2_with (first | ((with_reducible refine gate_callee (f := 23) rfl ?_); refine goesL_ (some 9) rfl rfl Try.func23 (by kernel_rfl) rfl #[.slice A0 l0.length c0] rfl (by (try simp only [List.map_toArray, List.map_cons, List.map_nil]); first | done | rfl | (simp only [List.length_drop, List.length_take]; rfl)) ?_; (with_reducible refine (spec_IsShape.calls _ _ l0 true _ ?side1 ?side2 A2.out).mono ?_); (case side1 => repeat (first | exact HR0.out | (with_reducible refine Kd.C_alloc ?_ _) | (with_reducible refine Kd.C_drewN ?_ _) | (with_reducible refine Kd.C_drew ?_))); (case side2 => exact HC0.out); rintro e w4 ⟨rfl, hb⟩; refine ⟨_, rfl, ?_⟩; have n0_ := Aside0.mk (below_step (by repeat (first | (with_reducible first | exact HB.out | apply below_alloc | apply pw_below_drewN | apply below_drew1) | exact HB.out)) hb); clear HB; have HB := n0_; clear n0_; (try clear hb); (try clear hb2); (try clear hk); (try clear hi)) | ((with_reducible refine gate_dst (N := 11) rfl ?_); refine Kd.R_lit k41 _ 41 ?hg (N := 11) ?hd (xs := ([] : List (S41))) (inner := []) (ok := fun _ => True) (okp := fun _ => True) ?hr ?hp (fun _ hk => hk) trivial (Below.refl _ _) (Nat.le_refl _) (by simp) ?_; (case hd => rfl); (case hg => rfl); (case hr => first | (go_simp; done) | (go_simp; rfl)); (case hp => exact (Reps.none _ _)); intro v356 w5 ho6 hb hg_ hnew_; clear hg_ hnew_; (first | rw [← Ny355.out] at ho6 | (simp only [Int.reduceToNat] at ho6; rw [← Ny355.out] at ho6)); have n0_ := Aside0.mk (Kd.R_lower ho6 (below_size (by repeat (first | (with_reducible first | exact HB.out | apply below_alloc | apply pw_below_drewN | apply below_drew1) | exact HB.out)))); have n1_ := Aside0.mk (below_step (by repeat (first | (with_reducible first | exact HB.out | apply below_alloc | apply pw_below_drewN | apply below_drew1) | exact HB.out)) hb); clear HB; have HO357 := n0_; have HB := n1_; clear n0_ n1_; clear hb ho6))
    go_loopg [3, 4] k (fun kq v3 v4 w' => ∃ (x3_1 : List (S41)) (x4_1 : Int), v4 = .int .i64 x4_1 ∧ Aside0 (spec_NeighbourCells.l0 kq l0 x3_1 x4_1 = some r) ∧ Aside0 (kq ≤ k) ∧ Aside0 (Kd.R k41 41 w' w.heap.size (fun _ => True) v3 x3_1) ∧ Aside0 (Below w.heap.size w w'))
    case atStart => exact ⟨(y355), (0), (by first | rfl | (simp; done) | (simp [*]; done)), H', ⟨Nat.le_refl _⟩, ⟨by (with_reducible repeat (first | apply Kd.R_alloc | apply Kd.R_drewN | apply Kd.R_drew)); exact HO357.out⟩, ⟨by repeat (first | (with_reducible first | exact HB.out | apply below_alloc | apply pw_below_drewN | apply below_drew1) | exact HB.out)⟩⟩
    case round =>
      clear H'
      try clear c1
      try clear c2
      try clear p2
      try clear c3
      obtain ⟨x3_1, x4_1, rfl, HA, HK1, HO_3, HB⟩ := hrel
      cases gk with
      | zero => exact absurd HA.out (by simp [spec_NeighbourCells.l0])
      | succ k1 =>
        have H := HA.out
        clear HA
        simp only [spec_NeighbourCells.l0] at H
        by_cases c7 : x4_1 < (l0.length : Int)
        · rw [if_pos c7] at H
          have c7b0 : decide (x4_1 < (l0.length : Int)) = true := decide_eq_true c7
          clear c7
          have H' := Aside0.mk H
          clear H
          go_wp2
          go_loopg [3, 5] k1 (fun kq v3 v5 w' => ∃ (x3_2 : List (S41)) (x5_2 : Int), v5 = .int .i64 x5_2 ∧ Aside0 (spec_NeighbourCells.l1 kq l0 x3_2 x4_1 x5_2 = some r) ∧ Aside0 (kq ≤ k1) ∧ Aside0 (Kd.R k41 41 w' w.heap.size (fun _ => True) v3 x3_2) ∧ Aside0 (Below w.heap.size w w'))
          case atStart => exact ⟨(x3_1), (0), (by first | rfl | (simp; done) | (simp [*]; done)), H', ⟨Nat.le_refl _⟩, ⟨by (with_reducible repeat (first | apply Kd.R_alloc | apply Kd.R_drewN | apply Kd.R_drew)); exact HO_3.out⟩, ⟨by repeat (first | (with_reducible first | exact HB.out | apply below_alloc | apply pw_below_drewN | apply below_drew1) | exact HB.out)⟩⟩
          case round =>
            clear H'
            try clear c1
            try clear c2
            try clear p2
            try clear c3
            try clear c7
            try clear c7b0
            try clear p2
            obtain ⟨x3_2, x5_2, rfl, HA, HK2, HO_3, HB⟩ := hrel
            cases gk with
            | zero => exact absurd HA.out (by simp [spec_NeighbourCells.l1])
            | succ k2 =>
              have H := HA.out
              clear HA
              simp only [spec_NeighbourCells.l1] at H
              by_cases c8 : x5_2 < 4
              · rw [if_pos c8] at H
                have c8b0 : decide (x5_2 < 4) = true := decide_eq_true c8
                clear c8
                by_cases c9 : 0 ≤ x4_1
                · rw [if_pos c9] at H
                  have c9b0 : decide (0 ≤ x4_1) = true := decide_eq_true c9
                  clear c9
                  by_cases c10 : x4_1 < (l0.length : Int)
                  · rw [if_pos c10] at H
                    have c10b0 : decide (x4_1 < (l0.length : Int)) = true := decide_eq_true c10
                    clear c10
                    replace H := Option.bind_eq_some_iff.mp H
                    obtain ⟨t360, A110, H⟩ := H
                    replace H : (if t360 = true then (spec_NeighbourCells.l1 k2 l0 x3_2 x4_1 (wrap64 (x5_2 + 1))) else ((spec_HasCell.f x3_2 (wrap64 (((rd_T41 l0 x4_1).f0) + (Int.tmod (wrap64 (1 - x5_2)) 2))) (wrap64 (((rd_T41 l0 x4_1).f1) + (Int.tmod (wrap64 (2 - x5_2)) 2)))).bind fun t361 => (if t361 = true then (spec_NeighbourCells.l1 k2 l0 x3_2 x4_1 (wrap64 (x5_2 + 1))) else (if x3_2.length < 8796093022208 then (spec_NeighbourCells.l1 k2 l0 (x3_2 ++ [(⟨wrap64 (((rd_T41 l0 x4_1).f0) + (Int.tmod (wrap64 (1 - x5_2)) 2)), wrap64 (((rd_T41 l0 x4_1).f1) + (Int.tmod (wrap64 (2 - x5_2)) 2))⟩ : S41)]) x4_1 (wrap64 (x5_2 + 1))) else (none))))) = some r := H
                    have A11 := Aside0.mk A110
                    clear A110
                    by_cases c12 : t360 = true
                    · subst c12
                      have H1 : (spec_NeighbourCells.l1 k2 l0 x3_2 x4_1 (wrap64 (x5_2 + 1))) = some r := by rw [if_pos rfl] at H; exact H
                      clear H
                      have H := H1
                      clear H1
                      have H' := Aside0.mk H
                      clear H
                      have p358 : 0 ≤ (x4_1 : Int) := of_decide_eq_true (by first | (with_reducible assumption) | assumption)
                      have q358 : x4_1 < (l0.length : Int) := of_decide_eq_true (by first | (with_reducible assumption) | assumption)
                      obtain ⟨ad358, e358, hx358_0, hx358_1⟩ := at_T41 HR0.out x4_1 p358 q358
                      cases e358
                      replace hx358_0 := (HB.out.cell (World.block_lt_of_cell? w _ hx358_0)).trans hx358_0
                      replace hx358_1 := (HB.out.cell (World.block_lt_of_cell? w _ hx358_1)).trans hx358_1
                      replace p358 := eq_true p358
                      replace q358 := eq_true q358
                      have p359 : 0 ≤ (x4_1 : Int) := of_decide_eq_true (by first | (with_reducible assumption) | assumption)
                      have q359 : x4_1 < (l0.length : Int) := of_decide_eq_true (by first | (with_reducible assumption) | assumption)
                      obtain ⟨ad359, e359, hx359_0, hx359_1⟩ := at_T41 HR0.out x4_1 p359 q359
                      obtain rfl : ad358 = ad359 := (by injection e359)
                      replace hx359_0 := (HB.out.cell (World.block_lt_of_cell? w _ hx359_0)).trans hx359_0
                      replace hx359_1 := (HB.out.cell (World.block_lt_of_cell? w _ hx359_1)).trans hx359_1
                      replace p359 := eq_true p359
                      replace q359 := eq_true q359
                      go_wp2_with (first | ((with_reducible refine gate_callee (f := 40) rfl ?_); refine goesL_ (some 43) rfl rfl Try.func40 (by kernel_rfl) rfl #[.slice (some ad358) l0.length c0, .int .i64 (wrap64 (((rd_T41 l0 x4_1).f0) + (Int.tmod (wrap64 (1 - x5_2)) 2))), .int .i64 (wrap64 (((rd_T41 l0 x4_1).f1) + (Int.tmod (wrap64 (2 - x5_2)) 2)))] rfl (by (try simp only [List.map_toArray, List.map_cons, List.map_nil]); first | done | rfl | (simp only [List.length_drop, List.length_take]; rfl)) ?_; (with_reducible refine (spec_HasCell.calls _ _ l0 (wrap64 (((rd_T41 l0 x4_1).f0) + (Int.tmod (wrap64 (1 - x5_2)) 2))) (wrap64 (((rd_T41 l0 x4_1).f1) + (Int.tmod (wrap64 (2 - x5_2)) 2))) true _ ?side1 ?side2 A11.out).mono ?_); (case side1 => repeat (first | exact (Kd.C_below HR0.out HB.out) | (with_reducible refine Kd.C_alloc ?_ _) | (with_reducible refine Kd.C_drewN ?_ _) | (with_reducible refine Kd.C_drew ?_))); (case side2 => exact HC0.out); rintro e w' ⟨rfl, ⟨nd, rfl⟩⟩; refine ⟨_, rfl, ?_⟩))
                      go_roundg k2
                      case measure => have := HK1.out; have := HK2.out; omega
                      case rel => exact ⟨(x3_2), (wrap64 (x5_2 + 1)), (by first | rfl | (simp; done) | (simp [*]; done)), H', ⟨by have := HK1.out; have := HK2.out; omega⟩, ⟨by (with_reducible repeat (first | apply Kd.R_alloc | apply Kd.R_drewN | apply Kd.R_drew)); exact HO_3.out⟩, ⟨by repeat (first | (with_reducible first | exact HB.out | apply below_alloc | apply pw_below_drewN | apply below_drew1) | exact HB.out)⟩⟩
                    · replace c12 := Bool.eq_false_iff.mpr c12
                      subst c12
                      have H1 : ((spec_HasCell.f x3_2 (wrap64 (((rd_T41 l0 x4_1).f0) + (Int.tmod (wrap64 (1 - x5_2)) 2))) (wrap64 (((rd_T41 l0 x4_1).f1) + (Int.tmod (wrap64 (2 - x5_2)) 2)))).bind fun t361 => (if t361 = true then (spec_NeighbourCells.l1 k2 l0 x3_2 x4_1 (wrap64 (x5_2 + 1))) else (if x3_2.length < 8796093022208 then (spec_NeighbourCells.l1 k2 l0 (x3_2 ++ [(⟨wrap64 (((rd_T41 l0 x4_1).f0) + (Int.tmod (wrap64 (1 - x5_2)) 2)), wrap64 (((rd_T41 l0 x4_1).f1) + (Int.tmod (wrap64 (2 - x5_2)) 2))⟩ : S41)]) x4_1 (wrap64 (x5_2 + 1))) else (none)))) = some r := by rw [if_neg (show ¬ (false = true) by decide)] at H; exact H
                      clear H
                      have H := H1
                      clear H1
                      replace H := Option.bind_eq_some_iff.mp H
                      obtain ⟨t361, A130, H⟩ := H
                      replace H : (if t361 = true then (spec_NeighbourCells.l1 k2 l0 x3_2 x4_1 (wrap64 (x5_2 + 1))) else (if x3_2.length < 8796093022208 then (spec_NeighbourCells.l1 k2 l0 (x3_2 ++ [(⟨wrap64 (((rd_T41 l0 x4_1).f0) + (Int.tmod (wrap64 (1 - x5_2)) 2)), wrap64 (((rd_T41 l0 x4_1).f1) + (Int.tmod (wrap64 (2 - x5_2)) 2))⟩ : S41)]) x4_1 (wrap64 (x5_2 + 1))) else (none))) = some r := H
                      have A13 := Aside0.mk A130
                      clear A130
                      by_cases c14 : t361 = true
                      · subst c14
                        have H1 : (spec_NeighbourCells.l1 k2 l0 x3_2 x4_1 (wrap64 (x5_2 + 1))) = some r := by rw [if_pos rfl] at H; exact H
                        clear H
                        have H := H1
                        clear H1
                        have H' := Aside0.mk H
                        clear H
                        have p358 : 0 ≤ (x4_1 : Int) := of_decide_eq_true (by first | (with_reducible assumption) | assumption)
                        have q358 : x4_1 < (l0.length : Int) := of_decide_eq_true (by first | (with_reducible assumption) | assumption)
                        obtain ⟨ad358, e358, hx358_0, hx358_1⟩ := at_T41 HR0.out x4_1 p358 q358
                        cases e358
                        replace hx358_0 := (HB.out.cell (World.block_lt_of_cell? w _ hx358_0)).trans hx358_0
                        replace hx358_1 := (HB.out.cell (World.block_lt_of_cell? w _ hx358_1)).trans hx358_1
                        replace p358 := eq_true p358
                        replace q358 := eq_true q358
                        have p359 : 0 ≤ (x4_1 : Int) := of_decide_eq_true (by first | (with_reducible assumption) | assumption)
                        have q359 : x4_1 < (l0.length : Int) := of_decide_eq_true (by first | (with_reducible assumption) | assumption)
                        obtain ⟨ad359, e359, hx359_0, hx359_1⟩ := at_T41 HR0.out x4_1 p359 q359
                        obtain rfl : ad358 = ad359 := (by injection e359)
                        replace hx359_0 := (HB.out.cell (World.block_lt_of_cell? w _ hx359_0)).trans hx359_0
                        replace hx359_1 := (HB.out.cell (World.block_lt_of_cell? w _ hx359_1)).trans hx359_1
                        replace p359 := eq_true p359
                        replace q359 := eq_true q359
                        go_wp2_with (first | ((with_reducible refine gate_callee (f := 40) rfl ?_); refine goesL_ (some 43) rfl rfl Try.func40 (by kernel_rfl) rfl #[.slice (some ad358) l0.length c0, .int .i64 (wrap64 (((rd_T41 l0 x4_1).f0) + (Int.tmod (wrap64 (1 - x5_2)) 2))), .int .i64 (wrap64 (((rd_T41 l0 x4_1).f1) + (Int.tmod (wrap64 (2 - x5_2)) 2)))] rfl (by (try simp only [List.map_toArray, List.map_cons, List.map_nil]); first | done | rfl | (simp only [List.length_drop, List.length_take]; rfl)) ?_; (with_reducible refine (spec_HasCell.calls _ _ l0 (wrap64 (((rd_T41 l0 x4_1).f0) + (Int.tmod (wrap64 (1 - x5_2)) 2))) (wrap64 (((rd_T41 l0 x4_1).f1) + (Int.tmod (wrap64 (2 - x5_2)) 2))) false _ ?side1 ?side2 A11.out).mono ?_); (case side1 => repeat (first | exact (Kd.C_below HR0.out HB.out) | (with_reducible refine Kd.C_alloc ?_ _) | (with_reducible refine Kd.C_drewN ?_ _) | (with_reducible refine Kd.C_drew ?_))); (case side2 => exact HC0.out); rintro e w' ⟨rfl, ⟨nd, rfl⟩⟩; refine ⟨_, rfl, ?_⟩; obtain ⟨Ao15, co15, eo15⟩ := Kd.R_slice HO_3.out; subst eo15) | (go_at_call 40; (with_reducible refine (spec_HasCell.calls _ _ x3_2 (wrap64 (((rd_T41 l0 x4_1).f0) + (Int.tmod (wrap64 (1 - x5_2)) 2))) (wrap64 (((rd_T41 l0 x4_1).f1) + (Int.tmod (wrap64 (2 - x5_2)) 2))) true _ ?side1 ?side2 A13.out).mono ?_); (case side1 => repeat (first | exact (Kd.R_reads' HO_3.out).2.2 | (with_reducible refine Kd.C_alloc ?_ _) | (with_reducible refine Kd.C_drewN ?_ _) | (with_reducible refine Kd.C_drew ?_))); (case side2 => exact (Kd.R_reads' HO_3.out).2.1); rintro e w' ⟨rfl, ⟨nd, rfl⟩⟩))
                        go_roundg k2
                        case measure => have := HK1.out; have := HK2.out; omega
                        case rel => exact ⟨(x3_2), (wrap64 (x5_2 + 1)), (by first | rfl | (simp; done) | (simp [*]; done)), H', ⟨by have := HK1.out; have := HK2.out; omega⟩, ⟨by (with_reducible repeat (first | apply Kd.R_alloc | apply Kd.R_drewN | apply Kd.R_drew)); exact HO_3.out⟩, ⟨by repeat (first | (with_reducible first | exact HB.out | apply below_alloc | apply pw_below_drewN | apply below_drew1) | exact HB.out)⟩⟩
                      · replace c14 := Bool.eq_false_iff.mpr c14
                        subst c14
                        have H1 : (if x3_2.length < 8796093022208 then (spec_NeighbourCells.l1 k2 l0 (x3_2 ++ [(⟨wrap64 (((rd_T41 l0 x4_1).f0) + (Int.tmod (wrap64 (1 - x5_2)) 2)), wrap64 (((rd_T41 l0 x4_1).f1) + (Int.tmod (wrap64 (2 - x5_2)) 2))⟩ : S41)]) x4_1 (wrap64 (x5_2 + 1))) else (none)) = some r := by rw [if_neg (show ¬ (false = true) by decide)] at H; exact H
                        clear H
                        have H := H1
                        clear H1
                        by_cases c16 : x3_2.length < 8796093022208
                        · rw [if_pos c16] at H
                          have LMc16 := Aside0.mk c16
                          clear c16
                          obtain ⟨y362, hy362⟩ : ∃ y_ : List (S41), y_ = (x3_2 ++ [(⟨wrap64 (((rd_T41 l0 x4_1).f0) + (Int.tmod (wrap64 (1 - x5_2)) 2)), wrap64 (((rd_T41 l0 x4_1).f1) + (Int.tmod (wrap64 (2 - x5_2)) 2))⟩ : S41)]) := ⟨_, rfl⟩
                          replace H : (spec_NeighbourCells.l1 k2 l0 y362 x4_1 (wrap64 (x5_2 + 1))) = some r := by first | (rw [hy362]; with_reducible exact H) | (have H2_ := (Option.bind_some _ _).symm.trans H; rw [hy362]; with_reducible exact H2_) | (have H2_ := (Option.bind_some _ _).symm.trans H; with_reducible exact H2_) | with_reducible exact H | (rw [hy362]; exact H) | exact H
                          have Ny362 := Aside0.mk hy362
                          clear hy362
                          have H' := Aside0.mk H
                          clear H
                          have p358 : 0 ≤ (x4_1 : Int) := of_decide_eq_true (by first | (with_reducible assumption) | assumption)
                          have q358 : x4_1 < (l0.length : Int) := of_decide_eq_true (by first | (with_reducible assumption) | assumption)
                          obtain ⟨ad358, e358, hx358_0, hx358_1⟩ := at_T41 HR0.out x4_1 p358 q358
                          cases e358
                          replace hx358_0 := (HB.out.cell (World.block_lt_of_cell? w _ hx358_0)).trans hx358_0
                          replace hx358_1 := (HB.out.cell (World.block_lt_of_cell? w _ hx358_1)).trans hx358_1
                          replace p358 := eq_true p358
                          replace q358 := eq_true q358
                          have p359 : 0 ≤ (x4_1 : Int) := of_decide_eq_true (by first | (with_reducible assumption) | assumption)
                          have q359 : x4_1 < (l0.length : Int) := of_decide_eq_true (by first | (with_reducible assumption) | assumption)
                          obtain ⟨ad359, e359, hx359_0, hx359_1⟩ := at_T41 HR0.out x4_1 p359 q359
                          obtain rfl : ad358 = ad359 := (by injection e359)
                          replace hx359_0 := (HB.out.cell (World.block_lt_of_cell? w _ hx359_0)).trans hx359_0
                          replace hx359_1 := (HB.out.cell (World.block_lt_of_cell? w _ hx359_1)).trans hx359_1
                          replace p359 := eq_true p359
                          replace q359 := eq_true q359
                          go_wp2_with (first | ((with_reducible refine gate_callee (f := 40) rfl ?_); refine goesL_ (some 43) rfl rfl Try.func40 (by kernel_rfl) rfl #[.slice (some ad358) l0.length c0, .int .i64 (wrap64 (((rd_T41 l0 x4_1).f0) + (Int.tmod (wrap64 (1 - x5_2)) 2))), .int .i64 (wrap64 (((rd_T41 l0 x4_1).f1) + (Int.tmod (wrap64 (2 - x5_2)) 2)))] rfl (by (try simp only [List.map_toArray, List.map_cons, List.map_nil]); first | done | rfl | (simp only [List.length_drop, List.length_take]; rfl)) ?_; (with_reducible refine (spec_HasCell.calls _ _ l0 (wrap64 (((rd_T41 l0 x4_1).f0) + (Int.tmod (wrap64 (1 - x5_2)) 2))) (wrap64 (((rd_T41 l0 x4_1).f1) + (Int.tmod (wrap64 (2 - x5_2)) 2))) false _ ?side1 ?side2 A11.out).mono ?_); (case side1 => repeat (first | exact (Kd.C_below HR0.out HB.out) | (with_reducible refine Kd.C_alloc ?_ _) | (with_reducible refine Kd.C_drewN ?_ _) | (with_reducible refine Kd.C_drew ?_))); (case side2 => exact HC0.out); rintro e w' ⟨rfl, ⟨nd, rfl⟩⟩; refine ⟨_, rfl, ?_⟩; obtain ⟨Ao17, co17, eo17⟩ := Kd.R_slice HO_3.out; subst eo17) | (go_at_call 40; (with_reducible refine (spec_HasCell.calls _ _ x3_2 (wrap64 (((rd_T41 l0 x4_1).f0) + (Int.tmod (wrap64 (1 - x5_2)) 2))) (wrap64 (((rd_T41 l0 x4_1).f1) + (Int.tmod (wrap64 (2 - x5_2)) 2))) false _ ?side1 ?side2 A13.out).mono ?_); (case side1 => repeat (first | exact (Kd.R_reads' HO_3.out).2.2 | (with_reducible refine Kd.C_alloc ?_ _) | (with_reducible refine Kd.C_drewN ?_ _) | (with_reducible refine Kd.C_drew ?_))); (case side2 => exact (Kd.R_reads' HO_3.out).2.1); rintro e w' ⟨rfl, ⟨nd, rfl⟩⟩) | ((with_reducible refine gate_builtin (b := .append) (xs := #[.tmp 52, .tmp 56]) rfl ?_); at_builtin; refine Kd.R_append k41 (w0 := w) w.heap.size rfl (.tmp 52) (.tmp 56) 24 41 (.agg #[(.int .i64 0), (.int .i64 0)]) 16 rfl Try.underlying24 info41 rfl (by decide) (by omega) (.slice Ao17 x3_2.length co17) x3_2 (⟨wrap64 (((rd_T41 l0 x4_1).f0) + (Int.tmod (wrap64 (1 - x5_2)) 2)), wrap64 (((rd_T41 l0 x4_1).f1) + (Int.tmod (wrap64 (2 - x5_2)) 2))⟩ : S41) [.int .i64 (wrap64 (((rd_T41 l0 x4_1).f0) + (Int.tmod (wrap64 (1 - x5_2)) 2))), .int .i64 (wrap64 (((rd_T41 l0 x4_1).f1) + (Int.tmod (wrap64 (2 - x5_2)) 2)))] (fun _ => True) (fun _ => False) rfl rfl ?aP (fun _ hk => hk.elim) ?aF ?aO ?aB ?aS ?aL ?_; (case aP => exact k41_mkM _ _ _ (⟨wrap64 (((rd_T41 l0 x4_1).f0) + (Int.tmod (wrap64 (1 - x5_2)) 2)), wrap64 (((rd_T41 l0 x4_1).f1) + (Int.tmod (wrap64 (2 - x5_2)) 2))⟩ : S41)); (case aB => exact (by repeat (first | (with_reducible first | exact HB.out | apply below_alloc | apply pw_below_drewN | apply below_drew1) | exact HB.out))); (case aF => exact (fun _ _ => trivial)); (case aO => exact (by (with_reducible repeat (first | apply Kd.R_alloc | apply Kd.R_drewN | apply Kd.R_drew)); exact HO_3.out)); (case aS => exact (below_size (by repeat (first | (with_reducible first | exact HB.out | apply below_alloc | apply pw_below_drewN | apply below_drew1) | exact HB.out)))); (case aL => have := LMc16.out; omega); intro v363 w18 ho hb hg hat; rw [← Ny362.out] at ho; have n0_ := Aside0.mk (hb); have n1_ := Aside0.mk (ho); clear HB; clear HO_3; have HB := n0_; have HO364 := n1_; clear n0_ n1_; clear ho hb hg hat))
                          go_roundg k2
                          case measure => have := HK1.out; have := HK2.out; omega
                          case rel => exact ⟨(y362), (wrap64 (x5_2 + 1)), (by first | rfl | (simp; done) | (simp [*]; done)), H', ⟨by have := HK1.out; have := HK2.out; omega⟩, ⟨by (with_reducible repeat (first | apply Kd.R_alloc | apply Kd.R_drewN | apply Kd.R_drew)); exact HO364.out⟩, ⟨by repeat (first | (with_reducible first | exact HB.out | apply below_alloc | apply pw_below_drewN | apply below_drew1) | exact HB.out)⟩⟩
                        · rw [if_neg c16] at H
                          exact absurd H (by simp)
                  · rw [if_neg c10] at H
                    exact absurd H (by simp)
                · rw [if_neg c9] at H
                  exact absurd H (by simp)
              · rw [if_neg c8] at H
                have c8b0 : decide (x5_2 < 4) = false := decide_eq_false c8
                clear c8
                have H' := Aside0.mk H
                clear H
                go_wp2
                go_roundg k2
                case measure => have := HK1.out; have := HK2.out; omega
                case rel => exact ⟨(x3_2), (wrap64 (x4_1 + 1)), (by first | rfl | (simp; done) | (simp [*]; done)), H', ⟨by have := HK1.out; have := HK2.out; omega⟩, ⟨by (with_reducible repeat (first | apply Kd.R_alloc | apply Kd.R_drewN | apply Kd.R_drew)); exact HO_3.out⟩, ⟨by repeat (first | (with_reducible first | exact HB.out | apply below_alloc | apply pw_below_drewN | apply below_drew1) | exact HB.out)⟩⟩
        · rw [if_neg c7] at H
          have c7b0 : decide (x4_1 < (l0.length : Int)) = false := decide_eq_false c7
          clear c7
          obtain rfl := Option.some.inj H
          obtain ⟨Ao19, co19, eo19⟩ := Kd.R_slice HO_3.out
          subst eo19
          go_wp2
          go_ret
          exact ⟨by first | rfl | (simp [errW_none, errW_some] <;> rfl) | (simp [*, errW_none, errW_some] <;> rfl), by repeat (first | (with_reducible first | exact HB.out | apply below_alloc | apply pw_below_drewN | apply below_drew1) | exact HB.out)⟩
  · replace c3 := Bool.eq_false_iff.mpr c3
    subst c3
    have H1 : (some (-1)) = some r := by rw [if_neg (show ¬ (false = true) by decide)] at H; exact H
    clear H
    have H := H1
    clear H1
    obtain rfl := Option.some.inj H
    go_enter Try.func16, Try.ntmps16
    go_wp2_with (first | ((with_reducible refine gate_callee (f := 23) rfl ?_); refine goesL_ (some 9) rfl rfl Try.func23 (by kernel_rfl) rfl #[.slice A0 l0.length c0] rfl (by (try simp only [List.map_toArray, List.map_cons, List.map_nil]); first | done | rfl | (simp only [List.length_drop, List.length_take]; rfl)) ?_; (with_reducible refine (spec_IsShape.calls _ _ l0 false _ ?side1 ?side2 A2.out).mono ?_); (case side1 => repeat (first | exact HR0.out | (with_reducible refine Kd.C_alloc ?_ _) | (with_reducible refine Kd.C_drewN ?_ _) | (with_reducible refine Kd.C_drew ?_))); (case side2 => exact HC0.out); rintro e w20 ⟨rfl, hb⟩; refine ⟨_, rfl, ?_⟩; have n0_ := Aside0.mk (below_step (by repeat (first | (with_reducible first | exact HB.out | apply below_alloc | apply pw_below_drewN | apply below_drew1) | exact HB.out)) hb); clear HB; have HB := n0_; clear n0_; (try clear hb); (try clear hb2); (try clear hk); (try clear hi)))
    go_ret
    exact ⟨by first | rfl | (simp [errW_none, errW_some] <;> rfl) | (simp [*, errW_none, errW_some] <;> rfl), by repeat (first | (with_reducible first | exact HB.out | apply below_alloc | apply pw_below_drewN | apply below_drew1) | exact HB.out)⟩
end Go.Proofs.Ytlohfeicfhmlmaa.PFnOutlines

namespace Go.Proofs.Ytlohfeicfhmlmaa.PFnOutlines
open Go.RowKit Go.Proofs.YtlohfeicfhmlmaaW.PrintWords Go.Proofs.YtlohfeicfhmlmaaW.PrintLast Go.Proofs.YtlohfeicfhmlmaaW.PrintMore ETool
theorem laidOut41 : laidOutB Try.prog = true := by kernel_rfl
theorem row41 : (41 : TypeId) < Try.prog.types.size := of_decide_eq_true (by kernel_rfl)
theorem cells41 : Try.prog.cellsOf 41 = 2 := by kernel_rfl
theorem wide41 : (match Try.prog.underlying 41 with | some (.array _ _) | some (.struct _) => true | _ => false) = true := by rw [Try.underlying41]
set_option maxRecDepth 100000 in
theorem law41 : Maps.Keyed Try.prog 41 := Maps.Keyed.of_law (deep_law_laid laidOut41 (m := 2) (by omega) row41 (by kernel_rfl) wide41)
def kC (c : S41) : Lit := .string (keyBytes [.int .i64 c.f0, .int .i64 c.f1])
theorem keyType41 : Try.prog.keyType 41 = true := by kernel_rfl
theorem types_succ : ∃ n, Try.prog.types.size = n + 1 := by
  have h : 0 < Try.prog.types.size := Nat.lt_of_le_of_lt (Nat.zero_le 41) row41
  exact ⟨Try.prog.types.size - 1, by omega⟩
theorem key41 {c : S41} (h0 : (Lit.int .i64 c.f0).wf = true) (h1 : (Lit.int .i64 c.f1).wf = true) : keyOf Try.prog 41 (.agg #[.int .i64 c.f0, .int .i64 c.f1]) = some (kC c) := by
  obtain ⟨n, hn⟩ := types_succ
  have hf : (Value.agg #[.int .i64 c.f0, .int .i64 c.f1]).formed Try.prog 41 = true := by simp [Value.formed, Try.underlying41, cells41]
  unfold keyOf
  rw [Try.underlying41]
  simp only [keyType41, hf, Bool.and_self, if_true]
  have hc3 : Try.prog.cellsOf 3 = 1 := by kernel_rfl
  have hv : (Value.agg #[.int .i64 c.f0, .int .i64 c.f1]).cells.toList = [.int .i64 c.f0, .int .i64 c.f1] := rfl
  rw [hv, hn]
  simp [Program.keyLits, Try.underlying41, Try.underlying3, cells41, hc3, h0, h1, kC]
def u1 : DataW Unit := .lit (.int .i64 1)
def nbD (V : List S41) : DataW Unit := Maps.setOf u1 (V.map kC)
theorem nbD_snoc (V : List S41) (c : S41) : nbD (V ++ [c]) = (nbD V).put (kC c) u1 := by
  unfold nbD
  rw [List.map_append]
  exact Maps.setOf_snoc _ _ _
def sd (c : S41) : List S41 := [⟨c.f0, c.f1 - 1⟩, ⟨c.f0 - 1, c.f1⟩, ⟨c.f0 + 1, c.f1⟩, ⟨c.f0, c.f1 + 1⟩]
def freeOf (l : List S41) (d : S41) : Bool := !hasB l d.f0 d.f1
def nbTo (l : List S41) (i : Int) : List S41 := (l.take i.toNat).flatMap fun c => (sd c).filter (freeOf l)
def nbIn (l : List S41) (i j : Int) : List S41 := nbTo l i ++ ((sd (rd_T41 l i)).take j.toNat).filter (freeOf l)
theorem nbIn_zero (l : List S41) (i : Int) : nbIn l i 0 = nbTo l i := by simp [nbIn]
theorem nbIn_four {l : List S41} {i : Int} (h0 : 0 ≤ i) (h1 : i < l.length) : nbIn l i 4 = nbTo l (i + 1) := by
  unfold nbIn nbTo
  rw [take_succ_rd h0 h1, List.flatMap_append]
  simp [sd]
theorem nbIn_yes {l : List S41} {i j : Int} (h0 : 0 ≤ j) (h1 : j < 4) (h : freeOf l (rd_T41 (sd (rd_T41 l i)) j) = true) : nbIn l i (j + 1) = nbIn l i j ++ [rd_T41 (sd (rd_T41 l i)) j] := by
  unfold nbIn
  rw [take_succ_rd h0 (by simp [sd]; omega), List.filter_append, List.append_assoc]
  simp [h]
theorem nbIn_no {l : List S41} {i j : Int} (h0 : 0 ≤ j) (h1 : j < 4) (h : freeOf l (rd_T41 (sd (rd_T41 l i)) j) = false) : nbIn l i (j + 1) = nbIn l i j := by
  unfold nbIn
  rw [take_succ_rd h0 (by simp [sd]; omega), List.filter_append]
  simp [h]
def nbcB (l : List S41) : Int := if isShapeB l = true then (Maps.size (nbD (nbTo l l.length)) : Int) else -1
theorem map_below {w w' : World} {k : TypeId} {R : Value → Option (DataW Unit × List MemPlace)} {b n : Nat} {D : DataW Unit} (h : w.ownsMap Try.prog k R b n D) (hb : Below w.heap.size w w') : w'.ownsMap Try.prog k R b n D := by
  have hlt := h.lt
  obtain ⟨es, clock, h1, h2⟩ := h
  exact ⟨es, clock, (hb.block b hlt).trans h1, h2⟩
theorem sides_sd {c : S41} (h : -100 ≤ c.f0 ∧ c.f0 ≤ 100) (k : -100 ≤ c.f1 ∧ c.f1 ≤ 100) : impl_sides.f c.f0 c.f1 = some (sd c) := by
  unfold impl_sides.f sd
  rw [w64 (x := c.f1 - 1) (by omega) (by omega), w64 (x := c.f0 - 1) (by omega) (by omega), w64 (x := c.f0 + 1) (by omega) (by omega), w64 (x := c.f1 + 1) (by omega) (by omega)]
theorem sd_small {c : S41} (h : 0 ≤ c.f0 ∧ c.f0 ≤ 7) (k : 0 ≤ c.f1 ∧ c.f1 ≤ 7) {j : Int} (h0 : 0 ≤ j) (h1 : j < 4) : -1 ≤ (rd_T41 (sd c) j).f0 ∧ (rd_T41 (sd c) j).f0 ≤ 8 ∧ -1 ≤ (rd_T41 (sd c) j).f1 ∧ (rd_T41 (sd c) j).f1 ≤ 8 := by
  have : j = 0 ∨ j = 1 ∨ j = 2 ∨ j = 3 := by omega
  rcases this with rfl | rfl | rfl | rfl
  · show -1 ≤ c.f0 ∧ c.f0 ≤ 8 ∧ -1 ≤ c.f1 - 1 ∧ c.f1 - 1 ≤ 8
    omega
  · show -1 ≤ c.f0 - 1 ∧ c.f0 - 1 ≤ 8 ∧ -1 ≤ c.f1 ∧ c.f1 ≤ 8
    omega
  · show -1 ≤ c.f0 + 1 ∧ c.f0 + 1 ≤ 8 ∧ -1 ≤ c.f1 ∧ c.f1 ≤ 8
    omega
  · show -1 ≤ c.f0 ∧ c.f0 ≤ 8 ∧ -1 ≤ c.f1 + 1 ∧ c.f1 + 1 ≤ 8
    omega
theorem cc_grown2 {w w1 : World} {A : Option Addr} {n : Nat} {xs : List S41} {row : Option Nat} (h : Kd.C k41 w A n xs) (hg : w.grownBy w1 row) (hne : ∀ ad, A = some ad → 0 < n → some ad.block ≠ row) : Kd.C k41 w1 A n xs := by
  refine ⟨h.1, h.2.1, fun hn => ?_⟩
  obtain ⟨ad, e, hc⟩ := h.2.2 hn
  refine ⟨ad, e, fun j p hj => ?_⟩
  obtain ⟨c, hs, hr, hcell⟩ := hc j p hj
  refine ⟨c, hs, by rw [k41_open hr]; exact k41_mk _ _, fun i u hu => ?_⟩
  have h1 := hcell i u hu
  have hb : (ad.add (j * k41.sz + i)).block = ad.block := by unfold Addr.add; split <;> rfl
  have hlt : ad.block < w.heap.size := by have := World.block_lt_of_cell? w _ h1; rwa [hb] at this
  rw [← h1]
  unfold World.cell?
  rw [hb, hg.block _ hlt (hne ad e hn)]
theorem wfi {x : Int} (h : -1000 ≤ x) (h2 : x ≤ 1000) : (Lit.int .i64 x).wf = true := WalkArith.wf_i64 (by omega)
set_option maxHeartbeats 4000000 in
set_option maxRecDepth 100000 in
theorem iNbr (A0 : Option Addr) (c0 : Nat) (l0 : List S41) (w : World) (hr0 : Kd.C k41 w A0 l0.length l0) (hc0 : l0.length ≤ c0) :
    Calls Try.prog 15 #[.slice A0 l0.length c0] w fun e w' => e = .returned (.int .i64 (nbcB l0)) ∧ Below w.heap.size w w' := by
  have hu41 := Try.underlying41
  have hlen := C_len hr0
  have HR0 := Aside0.mk hr0
  have HC := Aside0.mk (iIsShape A0 c0 l0 w hr0 hc0)
  clear hr0
  rcases hs : isShapeB l0 with _ | _
  · have HV := Aside0.mk (show nbcB l0 = -1 by simp [nbcB, hs])
    rw [hs] at HC
    go_enter Try.func15, Try.ntmps15
    go_wp2_with (first | (go_at_call 32; refine HC.out.mono ?_; rintro e w5 ⟨rfl, hb⟩; have HB5 := Aside0.mk hb; clear hb))
    go_ret
    exact ⟨by rw [HV.out]; rfl, HB5.out⟩
  · have HV := Aside0.mk (show nbcB l0 = (Maps.size (nbD (nbTo l0 l0.length)) : Int) by simp [nbcB, hs])
    rw [hs] at HC
    have HS := Aside0.mk hs
    obtain ⟨hl1, hl8⟩ := shape_len hs
    clear hs
    have hmm := @run_makeMap Try.prog
    go_enter Try.func15, Try.ntmps15
    go_upto_region 3 with (first | (go_at_call 32; refine HC.out.mono ?_; rintro e w5 ⟨rfl, hb⟩; have HB5 := Aside0.mk hb; clear hb))
    clear HC
    go_upto_region 5 with (fail)
    obtain ⟨gm, hgm⟩ : ∃ gm, gm = w5.heap.size := ⟨_, rfl⟩
    obtain ⟨wm, hwm⟩ : ∃ wm, wm = w5.alloc (Obj.map #[] 0) := ⟨_, rfl⟩
    have HM := Aside0.mk (show wm.ownsMap Try.prog 41 (plainElem Try.prog 3) gm 0 (nbD (nbTo l0 0)) by rw [hwm, hgm]; exact World.ownsMap_made _ _ _ _)
    have HB := Aside0.mk (show Below w.heap.size w wm by rw [hwm]; exact below_alloc HB5.out _)
    have GE := Aside0.mk (show w.heap.size ≤ gm by rw [hgm]; exact HB5.out.size)
    rw [← hwm, ← hgm]
    clear hwm hgm HB5
    go_loopw [14] (fun v14 w' => ∃ (i : Int) (n : Nat), v14 = .int .i64 i ∧ 0 ≤ i ∧ i ≤ l0.length ∧ Aside0 ((n : Int) ≤ 4 * i) ∧ Aside0 (w'.ownsMap Try.prog 41 (plainElem Try.prog 3) gm n (nbD (nbTo l0 i))) ∧ Aside0 (Below w.heap.size w w')) (fun v14 _ => l0.length - (intOf v14).toNat)
    case atStart => exact ⟨0, 0, rfl, by omega, by omega, ⟨by omega⟩, HM, HB⟩
    case round =>
      clear HM HB
      obtain ⟨i, n, rfl, hi0, hin, HN, HM, HB⟩ := hrel
      by_cases hlt : i < (l0.length : Int)
      · obtain ⟨ad, e, hx0, hx1⟩ := at_T41 (Kd.C_below HR0.out HB.out) i hi0 hlt
        cases e
        obtain ⟨q0, q1, q2, q3⟩ := shape_cell HS.out hi0 hlt
        go_upto_region 7 with (((with_reducible refine gate_dst (N := 5) rfl ?_); refine box_c ?hg (N := 5) (t := 41) ?hd ?hr ?_; (case hd => rfl); (case hg => rfl); (case hr => first | (go_simp; done) | (go_simp; rfl)); intro gb w3 BX hz0 hz1 hf0 hf1))
        obtain ⟨W4, hW, HW, hb0, hb1, BC⟩ := BX.put (rd_T41 l0 i).f0 (rd_T41 l0 i).f1
        rw [hW]
        have HB4 := Aside0.mk (below_step HB.out HW)
        have HM4 := Aside0.mk (map_below HM.out HW)
        have HSD := Aside0.mk (sides_sd (c := rd_T41 l0 i) (by omega) (by omega))
        clear hW HW hz0 hz1 hf0 hf1 BX BC hx0 hx1 HB HM
        have HIN := Aside0.mk (nbIn_four hi0 hlt)
        have HI0 := Aside0.mk (nbIn_zero l0 i)
        have HSM := Aside0.mk (fun j (h0 : 0 ≤ j) (h1 : j < 4) => sd_small (c := rd_T41 l0 i) ⟨q0, q1⟩ ⟨q2, q3⟩ h0 h1)
        have HY := Aside0.mk (fun j (h0 : 0 ≤ j) (h1 : j < 4) => nbIn_yes (l := l0) (i := i) h0 h1)
        have HNO := Aside0.mk (fun j (h0 : 0 ≤ j) (h1 : j < 4) => nbIn_no (l := l0) (i := i) h0 h1)
        have HLS := Aside0.mk (show (sd (rd_T41 l0 i)).length = 4 from rfl)
        generalize sd (rd_T41 l0 i) = ds at HSD HY HNO HSM HLS
        go_upto_region 8 with (first
          | (go_at_call 33; (with_reducible refine (impl_sides.calls _ _ _ _ HSD.out).mono ?_); rintro e w6 ⟨v0, rfl, ho, hb⟩; obtain ⟨Ad, cd, rfl, _, hcd⟩ := Kd.R_reads ho; have HW := Aside0.mk hb; have HCD := Aside0.mk hcd; have HOB := Aside0.mk (Kd.R_bound ho).1; clear ho hb hcd))
        have HB6 := Aside0.mk (below_step HB4.out HW.out)
        have HM6 := Aside0.mk (show w6.ownsMap Try.prog 41 (plainElem Try.prog 3) gm n (nbD (nbIn l0 i 0)) by rw [HI0.out]; exact map_below HM4.out HW.out)
        have HDB := Aside0.mk (show ∀ ad', Ad = some ad' → ad'.block ≠ gm ∧ ad'.block < w6.heap.size from fun ad' e => by subst e; have h1 := HOB.out ad'.block rfl; have h2 := HM4.out.lt; have h3 := h1.2.1; exact ⟨by omega, h1.2.2.1⟩)
        clear HB4 HM4 HW hb0 hb1 HOB
        obtain ⟨wo, rfl⟩ : ∃ wo : World, wo = wr := ⟨_, rfl⟩
        have hcast : ((ds.length : Nat) : Int) = 4 := by rw [HLS.out]; rfl
        rw [hcast]
        rw [HLS.out] at HCD ⊢
        clear hcast
        have HN6 := Aside0.mk (show (n : Int) ≤ 4 * i + 0 by have := HN.out; omega)
        clear HN
        go_loopw [21] (fun v21 w' => ∃ (j : Int) (m : Nat), v21 = .int .i64 j ∧ 0 ≤ j ∧ j ≤ 4 ∧ Aside0 ((m : Int) ≤ 4 * i + j) ∧ Aside0 (w'.ownsMap Try.prog 41 (plainElem Try.prog 3) gm m (nbD (nbIn l0 i j))) ∧ Aside0 (Kd.C k41 w' Ad 4 ds) ∧ Aside0 (∀ ad', Ad = some ad' → ad'.block ≠ gm ∧ ad'.block < w'.heap.size) ∧ Aside0 (Below w.heap.size w w')) (fun v21 _ => 4 - (intOf v21).toNat)
        case atStart => exact ⟨0, n, rfl, by omega, by omega, HN6, HM6, HCD, HDB, HB6⟩
        case round =>
          clear HN6 HM6 HCD HDB HB6
          obtain ⟨j, m, rfl, hj0, hj4, HN, HM, HCD, HDB, HB⟩ := hrel
          by_cases hjl : j < 4
          · obtain ⟨ad2, e, hx0, hx1⟩ := at_T41 HCD.out j hj0 (by omega)
            cases e
            obtain ⟨s0, s1, s2, s3⟩ := HSM.out j hj0 hjl
            have HYJ := Aside0.mk (HY.out j hj0 hjl)
            have HNJ := Aside0.mk (HNO.out j hj0 hjl)
            go_upto_region 10 with (((with_reducible refine gate_dst (N := 7) rfl ?_); refine box_c ?hg (N := 7) (t := 41) ?hd ?hr ?_; (case hd => rfl); (case hg => rfl); (case hr => first | (go_simp; done) | (go_simp; rfl)); intro gb w3 BX hz0 hz1 hf0 hf1))
            obtain ⟨W4, hW, HW, hb0, hb1, BC⟩ := BX.put (rd_T41 ds j).f0 (rd_T41 ds j).f1
            rw [hW]
            have HB4 := Aside0.mk (below_step HB.out HW)
            have HM4 := Aside0.mk (map_below HM.out HW)
            have HCD4 := Aside0.mk (Kd.C_below HCD.out HW)
            have HDB4 := Aside0.mk (show ∀ ad', some ad2 = some ad' → ad'.block ≠ gm ∧ ad'.block < W4.heap.size from fun ad' e => ⟨(HDB.out ad' e).1, Nat.lt_of_lt_of_le (HDB.out ad' e).2 HW.size⟩)
            have HKX := Aside0.mk (show keyOf Try.prog 41 (.agg #[.int .i64 (rd_T41 ds j).f0, .int .i64 (rd_T41 ds j).f1]) = some (kC (rd_T41 ds j)) from key41 (wfi (by omega) (by omega)) (wfi (by omega) (by omega)))
            have HFR := Aside0.mk (show freeOf l0 (rd_T41 ds j) = !hasB l0 (rd_T41 ds j).f0 (rd_T41 ds j).f1 from rfl)
            have rb0 := BW.cell hb0
            have rb1 := BW.cell hb1
            have hrr := Kd.C_below HR0.out HB4.out
            have HX := Aside0.mk (Below.refl W4.heap.size W4)
            clear hW HW hz0 hz1 hf0 hf1 BX BC hx0 hx1 HB HM HCD HDB
            have hmb : (m : Int) ≤ 100 := by have := HN.out; omega
            rcases hh : hasB l0 (rd_T41 ds j).f0 (rd_T41 ds j).f1 with _ | _
            · rw [hh] at HFR
              have HE := Aside0.mk (HYJ.out HFR.out)
              go_wp2_with (first
                | (go_at_call 36; (with_reducible refine (ihas_w hrr HX.out hc0 hh).mono ?_); rintro e w6 ⟨rfl, hb⟩; have hq0 : w6.cell? _ = _ := rb0 ⟨w6, hb⟩; have hq1 : w6.cell? _ = _ := rb1 ⟨w6, hb⟩; clear HX; have HX := Aside0.mk hb; have HM6 := Aside0.mk (map_below HM4.out hb); clear hb)
                | (at_mapUpdate; refine wpList_mapUpdate_own _ rfl _ _ _ 49 rfl 41 3 law41 Try.underlying49 (plainElem (H := Unit) Try.prog 3) gm m _ rfl HM6.out (by unfold maxLen; omega) _ _ _ rfl rfl HKX.out _ [] (plainElem_int Try.underlying3 (WalkArith.wf_i64 (by omega))) ?_; intro w7 hown hgrow; have HM7 := Aside0.mk hown; have HG7 := Aside0.mk hgrow; clear hown hgrow))
              go_roundw
              case rel => exact ⟨j + 1, m + 1, rfl, by omega, by omega, ⟨by have := HN.out; omega⟩, ⟨by rw [HE.out, nbD_snoc]; exact HM7.out⟩, ⟨cc_grown2 (Kd.C_below HCD4.out HX.out) HG7.out (fun ad' e _ h => (HDB4.out ad' e).1 (Option.some.inj h))⟩, ⟨fun ad' e => ⟨(HDB4.out ad' e).1, Nat.lt_of_lt_of_le (HDB4.out ad' e).2 (Nat.le_trans HX.out.size HG7.out.size)⟩⟩, ⟨(below_step HB4.out HX.out).grown HG7.out (below_step HB4.out HX.out).size (fun k hk => by cases hk; exact GE.out)⟩⟩
              case measure => simp [intOf]; omega
            · rw [hh] at HFR
              have HE := Aside0.mk (HNJ.out HFR.out)
              go_wp2_with (first
                | (go_at_call 36; (with_reducible refine (ihas_w hrr HX.out hc0 hh).mono ?_); rintro e w6 ⟨rfl, hb⟩; have hq0 : w6.cell? _ = _ := rb0 ⟨w6, hb⟩; have hq1 : w6.cell? _ = _ := rb1 ⟨w6, hb⟩; clear HX; have HX := Aside0.mk hb; have HM6 := Aside0.mk (map_below HM4.out hb); clear hb))
              go_roundw
              case rel => exact ⟨j + 1, m, rfl, by omega, by omega, ⟨by have := HN.out; omega⟩, ⟨by rw [HE.out]; exact HM6.out⟩, ⟨Kd.C_below HCD4.out HX.out⟩, ⟨fun ad' e => ⟨(HDB4.out ad' e).1, Nat.lt_of_lt_of_le (HDB4.out ad' e).2 HX.out.size⟩⟩, ⟨below_step HB4.out HX.out⟩⟩
              case measure => simp [intOf]; omega
          · go_wp2
            go_roundw
            case rel => exact ⟨i + 1, m, rfl, by omega, by omega, ⟨by have := HN.out; omega⟩, ⟨by rw [← HIN.out, ← show j = 4 by omega]; exact HM.out⟩, HB⟩
            case measure => simp [intOf]; omega
      · go_wp2_with (first
          | (at_len; refine wpList_len_own _ rfl _ 49 rfl 41 3 Try.underlying49 (plainElem Try.prog 3) gm n _ rfl HM.out ?_)
          | go_in)
        go_ret
        exact ⟨by rw [HV.out, show i = l0.length by omega]; rfl, HB.out⟩
end Go.Proofs.Ytlohfeicfhmlmaa.PFnOutlines

namespace Go.Proofs.Ytlohfeicfhmlmaa.PFnOutlines
open Go.RowKit Go.Proofs.YtlohfeicfhmlmaaW.PrintWords Go.Proofs.YtlohfeicfhmlmaaW.PrintLast Go.Proofs.YtlohfeicfhmlmaaW.PrintMore ETool
def addS (acc : List S41) (c : S41) : List S41 := if hasB acc c.f0 c.f1 = true then acc else acc ++ [c]
theorem addS_mem {acc : List S41} {c d : S41} : d ∈ addS acc c ↔ d ∈ acc ∨ d = c := by
  unfold addS
  split
  · rename_i h
    rw [hasB_iff] at h
    constructor
    · exact .inl
    · rintro (h' | rfl)
      · exact h'
      · exact h
  · simp
theorem addS_nodup {acc : List S41} {c : S41} (h : acc.Nodup) : (addS acc c).Nodup := by
  unfold addS
  split
  · exact h
  · rename_i k
    exact nodup_snoc h fun hc => k (hasB_iff.mpr hc)
theorem foldS : ∀ (V acc : List S41), acc.Nodup → (V.foldl addS acc).Nodup ∧ ∀ d, d ∈ V.foldl addS acc ↔ d ∈ acc ∨ d ∈ V
  | [], acc, h => ⟨h, fun d => by simp⟩
  | c :: V, acc, h => by
    obtain ⟨h1, h2⟩ := foldS V (addS acc c) (addS_nodup h)
    refine ⟨h1, fun d => (h2 d).trans ?_⟩
    rw [addS_mem, List.mem_cons]
    constructor
    · rintro ((k | k) | k)
      · exact .inl k
      · exact .inr (.inl k)
      · exact .inr (.inr k)
    · rintro (k | k | k)
      · exact .inl (.inl k)
      · exact .inl (.inr k)
      · exact .inr k
def sml (c : S41) : Prop := -1000 ≤ c.f0 ∧ c.f0 ≤ 1000 ∧ -1000 ≤ c.f1 ∧ c.f1 ≤ 1000
theorem kC_inj {c d : S41} (hc : sml c) (hd : sml d) (h : kC c = kC d) : c = d := by
  obtain ⟨a1, a2, a3, a4⟩ := hc
  obtain ⟨b1, b2, b3, b4⟩ := hd
  have h1 := key41 (c := c) (wfi a1 a2) (wfi a3 a4)
  have h2 := key41 (c := d) (wfi b1 b2) (wfi b3 b4)
  rw [h] at h1
  have := law41.inj h1 h2
  cases c
  cases d
  simp at this
  rw [S41.mk.injEq]
  exact this
theorem kC_key (c : S41) : WideAt.IsKeyLit (kC c) := trivial
theorem any_key {acc : List S41} {c : S41} (ha : ∀ d ∈ acc, sml d) (hc : sml c) : (acc.map kC).any (fun y => y.sameKey (kC c)) = hasB acc c.f0 c.f1 := by
  rw [Bool.eq_iff_iff, hasB_iff, List.any_eq_true]
  constructor
  · rintro ⟨y, hy, e⟩
    rw [List.mem_map] at hy
    obtain ⟨d, hd, rfl⟩ := hy
    have := kC_inj (ha d hd) hc (WideAt.sameKey_eq e)
    subst this
    exact hd
  · intro h
    exact ⟨kC c, List.mem_map.mpr ⟨c, h, rfl⟩, WideAt.sameKey_self (kC_key c)⟩
theorem fold_key : ∀ (V acc : List S41), (∀ d ∈ V, sml d) → (∀ d ∈ acc, sml d) → (V.map kC).foldl Maps.addKey (acc.map kC) = (V.foldl addS acc).map kC
  | [], _, _, _ => rfl
  | c :: V, acc, hV, hA => by
    have e : Maps.addKey (acc.map kC) (kC c) = (addS acc c).map kC := by
      unfold Maps.addKey addS
      rw [any_key hA (hV c (by simp))]
      split
      · rfl
      · simp
    rw [List.map_cons, List.foldl_cons, List.foldl_cons, e]
    refine fold_key V _ (fun d hd => hV d (by simp [hd])) fun d hd => ?_
    rcases addS_mem.mp hd with h | rfl
    · exact hA d h
    · exact hV d (by simp)
theorem size_nbD {V : List S41} (hV : ∀ d ∈ V, sml d) : Maps.size (nbD V) = (V.foldl addS []).length := by
  unfold nbD
  rw [Maps.size_setOf _ _ (fun x hx => by
    rw [List.mem_map] at hx
    obtain ⟨c, _, rfl⟩ := hx
    exact kC_key c)]
  have := fold_key V [] hV (by simp)
  rw [List.map_nil] at this
  rw [this, List.length_map]
/-- The reference's order of the four directions. -/
def sd2 (c : S41) : List S41 := [⟨c.f0 + 1, c.f1⟩, ⟨c.f0, c.f1 + 1⟩, ⟨c.f0 - 1, c.f1⟩, ⟨c.f0, c.f1 - 1⟩]
theorem sd2_mem (c d : S41) : d ∈ sd2 c ↔ d ∈ sd c := by
  unfold sd2 sd
  simp only [List.mem_cons, List.not_mem_nil, or_false]
  constructor
  · rintro (h | h | h | h)
    · exact .inr (.inr (.inl h))
    · exact .inr (.inr (.inr h))
    · exact .inr (.inl h)
    · exact .inl h
  · rintro (h | h | h | h)
    · exact .inr (.inr (.inr h))
    · exact .inr (.inr (.inl h))
    · exact .inl h
    · exact .inr (.inl h)
def nv2 (l : List S41) (i : Int) : List S41 := (l.take i.toNat).flatMap fun c => (sd2 c).filter (freeOf l)
def nw2 (l : List S41) (i j : Int) : List S41 := nv2 l i ++ ((sd2 (rd_T41 l i)).take j.toNat).filter (freeOf l)
theorem nw2_four {l : List S41} {i : Int} (h0 : 0 ≤ i) (h1 : i < l.length) : nw2 l i 4 = nv2 l (i + 1) := by
  unfold nw2 nv2
  rw [take_succ_rd h0 h1, List.flatMap_append]
  simp [sd2]
theorem nw2_step {l : List S41} {i j : Int} (h0 : 0 ≤ j) (h1 : j < 4) : nw2 l i (j + 1) = nw2 l i j ++ (if freeOf l (rd_T41 (sd2 (rd_T41 l i)) j) = true then [rd_T41 (sd2 (rd_T41 l i)) j] else []) := by
  unfold nw2
  rw [take_succ_rd h0 (by simp [sd2]; omega), List.filter_append, List.append_assoc]
  split
  · rename_i h; simp [h]
  · rename_i h; simp [h]
section
variable {l : List S41} (hs : isShapeB l = true)
include hs
theorem nbs_l1 {r : Int} {i : Int} (hi0 : 0 ≤ i) (hi1 : i < l.length) (cont : ∀ out, out = (nv2 l (i + 1)).foldl addS [] → Ev (fun k => spec_NeighbourCells.l0 k l out (i + 1)) r) : ∀ (m : Nat) (j : Int) (out : List S41), 0 ≤ j → j ≤ 4 → 4 ≤ j + m → out = (nw2 l i j).foldl addS [] → Ev (fun k => spec_NeighbourCells.l1 k l out i j) r
  | m, j, out, hj0, hj4, hm, ho => by
    have hl8 := (shape_len hs).2
    have w1 : wrap64 (i + 1) = i + 1 := w64 (by omega) (by omega)
    have w2 : wrap64 (j + 1) = j + 1 := w64 (by omega) (by omega)
    by_cases hj : j < 4
    · obtain ⟨m', rfl⟩ : ∃ m', m = m' + 1 := ⟨m - 1, by omega⟩
      obtain ⟨c1, c2, c3, c4⟩ := shape_cell hs hi0 hi1
      obtain ⟨⟨n1, n2⟩, ⟨n3, n4⟩, ⟨n5, n6⟩, n7, n8⟩ := nb_eq (u := (rd_T41 l i).f0) (v := (rd_T41 l i).f1) (by omega) (by omega)
      have hp : ∃ a b, rd_T41 (sd2 (rd_T41 l i)) j = ⟨a, b⟩ ∧ nbX (rd_T41 l i).f0 j = a ∧ nbY (rd_T41 l i).f1 j = b := by
        have : j = 0 ∨ j = 1 ∨ j = 2 ∨ j = 3 := by omega
        rcases this with rfl | rfl | rfl | rfl
        · exact ⟨_, _, rfl, n1, n2⟩
        · exact ⟨_, _, rfl, n3, n4⟩
        · exact ⟨_, _, rfl, n5, n6⟩
        · exact ⟨_, _, rfl, n7, n8⟩
      obtain ⟨a, b, e0, e1, e2⟩ := hp
      have hst := nw2_step (l := l) (i := i) hj0 hj
      rw [e0] at hst
      have ih := fun out h => nbs_l1 hi0 hi1 cont m' (j + 1) out (by omega) (by omega) (by omega) h
      have ea : wrap64 ((rd_T41 l i).f0 + Int.tmod (wrap64 (1 - j)) 2) = a := e1
      have eb : wrap64 ((rd_T41 l i).f1 + Int.tmod (wrap64 (2 - j)) 2) = b := e2
      have hlen : out.length ≤ 1000 := by
        have hsub : ∀ d ∈ out, d ∈ grid 10 := by
          intro d hd
          rw [ho, (foldS _ [] (by simp)).2] at hd
          rcases hd with hd | hd
          · cases hd
          · have key : ∀ c ∈ l, ∀ d, d ∈ sd2 c → d ∈ grid 10 := by
              intro c hc d hd
              obtain ⟨q, q0, q1, rfl⟩ := mem_rd hc
              obtain ⟨r1, r2, r3, r4⟩ := shape_cell hs q0 q1
              have : -1 ≤ d.f0 ∧ d.f0 ≤ 8 ∧ -1 ≤ d.f1 ∧ d.f1 ≤ 8 := by
                unfold sd2 at hd
                simp only [List.mem_cons, List.not_mem_nil, or_false] at hd
                rcases hd with rfl | rfl | rfl | rfl <;> simp only <;> omega
              exact grid_mem (x := d.f0) (y := d.f1) (by omega) (by omega) (by omega) (by omega)
            unfold nw2 nv2 at hd
            rcases List.mem_append.mp hd with hd | hd
            · rw [List.mem_flatMap] at hd
              obtain ⟨c, hc, hd⟩ := hd
              exact key c (List.mem_of_mem_take hc) d (List.mem_filter.mp hd).1
            · exact key _ (rd_mem hi0 hi1) d (List.mem_of_mem_take (List.mem_filter.mp hd).1)
        have := nodup_sub_len (by rw [ho]; exact (foldS _ [] (by simp)).1) hsub
        rw [grid10_len] at this
        omega
      rcases hc : hasB l a b with _ | _
      · have hfr : freeOf l ⟨a, b⟩ = true := by unfold freeOf; rw [hc]; rfl
        rw [hfr, if_pos rfl] at hst
        have hfold : (nw2 l i (j + 1)).foldl addS [] = addS out ⟨a, b⟩ := by rw [hst, List.foldl_append, ← ho]; rfl
        rcases ho2 : hasB out a b with _ | _
        · refine Ev.step (f := fun k => spec_NeighbourCells.l1 k l (out ++ [⟨a, b⟩]) i (j + 1)) (fun k => ?_) (ih _ (by rw [hfold]; unfold addS; rw [ho2, if_neg (by simp)]))
          simp only [spec_NeighbourCells.l1]
          rw [if_pos hj, if_pos hi0, if_pos hi1, ea, eb, w2]
          simp only [spec_HasCell.f, Option.bind_some]
          rw [hc, if_neg (by simp), ho2, if_neg (by simp), if_pos (by omega)]
        · refine Ev.step (f := fun k => spec_NeighbourCells.l1 k l out i (j + 1)) (fun k => ?_) (ih _ (by rw [hfold]; unfold addS; rw [ho2, if_pos rfl]))
          simp only [spec_NeighbourCells.l1]
          rw [if_pos hj, if_pos hi0, if_pos hi1, ea, eb, w2]
          simp only [spec_HasCell.f, Option.bind_some]
          rw [hc, if_neg (by simp), ho2, if_pos rfl]
      · have hfr : freeOf l ⟨a, b⟩ = false := by unfold freeOf; rw [hc]; rfl
        rw [hfr, if_neg (by simp), List.append_nil] at hst
        refine Ev.step (f := fun k => spec_NeighbourCells.l1 k l out i (j + 1)) (fun k => ?_) (ih _ (by rw [hst]; exact ho))
        simp only [spec_NeighbourCells.l1]
        rw [if_pos hj, if_pos hi0, if_pos hi1, ea, eb, w2]
        simp only [spec_HasCell.f, Option.bind_some]
        rw [hc, if_pos rfl]
    · obtain rfl : j = 4 := by omega
      refine Ev.step (f := fun k => spec_NeighbourCells.l0 k l out (i + 1)) (fun k => ?_) (cont out (by rw [ho, nw2_four hi0 hi1]))
      simp only [spec_NeighbourCells.l1]
      rw [if_neg (by omega), w1]
theorem nbs_l0 : ∀ (m : Nat) (i : Int) (out : List S41), 0 ≤ i → i ≤ l.length → l.length ≤ i + m → out = (nv2 l i).foldl addS [] → Ev (fun k => spec_NeighbourCells.l0 k l out i) ((((nv2 l l.length).foldl addS []).length : Nat) : Int)
  | m, i, out, hi0, hil, hm, ho => by
    by_cases hi : i < (l.length : Int)
    · obtain ⟨m', rfl⟩ : ∃ m', m = m' + 1 := ⟨m - 1, by omega⟩
      refine Ev.step (f := fun k => spec_NeighbourCells.l1 k l out i 0) (fun k => ?_) (nbs_l1 hs hi0 hi (fun out h => nbs_l0 m' (i + 1) out (by omega) (by omega) (by omega) h) 4 0 out (by omega) (by omega) (by omega) ?_)
      · simp only [spec_NeighbourCells.l0]
        rw [if_pos hi]
      · rw [ho]
        unfold nw2
        simp
    · refine Ev.step (f := fun _ => some (out.length : Int)) (fun k => ?_) ?_
      · simp only [spec_NeighbourCells.l0]
        rw [if_neg hi]
      · rw [ho, show i = (l.length : Int) by omega]
        exact Ev.now _
theorem nbs_eq : ((((nv2 l l.length).foldl addS []).length : Nat) : Int) = nbcB l := by
  have hV : ∀ d ∈ nbTo l l.length, sml d := by
    intro d hd
    unfold nbTo at hd
    rw [List.mem_flatMap] at hd
    obtain ⟨c, hc, hd⟩ := hd
    obtain ⟨q, q0, q1, rfl⟩ := mem_rd (List.mem_of_mem_take hc)
    obtain ⟨r1, r2, r3, r4⟩ := shape_cell hs q0 q1
    have hd := (List.mem_filter.mp hd).1
    unfold sd at hd
    simp only [List.mem_cons, List.not_mem_nil, or_false] at hd
    unfold sml
    rcases hd with rfl | rfl | rfl | rfl <;> simp only <;> omega
  unfold nbcB
  rw [if_pos hs, size_nbD hV]
  have h1 := foldS (nv2 l l.length) [] (by simp)
  have h2 := foldS (nbTo l l.length) [] (by simp)
  have hm : ∀ d, d ∈ nv2 l l.length ↔ d ∈ nbTo l l.length := by
    intro d
    unfold nv2 nbTo
    rw [List.mem_flatMap, List.mem_flatMap]
    constructor
    · rintro ⟨c, hc, hd⟩
      rw [List.mem_filter] at hd
      exact ⟨c, hc, List.mem_filter.mpr ⟨(sd2_mem c d).mp hd.1, hd.2⟩⟩
    · rintro ⟨c, hc, hd⟩
      rw [List.mem_filter] at hd
      exact ⟨c, hc, List.mem_filter.mpr ⟨(sd2_mem c d).mpr hd.1, hd.2⟩⟩
  have := (nodup_perm h1.1 h2.1 (fun d hd => (h2.2 d).mpr (((h1.2 d).mp hd).imp id (hm d).mp)) (fun d hd => (h1.2 d).mpr (((h2.2 d).mp hd).imp id (hm d).mpr))).length_eq
  rw [this]
theorem sNbr_plain : Ev (fun k => spec_NeighbourCells.f k l) (nbcB l) := by
  have h := nbs_l0 hs l.length 0 [] (by omega) (by omega) (by omega) rfl
  rw [nbs_eq hs] at h
  refine Ev.congr (f := fun k => spec_NeighbourCells.l0 k l [] 0) (fun k => ?_) h
  unfold spec_NeighbourCells.f spec_IsShape.f
  rw [hs]
  rfl
end
end Go.Proofs.Ytlohfeicfhmlmaa.PFnOutlines

namespace Go.Proofs.Ytlohfeicfhmlmaa.PFnOutlines
open Go.RowKit Go.Proofs.YtlohfeicfhmlmaaW.PrintWords Go.Proofs.YtlohfeicfhmlmaaW.PrintLast Go.Proofs.YtlohfeicfhmlmaaW.PrintMore ETool
theorem sNbr (A0 : Option Addr) (c0 : Nat) (l0 : List S41) (w : World) (hr0 : Kd.C k41 w A0 l0.length l0) (hc0 : l0.length ≤ c0) :
    Calls Try.prog 16 #[.slice A0 l0.length c0] w fun e w' => e = .returned (.int .i64 (nbcB l0)) ∧ Below w.heap.size w w' := by
  rcases hs : isShapeB l0 with _ | _
  · refine spec_NeighbourCells.calls 0 A0 c0 l0 (nbcB l0) w hr0 hc0 ?_
    unfold spec_NeighbourCells.f spec_IsShape.f nbcB
    rw [hs]
    rfl
  · obtain ⟨k, hk⟩ := (sNbr_plain hs).rounds
    exact spec_NeighbourCells.calls k A0 c0 l0 (nbcB l0) w hr0 hc0 hk
theorem rc_cf (l : List S41) : cfB l = rcB l := by
  unfold rcB
  rcases hs : isShapeB l with _ | _
  · exact cfB_no fun h => by rw [hs] at h; cases h.1
  · rw [cf_rf hs]
    rfl
theorem sRow (A0 : Option Addr) (c0 : Nat) (l0 : List S41) (w : World) (hr0 : Kd.C k41 w A0 l0.length l0) (hc0 : l0.length ≤ c0) :
    Calls Try.prog 18 #[.slice A0 l0.length c0] w fun e w' => e = .returned (.bool (rcB l0)) ∧ Below w.heap.size w w' := by
  rw [← rc_cf]
  exact sRowConv A0 c0 l0 w hr0 hc0
theorem wordOf_size (ds : List Int) : (wordOf ds).size = ds.length := by
  unfold wordOf ByteArray.size
  simp
theorem sBound (A0 : Option Addr) (c0 : Nat) (l0 : List S41) (w : World) (hr0 : Kd.C k41 w A0 l0.length l0) (hc0 : l0.length ≤ c0) :
    ∃ (s : ByteArray) (ok : Bool), (ok = true → (s.size : Int) = perB l0) ∧ ∀ W, Below w.heap.size w W → Calls Try.prog 24 #[.slice A0 l0.length c0] W fun e w' => e = .returned (.tuple #[.string s, .bool ok]) ∧ Below W.heap.size W w' := by
  have hH : ∀ W, Below w.heap.size w W → ∀ W', Below W.heap.size W W' → Calls Try.prog 12 #[.slice A0 l0.length c0] W' fun e w' => e = .returned (.int .i64 (holB l0)) ∧ Below W'.heap.size W' w' := fun W hb W' hb' => sHol A0 c0 l0 W' (Kd.C_below (Kd.C_below hr0 hb) hb') hc0
  rcases hs : cnB l0 with _ | _
  · exact ⟨⟨#[]⟩, false, fun h => (by cases h), fun W hb => sBoundNo A0 c0 l0 (holB l0) W (Kd.C_below hr0 hb) hc0 (hH W hb) (.inl hs)⟩
  by_cases h0 : holB l0 = 0
  · rcases hp : pinB l0 with _ | _
    · have hsh := (cnB_split hs).1
      obtain ⟨ws, hw, hl⟩ := bw_len hs (holB_holeAt hsh h0) hp
      rw [h0] at hH
      refine ⟨wordOf ws, true, fun _ => ?_, fun W hb => sBoundYes A0 c0 l0 ws W (Kd.C_below hr0 hb) hc0 (hH W hb) hs hp hw⟩
      rw [wordOf_size, hl]
      unfold perB
      rw [if_pos hsh]
    · exact ⟨⟨#[]⟩, false, fun h => (by cases h), fun W hb => sBoundNo A0 c0 l0 (holB l0) W (Kd.C_below hr0 hb) hc0 (hH W hb) (.inr (.inr ⟨hs, h0, hp⟩))⟩
  · exact ⟨⟨#[]⟩, false, fun h => (by cases h), fun W hb => sBoundNo A0 c0 l0 (holB l0) W (Kd.C_below hr0 hb) hc0 (hH W hb) (.inr (.inl ⟨hs, h0⟩))⟩
theorem perB_shape {l : List S41} (h : isShapeB l = true) : perB l = 4 * (l.length : Int) - 2 * innB l := by
  unfold perB
  rw [if_pos h]
end Go.Proofs.Ytlohfeicfhmlmaa.PFnOutlines
