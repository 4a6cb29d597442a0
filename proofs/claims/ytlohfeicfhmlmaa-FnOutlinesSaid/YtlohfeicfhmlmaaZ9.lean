/- A part of the proof that the law answers true for every input; this part bears lemmas that hold with no condition beyond those that each of them names. -/
import Derived.SizedLaws
import Derived.ChangeSlices
import Derived.Test.YtlohfeicfhmlmaaZ8
set_option linter.unusedVariables false
set_option linter.unusedSimpArgs false
namespace Go.Proofs.Ytlohfeicfhmlmaa.PFnOutlines
open Go.RowKit Go.Proofs.YtlohfeicfhmlmaaW.PrintWords Go.Proofs.YtlohfeicfhmlmaaW.PrintLast Go.Proofs.YtlohfeicfhmlmaaW.PrintMore ETool
set_option maxHeartbeats 4000000 in
set_option maxRecDepth 100000 in
theorem law3 (A0 : Option Addr) (c0 : Nat) (l0 : List Int) (w : World) (hr0 : Kd.C (Kd.int .u8) w A0 l0.length l0) (hc0 : l0.length ≤ c0) :
    Calls Try.prog 3 #[.slice A0 l0.length c0] w fun e w' => e = .returned (.bool true) ∧ Below w.heap.size w w' := by
  have HR0 := Aside0.mk hr0
  have HC0 := Aside0.mk hc0
  clear hr0 hc0
  obtain ⟨b, hbig⟩ : ∃ b, laws_big.f l0 = some b := ⟨_, rfl⟩
  have HBIG := Aside0.mk (laws_big.calls A0 c0 l0 b w HR0.out HC0.out hbig)
  clear hbig
  rcases b with _ | _
  · go_enter Try.func3, Try.ntmps3
    go_upto_region 4 with (first
      | (go_at_call 5; (with_reducible refine HBIG.out.mono ?_); rintro e w5 ⟨rfl, hd⟩; have hb : Below w.heap.size w w5 := (by obtain ⟨m, rfl⟩ := hd.out; exact pw_below_drewN (Below.refl _ _) m); have HB5 := Aside0.mk hb; have HDR := Aside0.mk (sDraw A0 c0 l0 w5 (Kd.C_below HR0.out hb) HC0.out); clear hd hb)
      | (go_at_call 6; (with_reducible refine HDR.out.mono ?_); rintro e w6 ⟨A, c, L, rfl, hl, hc, hb⟩; have HL := Aside0.mk hl; have HC := Aside0.mk hc; have HB6 := Aside0.mk (below_step HB5.out hb); clear hl hc hb))
    clear HBIG HB5 HDR HR0 HC0
    have H7 := Aside0.mk (fun W (hb : Below w6.heap.size w6 W) => iPer A c L W (Kd.C_below HC.out hb) HL.out)
    have H8 := Aside0.mk (fun W (hb : Below w6.heap.size w6 W) => iHol A c L W (Kd.C_below HC.out hb) HL.out)
    have H9 := Aside0.mk (fun W (hb : Below w6.heap.size w6 W) => iInner A c L W (Kd.C_below HC.out hb) HL.out)
    have H10 := Aside0.mk (fun W (hb : Below w6.heap.size w6 W) => iSquares A c L W (Kd.C_below HC.out hb) HL.out)
    have H11 := Aside0.mk (fun W (hb : Below w6.heap.size w6 W) => sPer A c L W (Kd.C_below HC.out hb) HL.out)
    have H12 := Aside0.mk (fun W (hb : Below w6.heap.size w6 W) => sHol A c L W (Kd.C_below HC.out hb) HL.out)
    have H13 := Aside0.mk (fun W (hb : Below w6.heap.size w6 W) => sInner A c L W (Kd.C_below HC.out hb) HL.out)
    have H14 := Aside0.mk (fun W (hb : Below w6.heap.size w6 W) => sSquares A c L W (Kd.C_below HC.out hb) HL.out)
    have H15 := Aside0.mk (fun W (hb : Below w6.heap.size w6 W) => iNbr A c L W (Kd.C_below HC.out hb) HL.out)
    have H16 := Aside0.mk (fun W (hb : Below w6.heap.size w6 W) => sNbr A c L W (Kd.C_below HC.out hb) HL.out)
    have H17 := Aside0.mk (fun W (hb : Below w6.heap.size w6 W) => iRowConv A c L W (Kd.C_below HC.out hb) HL.out)
    have H18 := Aside0.mk (fun W (hb : Below w6.heap.size w6 W) => sRow A c L W (Kd.C_below HC.out hb) HL.out)
    have H19 := Aside0.mk (fun W (hb : Below w6.heap.size w6 W) => iConvex A c L W (Kd.C_below HC.out hb) HL.out)
    have H20 := Aside0.mk (fun W (hb : Below w6.heap.size w6 W) => sConvex A c L W (Kd.C_below HC.out hb) HL.out)
    have H21 := Aside0.mk (fun W (hb : Below w6.heap.size w6 W) => iTree A c L W (Kd.C_below HC.out hb) HL.out)
    have H22 := Aside0.mk (fun W (hb : Below w6.heap.size w6 W) => sTree A c L W (Kd.C_below HC.out hb) HL.out)
    have H23 := Aside0.mk (fun W (hb : Below w6.heap.size w6 W) => sIsShape A c L W (Kd.C_below HC.out hb) HL.out)
    have HB := Aside0.mk (Below.refl w6.heap.size w6)
    have k1 : (perB L == perB L) = true := beq_self_eq_true _
    have k1' : (perB L != perB L) = false := bne_self_eq_false _
    have k2 : (holB L == holB L) = true := beq_self_eq_true _
    have k2' : (holB L != holB L) = false := bne_self_eq_false _
    have k3 : (innB L == innB L) = true := beq_self_eq_true _
    have k3' : (innB L != innB L) = false := bne_self_eq_false _
    have k4 : (sqB L == sqB L) = true := beq_self_eq_true _
    have k4' : (sqB L != sqB L) = false := bne_self_eq_false _
    have k5 : (nbcB L == nbcB L) = true := beq_self_eq_true _
    have k5' : (nbcB L != nbcB L) = false := bne_self_eq_false _
    have k6 : (rcB L == rcB L) = true := beq_self_eq_true _
    have k6' : (rcB L != rcB L) = false := bne_self_eq_false _
    have k7 : (cvB L == cvB L) = true := beq_self_eq_true _
    have k7' : (cvB L != cvB L) = false := bne_self_eq_false _
    have k8 : (tlB L == tlB L) = true := beq_self_eq_true _
    have k8' : (tlB L != tlB L) = false := bne_self_eq_false _
    go_upto_region 8 with (first
      | (go_at_call 7; (with_reducible refine (H7.out _ (by repeat (first | (with_reducible first | exact HB.out | apply below_alloc | apply pw_below_drewN | apply below_drew1) | exact HB.out))).mono ?_); rintro e wx ⟨rfl, hb⟩; have n1_ := Aside0.mk (below_step (by repeat (first | (with_reducible first | exact HB.out | apply below_alloc | apply pw_below_drewN | apply below_drew1) | exact HB.out)) hb); clear HB; have HB := n1_; clear n1_ hb)
      | (go_at_call 8; (with_reducible refine (H8.out _ (by repeat (first | (with_reducible first | exact HB.out | apply below_alloc | apply pw_below_drewN | apply below_drew1) | exact HB.out))).mono ?_); rintro e wx ⟨rfl, hb⟩; have n1_ := Aside0.mk (below_step (by repeat (first | (with_reducible first | exact HB.out | apply below_alloc | apply pw_below_drewN | apply below_drew1) | exact HB.out)) hb); clear HB; have HB := n1_; clear n1_ hb)
      | (go_at_call 9; (with_reducible refine (H9.out _ (by repeat (first | (with_reducible first | exact HB.out | apply below_alloc | apply pw_below_drewN | apply below_drew1) | exact HB.out))).mono ?_); rintro e wx ⟨rfl, hb⟩; have n1_ := Aside0.mk (below_step (by repeat (first | (with_reducible first | exact HB.out | apply below_alloc | apply pw_below_drewN | apply below_drew1) | exact HB.out)) hb); clear HB; have HB := n1_; clear n1_ hb)
      | (go_at_call 10; (with_reducible refine (H10.out _ (by repeat (first | (with_reducible first | exact HB.out | apply below_alloc | apply pw_below_drewN | apply below_drew1) | exact HB.out))).mono ?_); rintro e wx ⟨rfl, hb⟩; have n1_ := Aside0.mk (below_step (by repeat (first | (with_reducible first | exact HB.out | apply below_alloc | apply pw_below_drewN | apply below_drew1) | exact HB.out)) hb); clear HB; have HB := n1_; clear n1_ hb))
    go_upto_region 10 with (first
      | (go_at_call 11; (with_reducible refine (H11.out _ (by repeat (first | (with_reducible first | exact HB.out | apply below_alloc | apply pw_below_drewN | apply below_drew1) | exact HB.out))).mono ?_); rintro e wx ⟨rfl, hb⟩; have n1_ := Aside0.mk (below_step (by repeat (first | (with_reducible first | exact HB.out | apply below_alloc | apply pw_below_drewN | apply below_drew1) | exact HB.out)) hb); clear HB; have HB := n1_; clear n1_ hb)
      | (go_at_call 12; (with_reducible refine (H12.out _ (by repeat (first | (with_reducible first | exact HB.out | apply below_alloc | apply pw_below_drewN | apply below_drew1) | exact HB.out))).mono ?_); rintro e wx ⟨rfl, hb⟩; have n1_ := Aside0.mk (below_step (by repeat (first | (with_reducible first | exact HB.out | apply below_alloc | apply pw_below_drewN | apply below_drew1) | exact HB.out)) hb); clear HB; have HB := n1_; clear n1_ hb)
      | (go_at_call 13; (with_reducible refine (H13.out _ (by repeat (first | (with_reducible first | exact HB.out | apply below_alloc | apply pw_below_drewN | apply below_drew1) | exact HB.out))).mono ?_); rintro e wx ⟨rfl, hb⟩; have n1_ := Aside0.mk (below_step (by repeat (first | (with_reducible first | exact HB.out | apply below_alloc | apply pw_below_drewN | apply below_drew1) | exact HB.out)) hb); clear HB; have HB := n1_; clear n1_ hb)
      | (go_at_call 14; (with_reducible refine (H14.out _ (by repeat (first | (with_reducible first | exact HB.out | apply below_alloc | apply pw_below_drewN | apply below_drew1) | exact HB.out))).mono ?_); rintro e wx ⟨rfl, hb⟩; have n1_ := Aside0.mk (below_step (by repeat (first | (with_reducible first | exact HB.out | apply below_alloc | apply pw_below_drewN | apply below_drew1) | exact HB.out)) hb); clear HB; have HB := n1_; clear n1_ hb)
      | (go_at_call 15; (with_reducible refine (H15.out _ (by repeat (first | (with_reducible first | exact HB.out | apply below_alloc | apply pw_below_drewN | apply below_drew1) | exact HB.out))).mono ?_); rintro e wx ⟨rfl, hb⟩; have n1_ := Aside0.mk (below_step (by repeat (first | (with_reducible first | exact HB.out | apply below_alloc | apply pw_below_drewN | apply below_drew1) | exact HB.out)) hb); clear HB; have HB := n1_; clear n1_ hb)
      | (go_at_call 16; (with_reducible refine (H16.out _ (by repeat (first | (with_reducible first | exact HB.out | apply below_alloc | apply pw_below_drewN | apply below_drew1) | exact HB.out))).mono ?_); rintro e wx ⟨rfl, hb⟩; have n1_ := Aside0.mk (below_step (by repeat (first | (with_reducible first | exact HB.out | apply below_alloc | apply pw_below_drewN | apply below_drew1) | exact HB.out)) hb); clear HB; have HB := n1_; clear n1_ hb)
      | (go_at_call 17; (with_reducible refine (H17.out _ (by repeat (first | (with_reducible first | exact HB.out | apply below_alloc | apply pw_below_drewN | apply below_drew1) | exact HB.out))).mono ?_); rintro e wx ⟨rfl, hb⟩; have n1_ := Aside0.mk (below_step (by repeat (first | (with_reducible first | exact HB.out | apply below_alloc | apply pw_below_drewN | apply below_drew1) | exact HB.out)) hb); clear HB; have HB := n1_; clear n1_ hb)
      | (go_at_call 18; (with_reducible refine (H18.out _ (by repeat (first | (with_reducible first | exact HB.out | apply below_alloc | apply pw_below_drewN | apply below_drew1) | exact HB.out))).mono ?_); rintro e wx ⟨rfl, hb⟩; have n1_ := Aside0.mk (below_step (by repeat (first | (with_reducible first | exact HB.out | apply below_alloc | apply pw_below_drewN | apply below_drew1) | exact HB.out)) hb); clear HB; have HB := n1_; clear n1_ hb)
      | (go_at_call 19; (with_reducible refine (H19.out _ (by repeat (first | (with_reducible first | exact HB.out | apply below_alloc | apply pw_below_drewN | apply below_drew1) | exact HB.out))).mono ?_); rintro e wx ⟨rfl, hb⟩; have n1_ := Aside0.mk (below_step (by repeat (first | (with_reducible first | exact HB.out | apply below_alloc | apply pw_below_drewN | apply below_drew1) | exact HB.out)) hb); clear HB; have HB := n1_; clear n1_ hb)
      | (go_at_call 20; (with_reducible refine (H20.out _ (by repeat (first | (with_reducible first | exact HB.out | apply below_alloc | apply pw_below_drewN | apply below_drew1) | exact HB.out))).mono ?_); rintro e wx ⟨rfl, hb⟩; have n1_ := Aside0.mk (below_step (by repeat (first | (with_reducible first | exact HB.out | apply below_alloc | apply pw_below_drewN | apply below_drew1) | exact HB.out)) hb); clear HB; have HB := n1_; clear n1_ hb)
      | (go_at_call 21; (with_reducible refine (H21.out _ (by repeat (first | (with_reducible first | exact HB.out | apply below_alloc | apply pw_below_drewN | apply below_drew1) | exact HB.out))).mono ?_); rintro e wx ⟨rfl, hb⟩; have n1_ := Aside0.mk (below_step (by repeat (first | (with_reducible first | exact HB.out | apply below_alloc | apply pw_below_drewN | apply below_drew1) | exact HB.out)) hb); clear HB; have HB := n1_; clear n1_ hb)
      | (go_at_call 22; (with_reducible refine (H22.out _ (by repeat (first | (with_reducible first | exact HB.out | apply below_alloc | apply pw_below_drewN | apply below_drew1) | exact HB.out))).mono ?_); rintro e wx ⟨rfl, hb⟩; have n1_ := Aside0.mk (below_step (by repeat (first | (with_reducible first | exact HB.out | apply below_alloc | apply pw_below_drewN | apply below_drew1) | exact HB.out)) hb); clear HB; have HB := n1_; clear n1_ hb))
    obtain ⟨sw, ok, hok, h24⟩ := sBound A c L w6 HC.out HL.out
    have H24 := Aside0.mk h24
    have HOK := Aside0.mk hok
    clear hok h24
    clear k1 k1' k2 k2' k3 k3' k4 k4' k5 k5' k6 k6' k7 k7' k8 k8'
    rcases hs : isShapeB L with _ | _
    · have hc : cnB L = false := cnB_no hs
      have ht : tlB L = false := by unfold tlB; rw [hc]; rfl
      have hv : cvB L = false := by unfold cvB; rw [hc]; rfl
      rw [hs] at H23
      rw [ht] at H21
      rw [hv] at H19
      clear hs hc ht hv
      rcases ok with _ | _
      · go_wp2_with (first
        | (go_at_call 23; (with_reducible refine (H23.out _ (by repeat (first | (with_reducible first | exact HB.out | apply below_alloc | apply pw_below_drewN | apply below_drew1) | exact HB.out))).mono ?_); rintro e wx ⟨rfl, hb⟩; have n1_ := Aside0.mk (below_step (by repeat (first | (with_reducible first | exact HB.out | apply below_alloc | apply pw_below_drewN | apply below_drew1) | exact HB.out)) hb); clear HB; have HB := n1_; clear n1_ hb)
        | (go_at_call 21; (with_reducible refine (H21.out _ (by repeat (first | (with_reducible first | exact HB.out | apply below_alloc | apply pw_below_drewN | apply below_drew1) | exact HB.out))).mono ?_); rintro e wx ⟨rfl, hb⟩; have n1_ := Aside0.mk (below_step (by repeat (first | (with_reducible first | exact HB.out | apply below_alloc | apply pw_below_drewN | apply below_drew1) | exact HB.out)) hb); clear HB; have HB := n1_; clear n1_ hb)
        | (go_at_call 19; (with_reducible refine (H19.out _ (by repeat (first | (with_reducible first | exact HB.out | apply below_alloc | apply pw_below_drewN | apply below_drew1) | exact HB.out))).mono ?_); rintro e wx ⟨rfl, hb⟩; have n1_ := Aside0.mk (below_step (by repeat (first | (with_reducible first | exact HB.out | apply below_alloc | apply pw_below_drewN | apply below_drew1) | exact HB.out)) hb); clear HB; have HB := n1_; clear n1_ hb)
        | (go_at_call 24; (with_reducible refine (H24.out _ (by repeat (first | (with_reducible first | exact HB.out | apply below_alloc | apply pw_below_drewN | apply below_drew1) | exact HB.out))).mono ?_); rintro e wx ⟨rfl, hb⟩; have n1_ := Aside0.mk (below_step (by repeat (first | (with_reducible first | exact HB.out | apply below_alloc | apply pw_below_drewN | apply below_drew1) | exact HB.out)) hb); clear HB; have HB := n1_; clear n1_ hb))
        go_ret
        exact ⟨rfl, below_step HB6.out HB.out⟩
      · have hp := HOK.out rfl
        have k9 : ((sw.size : Int) == perB L) = true := by rw [hp]; exact beq_self_eq_true _
        clear hp
        go_wp2_with (first
        | (go_at_call 23; (with_reducible refine (H23.out _ (by repeat (first | (with_reducible first | exact HB.out | apply below_alloc | apply pw_below_drewN | apply below_drew1) | exact HB.out))).mono ?_); rintro e wx ⟨rfl, hb⟩; have n1_ := Aside0.mk (below_step (by repeat (first | (with_reducible first | exact HB.out | apply below_alloc | apply pw_below_drewN | apply below_drew1) | exact HB.out)) hb); clear HB; have HB := n1_; clear n1_ hb)
        | (go_at_call 21; (with_reducible refine (H21.out _ (by repeat (first | (with_reducible first | exact HB.out | apply below_alloc | apply pw_below_drewN | apply below_drew1) | exact HB.out))).mono ?_); rintro e wx ⟨rfl, hb⟩; have n1_ := Aside0.mk (below_step (by repeat (first | (with_reducible first | exact HB.out | apply below_alloc | apply pw_below_drewN | apply below_drew1) | exact HB.out)) hb); clear HB; have HB := n1_; clear n1_ hb)
        | (go_at_call 19; (with_reducible refine (H19.out _ (by repeat (first | (with_reducible first | exact HB.out | apply below_alloc | apply pw_below_drewN | apply below_drew1) | exact HB.out))).mono ?_); rintro e wx ⟨rfl, hb⟩; have n1_ := Aside0.mk (below_step (by repeat (first | (with_reducible first | exact HB.out | apply below_alloc | apply pw_below_drewN | apply below_drew1) | exact HB.out)) hb); clear HB; have HB := n1_; clear n1_ hb)
        | (go_at_call 24; (with_reducible refine (H24.out _ (by repeat (first | (with_reducible first | exact HB.out | apply below_alloc | apply pw_below_drewN | apply below_drew1) | exact HB.out))).mono ?_); rintro e wx ⟨rfl, hb⟩; have n1_ := Aside0.mk (below_step (by repeat (first | (with_reducible first | exact HB.out | apply below_alloc | apply pw_below_drewN | apply below_drew1) | exact HB.out)) hb); clear HB; have HB := n1_; clear n1_ hb))
        go_ret
        exact ⟨rfl, below_step HB6.out HB.out⟩
    · have hl8 := shape_len hs
      have hi8 := innB_le hs
      have hpw : perB L = wrap64 (wrap64 (4 * (L.length : Int)) - wrap64 (2 * innB L)) := by
        rw [perB_shape hs, w64 (x := 4 * (L.length : Int)) (by omega) (by omega), w64 (x := 2 * innB L) (by omega) (by omega), w64 (by omega) (by omega)]
      have k10 : (perB L == wrap64 (wrap64 (4 * (L.length : Int)) - wrap64 (2 * innB L))) = true := by rw [← hpw]; exact beq_self_eq_true _
      have k11 : (perB L != wrap64 (wrap64 (4 * (L.length : Int)) - wrap64 (2 * innB L))) = false := by rw [← hpw]; exact bne_self_eq_false _
      clear hpw hl8 hi8
      rw [hs] at H23
      clear hs
      have HTS := Aside0.mk (tree_sq (l := L))
      have HVH := Aside0.mk (convex_holes (l := L))
      generalize ht : tlB L = tv at H21 HTS
      generalize hv : cvB L = vv at H19 HVH
      clear ht hv
      rcases tv with _ | _
      · rcases vv with _ | _
        · rcases ok with _ | _
          · go_wp2_with (first
              | (go_at_call 23; (with_reducible refine (H23.out _ (by repeat (first | (with_reducible first | exact HB.out | apply below_alloc | apply pw_below_drewN | apply below_drew1) | exact HB.out))).mono ?_); rintro e wx ⟨rfl, hb⟩; have n1_ := Aside0.mk (below_step (by repeat (first | (with_reducible first | exact HB.out | apply below_alloc | apply pw_below_drewN | apply below_drew1) | exact HB.out)) hb); clear HB; have HB := n1_; clear n1_ hb)
              | (go_at_call 21; (with_reducible refine (H21.out _ (by repeat (first | (with_reducible first | exact HB.out | apply below_alloc | apply pw_below_drewN | apply below_drew1) | exact HB.out))).mono ?_); rintro e wx ⟨rfl, hb⟩; have n1_ := Aside0.mk (below_step (by repeat (first | (with_reducible first | exact HB.out | apply below_alloc | apply pw_below_drewN | apply below_drew1) | exact HB.out)) hb); clear HB; have HB := n1_; clear n1_ hb)
              | (go_at_call 19; (with_reducible refine (H19.out _ (by repeat (first | (with_reducible first | exact HB.out | apply below_alloc | apply pw_below_drewN | apply below_drew1) | exact HB.out))).mono ?_); rintro e wx ⟨rfl, hb⟩; have n1_ := Aside0.mk (below_step (by repeat (first | (with_reducible first | exact HB.out | apply below_alloc | apply pw_below_drewN | apply below_drew1) | exact HB.out)) hb); clear HB; have HB := n1_; clear n1_ hb)
              | (go_at_call 24; (with_reducible refine (H24.out _ (by repeat (first | (with_reducible first | exact HB.out | apply below_alloc | apply pw_below_drewN | apply below_drew1) | exact HB.out))).mono ?_); rintro e wx ⟨rfl, hb⟩; have n1_ := Aside0.mk (below_step (by repeat (first | (with_reducible first | exact HB.out | apply below_alloc | apply pw_below_drewN | apply below_drew1) | exact HB.out)) hb); clear HB; have HB := n1_; clear n1_ hb))
            go_ret
            exact ⟨rfl, below_step HB6.out HB.out⟩
          · have hp := HOK.out rfl
            have k9 : ((sw.size : Int) == perB L) = true := by rw [hp]; exact beq_self_eq_true _
            clear hp
            go_wp2_with (first
              | (go_at_call 23; (with_reducible refine (H23.out _ (by repeat (first | (with_reducible first | exact HB.out | apply below_alloc | apply pw_below_drewN | apply below_drew1) | exact HB.out))).mono ?_); rintro e wx ⟨rfl, hb⟩; have n1_ := Aside0.mk (below_step (by repeat (first | (with_reducible first | exact HB.out | apply below_alloc | apply pw_below_drewN | apply below_drew1) | exact HB.out)) hb); clear HB; have HB := n1_; clear n1_ hb)
              | (go_at_call 21; (with_reducible refine (H21.out _ (by repeat (first | (with_reducible first | exact HB.out | apply below_alloc | apply pw_below_drewN | apply below_drew1) | exact HB.out))).mono ?_); rintro e wx ⟨rfl, hb⟩; have n1_ := Aside0.mk (below_step (by repeat (first | (with_reducible first | exact HB.out | apply below_alloc | apply pw_below_drewN | apply below_drew1) | exact HB.out)) hb); clear HB; have HB := n1_; clear n1_ hb)
              | (go_at_call 19; (with_reducible refine (H19.out _ (by repeat (first | (with_reducible first | exact HB.out | apply below_alloc | apply pw_below_drewN | apply below_drew1) | exact HB.out))).mono ?_); rintro e wx ⟨rfl, hb⟩; have n1_ := Aside0.mk (below_step (by repeat (first | (with_reducible first | exact HB.out | apply below_alloc | apply pw_below_drewN | apply below_drew1) | exact HB.out)) hb); clear HB; have HB := n1_; clear n1_ hb)
              | (go_at_call 24; (with_reducible refine (H24.out _ (by repeat (first | (with_reducible first | exact HB.out | apply below_alloc | apply pw_below_drewN | apply below_drew1) | exact HB.out))).mono ?_); rintro e wx ⟨rfl, hb⟩; have n1_ := Aside0.mk (below_step (by repeat (first | (with_reducible first | exact HB.out | apply below_alloc | apply pw_below_drewN | apply below_drew1) | exact HB.out)) hb); clear HB; have HB := n1_; clear n1_ hb))
            go_ret
            exact ⟨rfl, below_step HB6.out HB.out⟩
        · have h0 := HVH.out rfl
          have k12 : ¬ (holB L > 0) := by omega
          clear h0
          rcases ok with _ | _
          · go_wp2_with (first
              | (go_at_call 23; (with_reducible refine (H23.out _ (by repeat (first | (with_reducible first | exact HB.out | apply below_alloc | apply pw_below_drewN | apply below_drew1) | exact HB.out))).mono ?_); rintro e wx ⟨rfl, hb⟩; have n1_ := Aside0.mk (below_step (by repeat (first | (with_reducible first | exact HB.out | apply below_alloc | apply pw_below_drewN | apply below_drew1) | exact HB.out)) hb); clear HB; have HB := n1_; clear n1_ hb)
              | (go_at_call 21; (with_reducible refine (H21.out _ (by repeat (first | (with_reducible first | exact HB.out | apply below_alloc | apply pw_below_drewN | apply below_drew1) | exact HB.out))).mono ?_); rintro e wx ⟨rfl, hb⟩; have n1_ := Aside0.mk (below_step (by repeat (first | (with_reducible first | exact HB.out | apply below_alloc | apply pw_below_drewN | apply below_drew1) | exact HB.out)) hb); clear HB; have HB := n1_; clear n1_ hb)
              | (go_at_call 19; (with_reducible refine (H19.out _ (by repeat (first | (with_reducible first | exact HB.out | apply below_alloc | apply pw_below_drewN | apply below_drew1) | exact HB.out))).mono ?_); rintro e wx ⟨rfl, hb⟩; have n1_ := Aside0.mk (below_step (by repeat (first | (with_reducible first | exact HB.out | apply below_alloc | apply pw_below_drewN | apply below_drew1) | exact HB.out)) hb); clear HB; have HB := n1_; clear n1_ hb)
              | (go_at_call 24; (with_reducible refine (H24.out _ (by repeat (first | (with_reducible first | exact HB.out | apply below_alloc | apply pw_below_drewN | apply below_drew1) | exact HB.out))).mono ?_); rintro e wx ⟨rfl, hb⟩; have n1_ := Aside0.mk (below_step (by repeat (first | (with_reducible first | exact HB.out | apply below_alloc | apply pw_below_drewN | apply below_drew1) | exact HB.out)) hb); clear HB; have HB := n1_; clear n1_ hb))
            go_ret
            exact ⟨rfl, below_step HB6.out HB.out⟩
          · have hp := HOK.out rfl
            have k9 : ((sw.size : Int) == perB L) = true := by rw [hp]; exact beq_self_eq_true _
            clear hp
            go_wp2_with (first
              | (go_at_call 23; (with_reducible refine (H23.out _ (by repeat (first | (with_reducible first | exact HB.out | apply below_alloc | apply pw_below_drewN | apply below_drew1) | exact HB.out))).mono ?_); rintro e wx ⟨rfl, hb⟩; have n1_ := Aside0.mk (below_step (by repeat (first | (with_reducible first | exact HB.out | apply below_alloc | apply pw_below_drewN | apply below_drew1) | exact HB.out)) hb); clear HB; have HB := n1_; clear n1_ hb)
              | (go_at_call 21; (with_reducible refine (H21.out _ (by repeat (first | (with_reducible first | exact HB.out | apply below_alloc | apply pw_below_drewN | apply below_drew1) | exact HB.out))).mono ?_); rintro e wx ⟨rfl, hb⟩; have n1_ := Aside0.mk (below_step (by repeat (first | (with_reducible first | exact HB.out | apply below_alloc | apply pw_below_drewN | apply below_drew1) | exact HB.out)) hb); clear HB; have HB := n1_; clear n1_ hb)
              | (go_at_call 19; (with_reducible refine (H19.out _ (by repeat (first | (with_reducible first | exact HB.out | apply below_alloc | apply pw_below_drewN | apply below_drew1) | exact HB.out))).mono ?_); rintro e wx ⟨rfl, hb⟩; have n1_ := Aside0.mk (below_step (by repeat (first | (with_reducible first | exact HB.out | apply below_alloc | apply pw_below_drewN | apply below_drew1) | exact HB.out)) hb); clear HB; have HB := n1_; clear n1_ hb)
              | (go_at_call 24; (with_reducible refine (H24.out _ (by repeat (first | (with_reducible first | exact HB.out | apply below_alloc | apply pw_below_drewN | apply below_drew1) | exact HB.out))).mono ?_); rintro e wx ⟨rfl, hb⟩; have n1_ := Aside0.mk (below_step (by repeat (first | (with_reducible first | exact HB.out | apply below_alloc | apply pw_below_drewN | apply below_drew1) | exact HB.out)) hb); clear HB; have HB := n1_; clear n1_ hb))
            go_ret
            exact ⟨rfl, below_step HB6.out HB.out⟩
      · have h0 := HTS.out rfl
        have k13 : ¬ (sqB L > 0) := by omega
        clear h0
        rcases vv with _ | _
        · rcases ok with _ | _
          · go_wp2_with (first
              | (go_at_call 23; (with_reducible refine (H23.out _ (by repeat (first | (with_reducible first | exact HB.out | apply below_alloc | apply pw_below_drewN | apply below_drew1) | exact HB.out))).mono ?_); rintro e wx ⟨rfl, hb⟩; have n1_ := Aside0.mk (below_step (by repeat (first | (with_reducible first | exact HB.out | apply below_alloc | apply pw_below_drewN | apply below_drew1) | exact HB.out)) hb); clear HB; have HB := n1_; clear n1_ hb)
              | (go_at_call 21; (with_reducible refine (H21.out _ (by repeat (first | (with_reducible first | exact HB.out | apply below_alloc | apply pw_below_drewN | apply below_drew1) | exact HB.out))).mono ?_); rintro e wx ⟨rfl, hb⟩; have n1_ := Aside0.mk (below_step (by repeat (first | (with_reducible first | exact HB.out | apply below_alloc | apply pw_below_drewN | apply below_drew1) | exact HB.out)) hb); clear HB; have HB := n1_; clear n1_ hb)
              | (go_at_call 19; (with_reducible refine (H19.out _ (by repeat (first | (with_reducible first | exact HB.out | apply below_alloc | apply pw_below_drewN | apply below_drew1) | exact HB.out))).mono ?_); rintro e wx ⟨rfl, hb⟩; have n1_ := Aside0.mk (below_step (by repeat (first | (with_reducible first | exact HB.out | apply below_alloc | apply pw_below_drewN | apply below_drew1) | exact HB.out)) hb); clear HB; have HB := n1_; clear n1_ hb)
              | (go_at_call 24; (with_reducible refine (H24.out _ (by repeat (first | (with_reducible first | exact HB.out | apply below_alloc | apply pw_below_drewN | apply below_drew1) | exact HB.out))).mono ?_); rintro e wx ⟨rfl, hb⟩; have n1_ := Aside0.mk (below_step (by repeat (first | (with_reducible first | exact HB.out | apply below_alloc | apply pw_below_drewN | apply below_drew1) | exact HB.out)) hb); clear HB; have HB := n1_; clear n1_ hb))
            go_ret
            exact ⟨rfl, below_step HB6.out HB.out⟩
          · have hp := HOK.out rfl
            have k9 : ((sw.size : Int) == perB L) = true := by rw [hp]; exact beq_self_eq_true _
            clear hp
            go_wp2_with (first
              | (go_at_call 23; (with_reducible refine (H23.out _ (by repeat (first | (with_reducible first | exact HB.out | apply below_alloc | apply pw_below_drewN | apply below_drew1) | exact HB.out))).mono ?_); rintro e wx ⟨rfl, hb⟩; have n1_ := Aside0.mk (below_step (by repeat (first | (with_reducible first | exact HB.out | apply below_alloc | apply pw_below_drewN | apply below_drew1) | exact HB.out)) hb); clear HB; have HB := n1_; clear n1_ hb)
              | (go_at_call 21; (with_reducible refine (H21.out _ (by repeat (first | (with_reducible first | exact HB.out | apply below_alloc | apply pw_below_drewN | apply below_drew1) | exact HB.out))).mono ?_); rintro e wx ⟨rfl, hb⟩; have n1_ := Aside0.mk (below_step (by repeat (first | (with_reducible first | exact HB.out | apply below_alloc | apply pw_below_drewN | apply below_drew1) | exact HB.out)) hb); clear HB; have HB := n1_; clear n1_ hb)
              | (go_at_call 19; (with_reducible refine (H19.out _ (by repeat (first | (with_reducible first | exact HB.out | apply below_alloc | apply pw_below_drewN | apply below_drew1) | exact HB.out))).mono ?_); rintro e wx ⟨rfl, hb⟩; have n1_ := Aside0.mk (below_step (by repeat (first | (with_reducible first | exact HB.out | apply below_alloc | apply pw_below_drewN | apply below_drew1) | exact HB.out)) hb); clear HB; have HB := n1_; clear n1_ hb)
              | (go_at_call 24; (with_reducible refine (H24.out _ (by repeat (first | (with_reducible first | exact HB.out | apply below_alloc | apply pw_below_drewN | apply below_drew1) | exact HB.out))).mono ?_); rintro e wx ⟨rfl, hb⟩; have n1_ := Aside0.mk (below_step (by repeat (first | (with_reducible first | exact HB.out | apply below_alloc | apply pw_below_drewN | apply below_drew1) | exact HB.out)) hb); clear HB; have HB := n1_; clear n1_ hb))
            go_ret
            exact ⟨rfl, below_step HB6.out HB.out⟩
        · have h0 := HVH.out rfl
          have k12 : ¬ (holB L > 0) := by omega
          clear h0
          rcases ok with _ | _
          · go_wp2_with (first
              | (go_at_call 23; (with_reducible refine (H23.out _ (by repeat (first | (with_reducible first | exact HB.out | apply below_alloc | apply pw_below_drewN | apply below_drew1) | exact HB.out))).mono ?_); rintro e wx ⟨rfl, hb⟩; have n1_ := Aside0.mk (below_step (by repeat (first | (with_reducible first | exact HB.out | apply below_alloc | apply pw_below_drewN | apply below_drew1) | exact HB.out)) hb); clear HB; have HB := n1_; clear n1_ hb)
              | (go_at_call 21; (with_reducible refine (H21.out _ (by repeat (first | (with_reducible first | exact HB.out | apply below_alloc | apply pw_below_drewN | apply below_drew1) | exact HB.out))).mono ?_); rintro e wx ⟨rfl, hb⟩; have n1_ := Aside0.mk (below_step (by repeat (first | (with_reducible first | exact HB.out | apply below_alloc | apply pw_below_drewN | apply below_drew1) | exact HB.out)) hb); clear HB; have HB := n1_; clear n1_ hb)
              | (go_at_call 19; (with_reducible refine (H19.out _ (by repeat (first | (with_reducible first | exact HB.out | apply below_alloc | apply pw_below_drewN | apply below_drew1) | exact HB.out))).mono ?_); rintro e wx ⟨rfl, hb⟩; have n1_ := Aside0.mk (below_step (by repeat (first | (with_reducible first | exact HB.out | apply below_alloc | apply pw_below_drewN | apply below_drew1) | exact HB.out)) hb); clear HB; have HB := n1_; clear n1_ hb)
              | (go_at_call 24; (with_reducible refine (H24.out _ (by repeat (first | (with_reducible first | exact HB.out | apply below_alloc | apply pw_below_drewN | apply below_drew1) | exact HB.out))).mono ?_); rintro e wx ⟨rfl, hb⟩; have n1_ := Aside0.mk (below_step (by repeat (first | (with_reducible first | exact HB.out | apply below_alloc | apply pw_below_drewN | apply below_drew1) | exact HB.out)) hb); clear HB; have HB := n1_; clear n1_ hb))
            go_ret
            exact ⟨rfl, below_step HB6.out HB.out⟩
          · have hp := HOK.out rfl
            have k9 : ((sw.size : Int) == perB L) = true := by rw [hp]; exact beq_self_eq_true _
            clear hp
            go_wp2_with (first
              | (go_at_call 23; (with_reducible refine (H23.out _ (by repeat (first | (with_reducible first | exact HB.out | apply below_alloc | apply pw_below_drewN | apply below_drew1) | exact HB.out))).mono ?_); rintro e wx ⟨rfl, hb⟩; have n1_ := Aside0.mk (below_step (by repeat (first | (with_reducible first | exact HB.out | apply below_alloc | apply pw_below_drewN | apply below_drew1) | exact HB.out)) hb); clear HB; have HB := n1_; clear n1_ hb)
              | (go_at_call 21; (with_reducible refine (H21.out _ (by repeat (first | (with_reducible first | exact HB.out | apply below_alloc | apply pw_below_drewN | apply below_drew1) | exact HB.out))).mono ?_); rintro e wx ⟨rfl, hb⟩; have n1_ := Aside0.mk (below_step (by repeat (first | (with_reducible first | exact HB.out | apply below_alloc | apply pw_below_drewN | apply below_drew1) | exact HB.out)) hb); clear HB; have HB := n1_; clear n1_ hb)
              | (go_at_call 19; (with_reducible refine (H19.out _ (by repeat (first | (with_reducible first | exact HB.out | apply below_alloc | apply pw_below_drewN | apply below_drew1) | exact HB.out))).mono ?_); rintro e wx ⟨rfl, hb⟩; have n1_ := Aside0.mk (below_step (by repeat (first | (with_reducible first | exact HB.out | apply below_alloc | apply pw_below_drewN | apply below_drew1) | exact HB.out)) hb); clear HB; have HB := n1_; clear n1_ hb)
              | (go_at_call 24; (with_reducible refine (H24.out _ (by repeat (first | (with_reducible first | exact HB.out | apply below_alloc | apply pw_below_drewN | apply below_drew1) | exact HB.out))).mono ?_); rintro e wx ⟨rfl, hb⟩; have n1_ := Aside0.mk (below_step (by repeat (first | (with_reducible first | exact HB.out | apply below_alloc | apply pw_below_drewN | apply below_drew1) | exact HB.out)) hb); clear HB; have HB := n1_; clear n1_ hb))
            go_ret
            exact ⟨rfl, below_step HB6.out HB.out⟩
  · go_enter Try.func3, Try.ntmps3
    go_wp2_with (first
      | (go_at_call 5; (with_reducible refine HBIG.out.mono ?_); rintro e w5 ⟨rfl, hd⟩; have hb : Below w.heap.size w w5 := (by obtain ⟨m, rfl⟩ := hd.out; exact pw_below_drewN (Below.refl _ _) m); have HB5 := Aside0.mk hb; clear hd hb))
    go_ret
    exact ⟨rfl, HB5.out⟩
end Go.Proofs.Ytlohfeicfhmlmaa.PFnOutlines

namespace Go.Proofs.YtlohfeicfhmlmaaW.PrintWords
open Go.ChangeShapes Go.WideShapes
end Go.Proofs.YtlohfeicfhmlmaaW.PrintWords
