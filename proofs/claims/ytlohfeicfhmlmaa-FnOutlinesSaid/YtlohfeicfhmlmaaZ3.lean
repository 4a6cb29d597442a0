/- A part of the proof that the law answers true for every input; this part bears lemmas that hold with no condition beyond those that each of them names. -/
import Derived.Test.YtlohfeicfhmlmaaZ2
set_option linter.unusedVariables false
set_option linter.unusedSimpArgs false
namespace Go.Proofs.Ytlohfeicfhmlmaa.PFnOutlines
open Go.RowKit Go.Proofs.YtlohfeicfhmlmaaW.PrintWords Go.Proofs.YtlohfeicfhmlmaaW.PrintLast Go.Proofs.YtlohfeicfhmlmaaW.PrintMore ETool
/-- Between two cells of a row there are cells. -/
def Row2 (l : List S41) (a b : S41) : Prop := a.f1 = b.f1 → ∀ x, a.f0 < x → x < b.f0 → hasB l x a.f1 = true
def RF (l : List S41) : Prop := ∀ i j : Int, 0 ≤ i → i < l.length → 0 ≤ j → j < l.length → Row2 l (rd_T41 l i) (rd_T41 l j)
open Classical in
noncomputable def rfB (l : List S41) : Bool := decide (RF l)
open Classical in
theorem rfB_yes {l : List S41} (h : RF l) : rfB l = true := by unfold rfB; exact decide_eq_true h
open Classical in
theorem rfB_no {l : List S41} (h : ¬RF l) : rfB l = false := by unfold rfB; exact decide_eq_false h
theorem bq {w : World} {a : Addr} {v : Value} (h : w.cell? a = some v) {W : World} (hb : Below w.heap.size w W) : W.cell? a = some v := BW.cell h ⟨W, hb⟩
set_option maxHeartbeats 4000000 in
set_option maxRecDepth 100000 in
theorem iRows (A0 : Option Addr) (c0 : Nat) (l0 : List S41) (w : World) (hr0 : Kd.C k41 w A0 l0.length l0) (hc0 : l0.length ≤ c0) (hsm : ∀ i : Int, 0 ≤ i → i < l0.length → smallC (rd_T41 l0 i)) :
    Calls Try.prog 42 #[.slice A0 l0.length c0] w fun e w' => e = .returned (.bool (rfB l0)) ∧ Below w.heap.size w w' := by
  have hu41 := Try.underlying41
  have hlen := C_len hr0
  have HR0 := Aside0.mk hr0
  have HSM := Aside0.mk hsm
  clear hr0 hsm
  go_enter Try.func42, Try.ntmps42
  go_wp2
  go_loopw [10] (fun v10 w' => ∃ i : Int, v10 = .int .i64 i ∧ 0 ≤ i ∧ i ≤ l0.length ∧ Aside0 (∀ p q : Int, 0 ≤ p → p < i → 0 ≤ q → q < l0.length → Row2 l0 (rd_T41 l0 p) (rd_T41 l0 q)) ∧ Aside0 (Below w.heap.size w w')) (fun v10 _ => l0.length - (intOf v10).toNat)
  case atStart => exact ⟨0, rfl, by omega, by omega, ⟨fun p q h0 h1 => absurd h1 (by omega)⟩, ⟨Below.refl _ _⟩⟩
  case round =>
    obtain ⟨i, rfl, hi0, hin, HN, HB⟩ := hrel
    by_cases hlt : i < (l0.length : Int)
    · obtain ⟨ad, e, hx0, hx1⟩ := at_T41 (Kd.C_below HR0.out HB.out) i hi0 hlt
      cases e
      go_upto_region 4 with (((with_reducible refine gate_dst (N := 4) rfl ?_); refine box_c ?hg (N := 4) (t := 41) ?hd ?hr ?_; (case hd => rfl); (case hg => rfl); (case hr => first | (go_simp; done) | (go_simp; rfl)); intro gb w3 BX hz0 hz1 hf0 hf1))
      obtain ⟨W4, hW, HW, ha0, ha1, BC⟩ := BX.put (rd_T41 l0 i).f0 (rd_T41 l0 i).f1
      rw [hW]
      have HB4 := Aside0.mk (below_step HB.out HW)
      have HA0 := Aside0.mk ha0
      have HA1 := Aside0.mk ha1
      clear hW HW hz0 hz1 hf0 hf1 BX BC hx0 hx1 HB ha0 ha1
      go_upto_region 5 with (fail)
      go_loopg [16] l0.length (fun k v16 w' => ∃ j : Int, v16 = .int .i64 j ∧ 0 ≤ j ∧ j ≤ l0.length ∧ Aside0 ((l0.length : Int) - j ≤ k) ∧ Aside0 (∀ q : Int, 0 ≤ q → q < j → Row2 l0 (rd_T41 l0 i) (rd_T41 l0 q)) ∧ Aside0 (Below W4.heap.size W4 w'))
      case atStart => exact ⟨0, rfl, by omega, by omega, ⟨by omega⟩, ⟨fun q h0 h1 => absurd h1 (by omega)⟩, ⟨Below.refl _ _⟩⟩
      case round =>
        obtain ⟨j, rfl, hj0, hjn, HG, HM, HX⟩ := hrel
        by_cases hjl : j < (l0.length : Int)
        · obtain ⟨ad', e', hy0, hy1⟩ := at_T41 (Kd.C_below HR0.out (below_step HB4.out HX.out)) j hj0 hjl
          obtain rfl : ad = ad' := by injection e'
          go_upto_region 7 with (((with_reducible refine gate_dst (N := 6) rfl ?_); refine box_c ?hg (N := 6) (t := 41) ?hd ?hr ?_; (case hd => rfl); (case hg => rfl); (case hr => first | (go_simp; done) | (go_simp; rfl)); intro gb w3 BX hz0 hz1 hf0 hf1))
          obtain ⟨W6, hW, HW, hb0, hb1, BC⟩ := BX.put (rd_T41 l0 j).f0 (rd_T41 l0 j).f1
          rw [hW]
          have HX6 := Aside0.mk (below_step HX.out HW)
          have HB6 := Aside0.mk (below_step HB4.out HX6.out)
          have hc0' := bq HA0.out HX6.out
          have hc1' := bq HA1.out HX6.out
          clear hW HW hz0 hz1 hf0 hf1 BX BC hy0 hy1 HX
          obtain ⟨sa0, sa1, sa2, sa3⟩ := HSM.out i hi0 hlt
          obtain ⟨sb0, sb1, sb2, sb3⟩ := HSM.out j hj0 hjl
          have HD := Aside0.mk (show (Row2 l0 (rd_T41 l0 i) (rd_T41 l0 j) → ∀ q : Int, 0 ≤ q → q < j + 1 → Row2 l0 (rd_T41 l0 i) (rd_T41 l0 q)) from fun h q h0 h1 => by
            by_cases hq : q = j
            · exact hq ▸ h
            · exact HM.out q h0 (by omega))
          have HE := Aside0.mk (show ¬ Row2 l0 (rd_T41 l0 i) (rd_T41 l0 j) → rfB l0 = false from fun h => rfB_no fun hh => h (hh i j hi0 hlt hj0 hjl))
          rw [show Row2 l0 (rd_T41 l0 i) (rd_T41 l0 j) = ((rd_T41 l0 i).f1 = (rd_T41 l0 j).f1 → ∀ x, (rd_T41 l0 i).f0 < x → x < (rd_T41 l0 j).f0 → hasB l0 x (rd_T41 l0 i).f1 = true) from rfl] at HD HE
          generalize hax : (rd_T41 l0 i).f0 = ax at *
          generalize hay : (rd_T41 l0 i).f1 = ay at *
          generalize hbx : (rd_T41 l0 j).f0 = bx at *
          generalize hby : (rd_T41 l0 j).f1 = yb at *
          clear hax hay hbx hby
          go_upto_region 8 with (fail)
          have HC0 := Aside0.mk hc0'
          have HC1 := Aside0.mk hc1'
          have HD0 := Aside0.mk hb0
          have HD1 := Aside0.mk hb1
          clear hc0' hc1' hb0 hb1
          go_loopw [7] (fun v7 w' => ∃ x : Int, v7 = .int .i64 x ∧ ax < x ∧ Aside0 (∀ z, ax < z → z < x → ay = yb → hasB l0 z ay = true) ∧ Aside0 (Below W6.heap.size W6 w')) (fun v7 _ => (bx - intOf v7).toNat)
          case atStart => exact ⟨ax + 1, rfl, by omega, ⟨fun z h0 h1 => absurd h1 (by omega)⟩, ⟨Below.refl _ _⟩⟩
          case round =>
            obtain ⟨x, rfl, hax, HZ, HY⟩ := hrel
            have ha0 := bq HC0.out HY.out
            have ha1 := bq HC1.out HY.out
            have hb0 := bq HD0.out HY.out
            have hb1 := bq HD1.out HY.out
            rcases hey : ay == yb with _ | _
            · have HF := Aside0.mk (HD.out fun h => absurd h (by simpa using hey))
              go_wp2
              go_roundg (gk - 1)
              case rel => exact ⟨j + 1, rfl, by omega, by omega, ⟨by have := HG.out; omega⟩, HF, ⟨below_step HX6.out HY.out⟩⟩
              case measure => have := HG.out; omega
            · have hEY := Aside0.mk (show ay = yb by simpa using hey)
              by_cases hxb : x < bx
              · have hr5 := Kd.C_below HR0.out (below_step HB6.out HY.out)
                rcases hh : hasB l0 x ay with _ | _
                · have HF := Aside0.mk (HE.out fun h => by rw [h hEY.out x hax hxb] at hh; cases hh)
                  go_wp2_with (first | (go_at_call 36; (with_reducible refine (ihas_w hr5 (Below.refl _ _) hc0 hh).mono ?_); rintro e w6 ⟨rfl, hb⟩; have HX := Aside0.mk (below_step HB6.out (below_step HY.out hb)); clear hb))
                  go_ret
                  exact ⟨by rw [HF.out]; rfl, HX.out⟩
                · have HF := Aside0.mk (show ∀ z, ax < z → z < x + 1 → ay = yb → hasB l0 z ay = true from fun z h0 h1 h2 => by
                    by_cases hz : z = x
                    · exact hz ▸ hh
                    · exact HZ.out z h0 (by omega) h2)
                  go_wp2_with (first | (go_at_call 36; (with_reducible refine (ihas_w hr5 (Below.refl _ _) hc0 hh).mono ?_); rintro e w6 ⟨rfl, hb⟩; have HX := Aside0.mk (below_step HY.out hb); clear hb))
                  go_roundw
                  case rel => exact ⟨x + 1, rfl, by omega, HF, HX⟩
                  case measure => simp [intOf]; omega
              · have HF := Aside0.mk (HD.out fun h z h0 h1 => HZ.out z h0 (by omega) h)
                go_wp2
                go_roundg (gk - 1)
                case rel => exact ⟨j + 1, rfl, by omega, by omega, ⟨by have := HG.out; omega⟩, HF, ⟨below_step HX6.out HY.out⟩⟩
                case measure => have := HG.out; omega
        · have HF := Aside0.mk (show ∀ p q : Int, 0 ≤ p → p < i + 1 → 0 ≤ q → q < l0.length → Row2 l0 (rd_T41 l0 p) (rd_T41 l0 q) from fun p q h0 h1 h2 h3 => by
            by_cases hp : p = i
            · exact hp ▸ HM.out q h2 (by omega)
            · exact HN.out p q h0 (by omega) h2 h3)
          go_wp2
          go_roundw
          case rel => exact ⟨i + 1, rfl, by omega, by omega, HF, ⟨below_step HB4.out HX.out⟩⟩
          case measure => simp [intOf]; omega
    · have HV := Aside0.mk (rfB_yes fun p q h0 h1 => HN.out p q h0 (by omega))
      go_wp2
      go_ret
      exact ⟨by rw [HV.out]; rfl, HB.out⟩
end Go.Proofs.Ytlohfeicfhmlmaa.PFnOutlines

namespace Go.Proofs.Ytlohfeicfhmlmaa.PFnOutlines
open Go.RowKit Go.Proofs.YtlohfeicfhmlmaaW.PrintWords Go.Proofs.YtlohfeicfhmlmaaW.PrintLast Go.Proofs.YtlohfeicfhmlmaaW.PrintMore ETool
theorem shape_sm {l : List S41} (h : isShapeB l = true) (i : Int) (h0 : 0 ≤ i) (h1 : i < l.length) : smallC (rd_T41 l i) := shape_small h h0 h1
noncomputable def rcB (l : List S41) : Bool := isShapeB l && rfB l
set_option maxHeartbeats 4000000 in
set_option maxRecDepth 100000 in
theorem iRowConv (A0 : Option Addr) (c0 : Nat) (l0 : List S41) (w : World) (hr0 : Kd.C k41 w A0 l0.length l0) (hc0 : l0.length ≤ c0) :
    Calls Try.prog 17 #[.slice A0 l0.length c0] w fun e w' => e = .returned (.bool (rcB l0)) ∧ Below w.heap.size w w' := by
  have HC := Aside0.mk (iIsShape A0 c0 l0 w hr0 hc0)
  have HI := Aside0.mk (fun (hs : isShapeB l0 = true) W (hb : Below w.heap.size w W) => iRows A0 c0 l0 W (Kd.C_below hr0 hb) hc0 (shape_sm hs))
  clear hr0
  rcases hs : isShapeB l0 with _ | _
  · have HV := Aside0.mk (show rcB l0 = false by simp [rcB, hs])
    rw [hs] at HC
    go_enter Try.func17, Try.ntmps17
    go_wp2_with (first | (go_at_call 32; refine HC.out.mono ?_; rintro e w5 ⟨rfl, hb⟩; have HB5 := Aside0.mk hb; clear hb))
    go_ret
    exact ⟨by rw [HV.out]; rfl, HB5.out⟩
  · have HV := Aside0.mk (show rcB l0 = rfB l0 by simp [rcB, hs])
    rw [hs] at HC
    have HI' := Aside0.mk (HI.out hs)
    clear hs
    generalize rfB l0 = n at *
    go_enter Try.func17, Try.ntmps17
    go_wp2_with (first | (go_at_call 32; refine HC.out.mono ?_; rintro e w5 ⟨rfl, hb⟩; have HB5 := Aside0.mk hb; clear hb) | (go_at_call 42; refine (HI'.out _ HB5.out).mono ?_; rintro e w6 ⟨rfl, hb⟩; have HB6 := Aside0.mk (below_step HB5.out hb); clear hb))
    go_ret
    exact ⟨by rw [HV.out]; rfl, HB6.out⟩
def CF (l : List S41) : Prop := ∀ i : Int, 1 ≤ i → i < l.length → (rd_T41 l i).f1 = (rd_T41 l (i - 1)).f1 → (rd_T41 l i).f0 = (rd_T41 l (i - 1)).f0 + 1
open Classical in
noncomputable def cfB (l : List S41) : Bool := decide (isShapeB l = true ∧ CF l)
open Classical in
theorem cfB_no {l : List S41} (h : ¬(isShapeB l = true ∧ CF l)) : cfB l = false := by unfold cfB; exact decide_eq_false h
open Classical in
theorem cfB_yes {l : List S41} (h1 : isShapeB l = true) (h : CF l) : cfB l = true := by unfold cfB; exact decide_eq_true ⟨h1, h⟩
set_option maxHeartbeats 4000000 in
set_option maxRecDepth 100000 in
theorem sRowConv (A0 : Option Addr) (c0 : Nat) (l0 : List S41) (w : World) (hr0 : Kd.C k41 w A0 l0.length l0) (hc0 : l0.length ≤ c0) :
    Calls Try.prog 18 #[.slice A0 l0.length c0] w fun e w' => e = .returned (.bool (cfB l0)) ∧ Below w.heap.size w w' := by
  have hu41 := Try.underlying41
  have hlen := C_len hr0
  have HR0 := Aside0.mk hr0
  clear hr0
  rcases hs : isShapeB l0 with _ | _
  · have HV := Aside0.mk (cfB_no (l := l0) (by rw [hs]; simp))
    go_enter Try.func18, Try.ntmps18
    go_wp2
    go_loopw [3] (fun v3 w' => v3 = .int .i64 1 ∧ Aside0 (Below w.heap.size w w')) (fun _ _ => 0)
    case atStart => exact ⟨rfl, ⟨Below.refl _ _⟩⟩
    case round =>
      obtain ⟨rfl, HB⟩ := hrel
      have HC := Aside0.mk (fun W (hb : Below wr.heap.size wr W) => sIsShape A0 c0 l0 W (Kd.C_below HR0.out (below_step HB.out hb)) hc0)
      rw [hs] at HC
      have HX := Aside0.mk (Below.refl wr.heap.size wr)
      by_cases hlt : 1 < (l0.length : Int)
      · go_wp2_with (first | (go_at_call 23; refine (HC.out _ HX.out).mono ?_; rintro e w5 ⟨rfl, hb⟩; have HX' := Aside0.mk (below_step HX.out hb); clear HX; have HX := HX'; clear HX' hb))
        go_ret
        exact ⟨by rw [HV.out]; rfl, below_step HB.out HX.out⟩
      · go_wp2_with (first | (go_at_call 23; refine (HC.out _ HX.out).mono ?_; rintro e w5 ⟨rfl, hb⟩; have HX' := Aside0.mk (below_step HX.out hb); clear HX; have HX := HX'; clear HX' hb))
        go_ret
        exact ⟨by rw [HV.out]; rfl, below_step HB.out HX.out⟩
  · have HS := Aside0.mk hs
    obtain ⟨hl1, hl8⟩ := shape_len hs
    clear hs
    go_enter Try.func18, Try.ntmps18
    go_wp2
    go_loopw [3] (fun v3 w' => ∃ i : Int, v3 = .int .i64 i ∧ 1 ≤ i ∧ i ≤ l0.length ∧ Aside0 (∀ q : Int, 1 ≤ q → q < i → (rd_T41 l0 q).f1 = (rd_T41 l0 (q - 1)).f1 → (rd_T41 l0 q).f0 = (rd_T41 l0 (q - 1)).f0 + 1) ∧ Aside0 (Below w.heap.size w w')) (fun v3 _ => l0.length - (intOf v3).toNat)
    case atStart => exact ⟨1, rfl, by omega, by omega, ⟨fun q h0 h1 => absurd h1 (by omega)⟩, ⟨Below.refl _ _⟩⟩
    case round =>
      obtain ⟨i, rfl, hi0, hin, HN, HB⟩ := hrel
      have HC := Aside0.mk (fun W (hb : Below wr.heap.size wr W) => sIsShape A0 c0 l0 W (Kd.C_below HR0.out (below_step HB.out hb)) hc0)
      rw [HS.out] at HC
      have HX := Aside0.mk (Below.refl wr.heap.size wr)
      by_cases hlt : i < (l0.length : Int)
      · go_upto_region 4 with (first | (go_at_call 23; refine (HC.out _ HX.out).mono ?_; rintro e w5 ⟨rfl, hb⟩; have HX' := Aside0.mk (below_step HX.out hb); clear HX; have HX := HX'; clear HX' hb))
        have HB5 := Aside0.mk (below_step HB.out HX.out)
        clear HC HX
        have hrr := Kd.C_below HR0.out HB5.out
        obtain ⟨ad, e, hx0, hx1⟩ := at_T41 hrr i (by omega) hlt
        cases e
        have hi00 : 0 ≤ i := by omega
        obtain ⟨j, hj⟩ : ∃ j, i - 1 = j := ⟨_, rfl⟩
        have hj0 : 0 ≤ j := by omega
        have hj1 : j < (l0.length : Int) := by omega
        obtain ⟨ad', e', hy0, hy1⟩ := at_T41 hrr j hj0 hj1
        obtain rfl : ad = ad' := by injection e'
        obtain ⟨sa0, sa1, sa2, sa3⟩ := shape_sm HS.out j hj0 hj1
        have hjw := iw64 (x := j) (by omega) (by omega)
        have hxw := iw64 (x := (rd_T41 l0 j).f0 + 1) (by omega) (by omega)
        have rx0 := BW.cell hx0
        have rx1 := BW.cell hx1
        have ry0 := BW.cell hy0
        have ry1 := BW.cell hy1
        have HF := Aside0.mk (show ¬((rd_T41 l0 i).f1 = (rd_T41 l0 j).f1 → (rd_T41 l0 i).f0 = (rd_T41 l0 j).f0 + 1) → cfB l0 = false from fun h => cfB_no fun hh => h (by rw [← hj]; exact hh.2 i hi0 hlt))
        have HG := Aside0.mk (show ((rd_T41 l0 i).f1 = (rd_T41 l0 j).f1 → (rd_T41 l0 i).f0 = (rd_T41 l0 j).f0 + 1) → ∀ q : Int, 1 ≤ q → q < i + 1 → (rd_T41 l0 q).f1 = (rd_T41 l0 (q - 1)).f1 → (rd_T41 l0 q).f0 = (rd_T41 l0 (q - 1)).f0 + 1 from fun h q h0 h1 => by
          by_cases hq : q = i
          · rw [hq, hj]; exact h
          · exact HN.out q h0 (by omega))
        clear hx0 hx1 hy0 hy1
        generalize (rd_T41 l0 i).f0 = ax at *
        generalize (rd_T41 l0 i).f1 = ay at *
        generalize (rd_T41 l0 j).f0 = bx at *
        generalize (rd_T41 l0 j).f1 = yb at *
        refine quiet_b (by kernel_rfl) (by kernel_rfl) ?_
        rcases hey : ay == yb with _ | _
        · have HG' := Aside0.mk (HG.out fun h => absurd h (by simpa using hey))
          repeat (with_reducible refine wpQuiet_step ?_; intro K hK; go_simp; first | (with_reducible apply Exists.intro; with_reducible refine ⟨fun _ => ?_, hK _ ?_⟩; (fail); clear hK K) | (with_reducible refine hK _ ?_; clear hK K) | (rw [if_neg (by decide)]; with_reducible refine hK _ ?_; clear hK K))
          with_reducible refine wpQuiet_nil ?_
          refine quiet_end ?_
          intro W5 hb5
          go_wp2
          go_roundw
          case rel => exact ⟨i + 1, rfl, by omega, by omega, HG', ⟨below_step HB5.out hb5⟩⟩
          case measure => simp [intOf]; omega
        · rcases hex : ax == bx + 1 with _ | _
          · have HF' := Aside0.mk (HF.out fun h => absurd (h (by simpa using hey)) (by simpa using hex))
            repeat (with_reducible refine wpQuiet_step ?_; intro K hK; go_simp; first | (with_reducible apply Exists.intro; with_reducible refine ⟨fun _ => ?_, hK _ ?_⟩; (fail); clear hK K) | (with_reducible refine hK _ ?_; clear hK K) | (rw [if_neg (by decide)]; with_reducible refine hK _ ?_; clear hK K))
            with_reducible refine wpQuiet_nil ?_
            refine quiet_end ?_
            intro W5 hb5
            go_wp2
            go_ret
            exact ⟨by rw [HF'.out]; rfl, below_step HB5.out hb5⟩
          · have HG' := Aside0.mk (HG.out fun _ => by simpa using hex)
            repeat (with_reducible refine wpQuiet_step ?_; intro K hK; go_simp; first | (with_reducible apply Exists.intro; with_reducible refine ⟨fun _ => ?_, hK _ ?_⟩; (fail); clear hK K) | (with_reducible refine hK _ ?_; clear hK K) | (rw [if_neg (by decide)]; with_reducible refine hK _ ?_; clear hK K))
            with_reducible refine wpQuiet_nil ?_
            refine quiet_end ?_
            intro W5 hb5
            go_wp2
            go_roundw
            case rel => exact ⟨i + 1, rfl, by omega, by omega, HG', ⟨below_step HB5.out hb5⟩⟩
            case measure => simp [intOf]; omega
      · have HV := Aside0.mk (cfB_yes HS.out fun q h0 h1 => HN.out q h0 (by omega))
        go_wp2_with (first | (go_at_call 23; refine (HC.out _ HX.out).mono ?_; rintro e w5 ⟨rfl, hb⟩; have HX' := Aside0.mk (below_step HX.out hb); clear HX; have HX := HX'; clear HX' hb))
        go_ret
        exact ⟨by rw [HV.out]; rfl, below_step HB.out HX.out⟩
end Go.Proofs.Ytlohfeicfhmlmaa.PFnOutlines

namespace Go.Proofs.Ytlohfeicfhmlmaa.PFnOutlines
open Go.RowKit Go.Proofs.YtlohfeicfhmlmaaW.PrintWords Go.Proofs.YtlohfeicfhmlmaaW.PrintLast Go.Proofs.YtlohfeicfhmlmaaW.PrintMore ETool
theorem ltB_iff {a b : S41} : ltB a b = true ↔ a.f1 < b.f1 ∨ (a.f1 = b.f1 ∧ a.f0 < b.f0) := by
  simp only [ltB, Bool.or_eq_true, Bool.and_eq_true, decide_eq_true_eq]
theorem shape_lt {l : List S41} (h : isShapeB l = true) {i : Int} (h0 : 0 ≤ i) : ∀ n : Nat, i + n + 1 < l.length → ltB (rd_T41 l i) (rd_T41 l (i + n + 1)) = true
  | 0, h1 => by
    have hk : okAt l (i + 1) = true := by
      rw [← Bool.not_eq_false]
      intro hh
      rw [shape_no (by omega) (by simpa using h1) hh] at h
      cases h
    simp only [okAt, Bool.and_eq_true, Bool.or_eq_true, decide_eq_true_eq] at hk
    rcases hk.2 with hk | hk
    · omega
    · rw [show i + 1 - 1 = i by omega] at hk
      simpa using hk
  | n + 1, h1 => by
    have ih := shape_lt h h0 n (by omega)
    have hk : okAt l (i + (n + 1 : Nat) + 1) = true := by
      rw [← Bool.not_eq_false]
      intro hh
      rw [shape_no (by omega) h1 hh] at h
      cases h
    simp only [okAt, Bool.and_eq_true, Bool.or_eq_true, decide_eq_true_eq] at hk
    rcases hk.2 with hk | hk
    · omega
    · rw [show i + (n + 1 : Nat) + 1 - 1 = i + n + 1 by omega] at hk
      rw [ltB_iff] at *
      omega
theorem shape_mono {l : List S41} (h : isShapeB l = true) {i j : Int} (h0 : 0 ≤ i) (h1 : i < j) (h2 : j < l.length) : ltB (rd_T41 l i) (rd_T41 l j) = true := by
  have := shape_lt h h0 (j - i - 1).toNat (by omega)
  rw [show i + ((j - i - 1).toNat : Nat) + 1 = j by omega] at this
  exact this
theorem shape_inj {l : List S41} (h : isShapeB l = true) {i j : Int} (h0 : 0 ≤ i) (h1 : i < l.length) (h2 : 0 ≤ j) (h3 : j < l.length) (e : rd_T41 l i = rd_T41 l j) : i = j := by
  rcases Int.lt_trichotomy i j with hh | hh | hh
  · have := shape_mono h h0 hh h3
    rw [ltB_iff, e] at this
    omega
  · exact hh
  · have := shape_mono h h2 hh h1
    rw [ltB_iff, e] at this
    omega
/-- A set of cells that has the first and, with a cell, its neighbours. -/
def ConnS (l : List S41) (S : S41 → Prop) : Prop := S (rd_T41 l 0) ∧ ∀ i j : Int, 0 ≤ i → i < l.length → 0 ≤ j → j < l.length → S (rd_T41 l i) → nearB (rd_T41 l i) (rd_T41 l j) = true → S (rd_T41 l j)
def Conn (l : List S41) : Prop := ∀ S, ConnS l S → ∀ i : Int, 0 ≤ i → i < l.length → S (rd_T41 l i)
open Classical in
noncomputable def cnB (l : List S41) : Bool := decide (isShapeB l = true ∧ Conn l)
open Classical in
theorem cnB_val {l : List S41} {t : Bool} (h1 : isShapeB l = true) (h : t = true ↔ Conn l) : cnB l = t := by
  unfold cnB
  rcases t with _ | _
  · exact decide_eq_false fun hh => by have := h.mpr hh.2; cases this
  · exact decide_eq_true ⟨h1, h.mp rfl⟩
open Classical in
theorem cnB_no {l : List S41} (h1 : isShapeB l = false) : cnB l = false := by
  unfold cnB
  exact decide_eq_false fun hh => by rw [h1] at hh; cases hh.1
def sn (xs : List Bool) (i : Int) : Bool := rdOf false xs i
structure HInv (l : List S41) (xs : List Bool) (cnt : Int) : Prop where
  len : xs.length = l.length
  zero : sn xs 0 = true
  cnt : cnt = (xs.countP id : Int)
  min : ∀ S, ConnS l S → ∀ i : Int, 0 ≤ i → i < l.length → sn xs i = true → S (rd_T41 l i)
theorem sn_set {xs : List Bool} {i j : Int} (h0 : 0 ≤ i) (h1 : 0 ≤ j) (h2 : j < xs.length) : sn (xs.set j.toNat true) i = (decide (i = j) || sn xs i) := by
  unfold sn rdOf
  rw [List.getD_eq_getElem?_getD, List.getD_eq_getElem?_getD, List.getElem?_set]
  by_cases h : i = j
  · subst h
    have : i.toNat < xs.length := by omega
    simp [this]
  · have : ¬ j.toNat = i.toNat := by omega
    simp [h, this]
theorem countP_set : ∀ (xs : List Bool) (n : Nat), n < xs.length → xs.getD n false = false → (xs.set n true).countP id = xs.countP id + 1
  | [], n, h, _ => by simp at h
  | b :: xs, 0, _, h => by
    simp at h
    subst h
    simp
  | b :: xs, n + 1, h, h2 => by
    have ih := countP_set xs n (by simpa using h) (by simpa using h2)
    simp only [List.set_cons_succ, List.countP_cons, ih]
    omega
theorem HInv.step {l : List S41} {xs : List Bool} {cnt i j : Int} (h : HInv l xs cnt) (hi0 : 0 ≤ i) (hi1 : i < l.length) (hj0 : 0 ≤ j) (hj1 : j < l.length) (hi : sn xs i = true) (hj : sn xs j = false) (hn : nearB (rd_T41 l i) (rd_T41 l j) = true) : HInv l (xs.set j.toNat true) (cnt + 1) := by
  have hl := h.len
  refine ⟨by rw [List.length_set]; exact h.len, ?_, ?_, ?_⟩
  · rw [sn_set (by omega) hj0 (by omega), h.zero, Bool.or_true]
  · rw [h.cnt, countP_set xs j.toNat (by omega) hj]
    rfl
  · intro S hS q h0 h1 hq
    rw [sn_set h0 hj0 (by omega)] at hq
    by_cases e : q = j
    · subst e
      exact hS.2 i q hi0 hi1 h0 h1 (h.min S hS i hi0 hi1 hi) hn
    · simp [e] at hq
      exact h.min S hS q h0 h1 hq
theorem HInv.le {l : List S41} {xs : List Bool} {cnt : Int} (h : HInv l xs cnt) : 0 ≤ cnt ∧ cnt ≤ l.length := by
  have := List.countP_le_length (p := id) (l := xs)
  have h1 := h.cnt
  have h2 := h.len
  omega
theorem HInv.start {l : List S41} (h1 : 1 ≤ l.length) : HInv l ((List.replicate l.length false).set 0 true) 1 := by
  obtain ⟨n, hn⟩ : ∃ n, l.length = n + 1 := ⟨l.length - 1, by omega⟩
  refine ⟨by simp, ?_, ?_, ?_⟩
  · rw [hn]; rfl
  · rw [hn]
    simp only [List.replicate_succ, List.set_cons_zero, List.countP_cons, id]
    rw [List.countP_eq_zero.mpr]
    · rfl
    · intro b hb
      rw [List.mem_replicate] at hb
      simp [hb.2]
  · intro S hS i h0 h2 hi
    by_cases e : i = 0
    · subst e; exact hS.1
    · obtain ⟨k, hk⟩ : ∃ k : Nat, i.toNat = k + 1 := ⟨i.toNat - 1, by omega⟩
      unfold sn rdOf at hi
      rw [hn, List.replicate_succ, List.set_cons_zero, hk, List.getD_cons_succ] at hi
      rw [List.getD_eq_getElem?_getD, List.getElem?_replicate] at hi
      split at hi <;> simp at hi
def HClosed (l : List S41) (xs : List Bool) : Prop := ∀ i j : Int, 0 ≤ i → i < l.length → 0 ≤ j → j < l.length → sn xs i = true → nearB (rd_T41 l i) (rd_T41 l j) = true → sn xs j = true
theorem countP_all : ∀ xs : List Bool, xs.countP id = xs.length ↔ ∀ n, n < xs.length → xs.getD n false = true
  | [] => by simp
  | b :: xs => by
    have hle := List.countP_le_length (p := id) (l := xs)
    constructor
    · intro h n hn
      cases b with
      | false => rw [List.countP_cons_of_neg (by simp), List.length_cons] at h; omega
      | true =>
        cases n with
        | zero => rfl
        | succ n => exact (countP_all xs).mp (by rw [List.countP_cons_of_pos rfl, List.length_cons] at h; omega) n (by simpa using hn)
    · intro h
      have h0 : b = true := by simpa using h 0 (by simp)
      subst h0
      have := (countP_all xs).mpr fun n hn => by simpa using h (n + 1) (by simpa using hn)
      rw [List.countP_cons_of_pos rfl, List.length_cons, this]
theorem HInv.done {l : List S41} {xs : List Bool} {cnt : Int} (hs : isShapeB l = true) (h : HInv l xs cnt) (hc : HClosed l xs) : (cnt == (l.length : Int)) = true ↔ Conn l := by
  have hlen := h.len
  have hl := shape_len hs
  rw [beq_iff_eq, h.cnt]
  have key := countP_all xs
  constructor
  · intro e S hS i h0 h1
    refine h.min S hS i h0 h1 ?_
    have := key.mp (by omega) i.toNat (by omega)
    exact this
  · intro hC
    have hall := hC (fun c => ∃ q : Int, 0 ≤ q ∧ q < l.length ∧ rd_T41 l q = c ∧ sn xs q = true) ⟨⟨0, by omega, by omega, rfl, h.zero⟩, fun i j h0 h1 h2 h3 ⟨q, q0, q1, e, hq⟩ hn => ⟨j, h2, h3, rfl, hc q j q0 q1 h2 h3 hq (by rw [e]; exact hn)⟩⟩
    have : xs.countP id = xs.length := key.mpr fun n hn => by
      obtain ⟨q, q0, q1, e, hq⟩ := hall n (by omega) (by omega)
      have := shape_inj hs q0 q1 (by omega) (by omega) e
      subst this
      exact hq
    omega
end Go.Proofs.Ytlohfeicfhmlmaa.PFnOutlines

namespace Go.Proofs.Ytlohfeicfhmlmaa.PFnOutlines
open Go.RowKit Go.Proofs.YtlohfeicfhmlmaaW.PrintWords Go.Proofs.YtlohfeicfhmlmaaW.PrintLast Go.Proofs.YtlohfeicfhmlmaaW.PrintMore ETool
theorem srt_lt (a : S41) : ltB a a = false := by
  rw [Bool.eq_false_iff]
  intro h
  rw [ltB_iff] at h
  omega
theorem srt_tr (a b c : S41) (h1 : ltB a b = true) (h2 : ltB b c = true) : ltB a c = true := by
  rw [ltB_iff] at *
  omega
theorem srt_eq (a b : S41) (h1 : ltB a b = false) (h2 : ltB b a = false) : a = b := by
  rw [← Bool.not_eq_true, ltB_iff] at h1 h2
  cases a
  cases b
  simp only at h1 h2
  rw [S41.mk.injEq]
  omega
def srt (l : List S41) : List S41 := ESort.sortB ltB l
theorem srt_mem {l : List S41} {c : S41} : c ∈ srt l ↔ c ∈ l := by
  haveI : Inhabited S41 := ⟨z41⟩
  exact ESort.mem_sortB srt_eq l c
theorem srt_strict (l : List S41) : (srt l).Pairwise (fun a b => ltB a b = true) := by
  haveI : Inhabited S41 := ⟨z41⟩
  exact ESort.strict_sortB srt_tr srt_eq l
theorem strict_nodup {l : List S41} (h : l.Pairwise (fun a b => ltB a b = true)) : l.Nodup := h.imp fun {a b} hab e => by rw [e, srt_lt] at hab; cases hab
theorem strict_one {l m : List S41} (h : l.Pairwise (fun a b => ltB a b = true)) (k : m.Pairwise (fun a b => ltB a b = true)) (e : ∀ c, c ∈ l ↔ c ∈ m) : l = m := by
  haveI : Inhabited S41 := ⟨z41⟩
  exact ESort.strict_ext srt_lt srt_tr l m h k e
theorem ltB_trans {a b c : S41} (h1 : ltB a b = true) (h2 : ltB b c = true) : ltB a c = true := srt_tr a b c h1 h2
end Go.Proofs.Ytlohfeicfhmlmaa.PFnOutlines

namespace Go.Proofs.Ytlohfeicfhmlmaa.PFnOutlines
open Go.RowKit Go.Proofs.YtlohfeicfhmlmaaW.PrintWords Go.Proofs.YtlohfeicfhmlmaaW.PrintLast Go.Proofs.YtlohfeicfhmlmaaW.PrintMore
theorem eqA41 (d : Nat) (w : World) (x0 y0 : Int) (x1 y1 : Int) :
    (Op.equalIn (d + 2) 41 (.agg #[.int .i64 x0, .int .i64 x1]) (.agg #[.int .i64 y0, .int .i64 y1])).run Try.prog w = .ok (x0 == y0 && (x1 == y1)) w := by
  refine eqA_of Try.underlying41 (by kernel_rfl) ?_
  refine eqf_cons (by rfl) (by go_simp; rfl) (by go_simp; rfl) (by go_simp) ?_
  exact eqf_last (by rfl) (by go_simp; rfl) (by go_simp; rfl) (by go_simp)
end Go.Proofs.Ytlohfeicfhmlmaa.PFnOutlines

namespace Go.Proofs.Ytlohfeicfhmlmaa.PFnOutlines
open Go.RowKit Go.Proofs.YtlohfeicfhmlmaaW.PrintWords Go.Proofs.YtlohfeicfhmlmaaW.PrintLast Go.Proofs.YtlohfeicfhmlmaaW.PrintMore ETool
structure SI (l : List S41) (i : Int) (zs : List S41) : Prop where
  strict : zs.Pairwise (fun a b => ltB a b = true)
  mem : ∀ c, c ∈ zs ↔ c ∈ l.take i.toNat
  len : (zs.length : Int) ≤ i
theorem SI.start (l : List S41) : SI l 0 [] := ⟨.nil, fun c => by simp, by simp⟩
theorem SI.skip {l zs : List S41} {i q : Int} (h : SI l i zs) (h0 : 0 ≤ i) (h1 : i < l.length) (q0 : 0 ≤ q) (q1 : q < zs.length) (e : rd_T41 zs q = rd_T41 l i) : SI l (i + 1) zs := by
  refine ⟨h.strict, fun c => ?_, by have := h.len; omega⟩
  rw [take_succ_rd h0 h1, List.mem_append, h.mem, List.mem_singleton]
  constructor
  · exact .inl
  · rintro (k | rfl)
    · exact k
    · rw [← h.mem, ← e]
      exact rd_mem q0 q1
theorem strict_rd {zs : List S41} (h : zs.Pairwise (fun a b => ltB a b = true)) {i j : Int} (h0 : 0 ≤ i) (h1 : i < j) (h2 : j < zs.length) : ltB (rd_T41 zs i) (rd_T41 zs j) = true := by
  rw [List.pairwise_iff_getElem] at h
  have := h i.toNat j.toNat (by omega) (by omega) (by omega)
  unfold rd_T41
  rw [List.getD_eq_getElem?_getD, List.getD_eq_getElem?_getD, List.getElem?_eq_getElem (by omega), List.getElem?_eq_getElem (by omega)]
  exact this
theorem SI.put {l zs : List S41} {i q : Int} (h : SI l i zs) (h0 : 0 ≤ i) (h1 : i < l.length) (q0 : 0 ≤ q) (q1 : q ≤ zs.length) (hup : ∀ p : Int, q ≤ p → p < zs.length → ltB (rd_T41 l i) (rd_T41 zs p) = true) (hlo : 0 < q → ltB (rd_T41 zs (q - 1)) (rd_T41 l i) = true) : SI l (i + 1) (zs.take q.toNat ++ [rd_T41 l i] ++ zs.drop q.toNat) := by
  have htake : ∀ c ∈ zs.take q.toNat, ltB c (rd_T41 l i) = true := by
    intro c hc
    obtain ⟨n, hn, rfl⟩ := List.getElem_of_mem hc
    rw [List.length_take] at hn
    have hq : 0 < q := by omega
    have h2 := hlo hq
    have e : (zs.take q.toNat)[n]'(by rw [List.length_take]; exact hn) = rd_T41 zs n := by
      rw [List.getElem_take, rd_T41, Int.toNat_natCast, List.getD_eq_getElem?_getD, List.getElem?_eq_getElem (by omega)]
      rfl
    rw [e]
    by_cases hn' : (n : Int) = q - 1
    · rw [hn']; exact h2
    · exact ltB_trans (strict_rd h.strict (by omega) (show (n : Int) < q - 1 by omega) (by omega)) h2
  have hdrop : ∀ c ∈ zs.drop q.toNat, ltB (rd_T41 l i) c = true := by
    intro c hc
    obtain ⟨n, hn, rfl⟩ := List.getElem_of_mem hc
    rw [List.length_drop] at hn
    have e : (zs.drop q.toNat)[n]'(by rw [List.length_drop]; exact hn) = rd_T41 zs (q + n) := by
      rw [List.getElem_drop, rd_T41, List.getD_eq_getElem?_getD, List.getElem?_eq_getElem (by omega)]
      show zs[q.toNat + n] = zs[(q + n).toNat]
      congr 1
      omega
    rw [e]
    exact hup _ (by omega) (by omega)
  have hs := h.strict
  rw [← List.take_append_drop q.toNat zs, List.pairwise_append] at hs
  refine ⟨?_, fun c => ?_, ?_⟩
  · rw [List.append_assoc, List.pairwise_append]
    refine ⟨hs.1, ?_, ?_⟩
    · rw [List.singleton_append, List.pairwise_cons]
      exact ⟨hdrop, hs.2.1⟩
    · intro a ha b hb
      rw [List.singleton_append] at hb
      rcases List.mem_cons.mp hb with rfl | hb
      · exact htake a ha
      · exact hs.2.2 a ha b hb
  · have hm := h.mem c
    rw [← List.take_append_drop q.toNat zs, List.mem_append] at hm
    rw [take_succ_rd h0 h1]
    simp only [List.mem_append, List.mem_singleton, ← hm]
    constructor
    · rintro ((k | k) | k)
      · exact .inl (.inl k)
      · exact .inr k
      · exact .inl (.inr k)
    · rintro ((k | k) | k)
      · exact .inl (.inl k)
      · exact .inr k
      · exact .inl (.inr k)
  · simp only [List.length_append, List.length_take, List.length_drop, List.length_cons, List.length_nil]
    have := h.len
    omega
theorem SI.done {l zs : List S41} (h : SI l l.length zs) : zs = srt l := by
  refine strict_one h.strict (srt_strict l) fun c => ?_
  rw [h.mem, srt_mem, Int.toNat_natCast, List.take_length]
theorem C_gr {w w1 : World} {A : Option Addr} {n : Nat} {xs : List S41} {row : Option Nat} (h : Kd.C k41 w A n xs) (hg : w.grownBy w1 row) (hne : ∀ ad, A = some ad → 0 < n → some ad.block ≠ row) : Kd.C k41 w1 A n xs := by
  refine ⟨h.1, h.2.1, fun hn => ?_⟩
  obtain ⟨ad, e, hc⟩ := h.2.2 hn
  refine ⟨ad, e, fun j p hj => ?_⟩
  obtain ⟨c, hs, hr, hcell⟩ := hc j p hj
  refine ⟨c, hs, by rw [k41_open hr]; exact k41_mk _ _, fun i u hu => ?_⟩
  have h1 := hcell i u hu
  have hb : (ad.add (j * k41.sz + i)).block = ad.block := by unfold Addr.add; split <;> rfl
  have hlt : ad.block < w.heap.size := by have := World.block_lt_of_cell? w _ h1; rwa [hb] at this
  rw [← h1]
  unfold World.cell?
  rw [hb, hg.block _ hlt (hne ad e hn)]
theorem size_alloc1 (w : World) (o : Obj) : (w.alloc o).heap.size = w.heap.size + 1 := by unfold World.alloc; exact Array.size_push ..
theorem C_one (w : World) (c : S41) : Kd.C k41 (w.alloc (.cells #[.int .i64 c.f0, .int .i64 c.f1] 41)) (some ⟨w.heap.size, 0, none⟩) 1 [c] := by
  refine ⟨rfl, by omega, fun _ => ⟨_, rfl, fun j p hj => ?_⟩⟩
  have hj0 : j = 0 := by
    rcases j with _ | j
    · rfl
    · simp at hj
  subst hj0
  simp only [List.getElem?_cons_zero, Option.some.injEq] at hj
  subst hj
  refine ⟨_, rfl, k41_mk _ _, fun i u hu => ?_⟩
  have hb : (w.alloc (.cells #[.int .i64 c.f0, .int .i64 c.f1] 41)).heap[w.heap.size]? = some (.cells #[.int .i64 c.f0, .int .i64 c.f1] 41 (0, 0)) := blk_new _ _
  rcases i with _ | _ | i
  · simp at hu
    subst hu
    exact (blk_cell hb 0).trans rfl
  · simp at hu
    subst hu
    exact (blk_cell hb 1).trans rfl
  · simp at hu
attribute [local go_sem high] eqA41
def T67 : Bool × List (List Nat × List Nat) := (true, [([], []), ([], []), ([], []), ([1, 2], [1, 2]), ([0, 3], [0, 3]), ([], []), ([], []), ([5, 6], [5, 6]), ([7], [7]), ([8], [8]), ([4, 9, 4], [4, 9]), ([], []), ([], []), ([11, 12], [11, 12]), ([10, 13, 10], [10, 13]), ([14, 14, 0, 1, 2, 3, 4, 5, 6, 7, 8, 9, 10, 11, 12, 13, 14], [1, 11, 14])])
def B67 : List Nat := [0, 0, 0, 6, 15, 0, 0, 96, 224, 480, 1023, 0, 0, 6144, 16383, 32767]
theorem tab67 : rtab .any (opsOf Try.f67 9) = T67 := by kernel_rfl
theorem bits67 : waitsOk T67.2 B67 = true := by kernel_rfl
set_option maxHeartbeats 4000000 in
set_option maxRecDepth 100000 in
theorem sSort (A0 : Option Addr) (c0 : Nat) (l0 : List S41) (w : World) (hr0 : Kd.C k41 w A0 l0.length l0) (hc0 : l0.length ≤ c0) (hlen : l0.length ≤ 1000) :
    Calls Try.prog 67 #[.slice A0 l0.length c0] w fun e w' => ∃ v0_ : Value, e = .returned v0_ ∧ Kd.R k41 41 w' w.heap.size (fun _ => True) v0_ (srt l0) ∧ Below w.heap.size w w' := by
  have hu41 := Try.underlying41
  have HR0 := Aside0.mk hr0
  clear hr0
  go_enter Try.func67, Try.ntmps67
  go_upto_region 2 with (first
    | ((with_reducible refine gate_dst (N := 6) rfl ?_); refine Kd.R_lit k41 _ 41 ?hg (N := 6) ?hd (xs := []) (inner := []) (ok := fun _ => True) (okp := fun _ => True) ?hr ?hp (fun _ hk => hk) trivial (Below.refl _ _) (Nat.le_refl _) (by simp) ?_; (case hd => rfl); (case hg => rfl); (case hr => first | (go_simp; done) | (go_simp; rfl)); (case hp => exact Reps.none _ _); intro v3 w3 ho hb hg_ hnew_; have HO := Aside0.mk ho; have HB3 := Aside0.mk hb; clear ho hb hg_ hnew_))
  go_upto_region 3 with (fail)
  go_loopw [3, 4] (fun v3 v4 w' => ∃ (zs : List S41) (i : Int), v4 = .int .i64 i ∧ 0 ≤ i ∧ i ≤ l0.length ∧ Aside0 (SI l0 i zs) ∧ Aside0 (Kd.R k41 41 w' w.heap.size (fun _ => True) v3 zs) ∧ Aside0 (Below w.heap.size w w')) (fun _ v4 _ => l0.length - (intOf v4).toNat)
  case atStart => exact ⟨[], 0, rfl, by omega, by omega, ⟨SI.start l0⟩, HO, HB3⟩
  case round =>
    clear HO HB3
    obtain ⟨zs, i, rfl, hi0, hin, HI, HO, HB⟩ := hrel
    by_cases hlt : i < (l0.length : Int)
    · obtain ⟨Az, cz, ez⟩ := Kd.R_slice HO.out
      subst ez
      obtain ⟨_, hcz, _⟩ := Kd.R_reads' HO.out
      have hzl := HI.out.len
      go_upto_block 2 with fail
      obtain ⟨wo, rfl⟩ : ∃ wo : World, wo = wr := ⟨_, rfl⟩
      go_cut [5] from 15 to 30 (fun v5 wc => ∃ q : Int, v5 = .int .i64 q ∧ 0 ≤ q ∧ q ≤ zs.length ∧ Aside0 (∀ p : Int, q ≤ p → p < zs.length → ltB (rd_T41 l0 i) (rd_T41 zs p) = true) ∧ Aside0 (0 < q → ltB (rd_T41 l0 i) (rd_T41 zs (q - 1)) = false) ∧ Aside0 (Below wo.heap.size wo wc))
      case first =>
        go_wp2
        go_loopw [5] (fun v5 w' => ∃ q : Int, v5 = .int .i64 q ∧ 0 ≤ q ∧ q ≤ zs.length ∧ Aside0 (∀ p : Int, q ≤ p → p < zs.length → ltB (rd_T41 l0 i) (rd_T41 zs p) = true) ∧ Aside0 (Below wo.heap.size wo w')) (fun v5 _ => (intOf v5).toNat)
        case atStart => exact ⟨zs.length, rfl, by omega, by omega, ⟨fun p h0 h1 => absurd h1 (by omega)⟩, ⟨Below.refl _ _⟩⟩
        case round =>
          obtain ⟨q, rfl, hq0, hqn, HU, HX⟩ := hrel
          by_cases hq : 0 < q
          · obtain ⟨j, hj⟩ : ∃ j, q - 1 = j := ⟨_, rfl⟩
            have hj0 : 0 ≤ j := by omega
            have hj1 : j < (zs.length : Int) := by omega
            have hjw := iw64 (x := j) (by omega) (by omega)
            obtain ⟨ad, e, hx0, hx1⟩ := at_T41 (Kd.C_below HR0.out (below_step HB.out HX.out)) i hi0 hlt
            cases e
            obtain ⟨ad', e', hy0, hy1⟩ := at_T41 (Kd.C_below (Kd.R_reads' HO.out).2.2 HX.out) j hj0 hj1
            cases e'
            have rx0 := BW.cell hx0
            have rx1 := BW.cell hx1
            have ry0 := BW.cell hy0
            have ry1 := BW.cell hy1
            have HU2 := Aside0.mk (show ltB (rd_T41 l0 i) (rd_T41 zs j) = true → ∀ p : Int, j ≤ p → p < zs.length → ltB (rd_T41 l0 i) (rd_T41 zs p) = true from fun h p h0 h1 => by
              by_cases hp : p = j
              · rw [hp]; exact h
              · exact HU.out p (by omega) h1)
            clear hx0 hx1 hy0 hy1
            go_upto_region 6 with (fail)
            refine quiet_b (by kernel_rfl) (by kernel_rfl) ?_
            rcases hl : ltB (rd_T41 l0 i) (rd_T41 zs j) with _ | _
            · have HL := Aside0.mk (show 0 < q → ltB (rd_T41 l0 i) (rd_T41 zs (q - 1)) = false from fun _ => by rw [hj]; exact hl)
              repeat (with_reducible refine wpQuiet_step ?_; intro K hK; go_simp; first | (with_reducible apply Exists.intro; with_reducible refine ⟨fun _ => ?_, hK _ ?_⟩; (go_at_call 48; exact lt_b hl _); clear hK K) | (with_reducible refine hK _ ?_; clear hK K) | (rw [if_neg (by decide)]; with_reducible refine hK _ ?_; clear hK K))
              with_reducible refine wpQuiet_nil ?_
              refine quiet_end ?_
              intro W5 hb5
              go_wp2
              go_meet
              case rel => exact ⟨q, rfl, hq0, hqn, HU, HL, ⟨below_step HX.out hb5⟩⟩
            · have HU3 := Aside0.mk (HU2.out hl)
              repeat (with_reducible refine wpQuiet_step ?_; intro K hK; go_simp; first | (with_reducible apply Exists.intro; with_reducible refine ⟨fun _ => ?_, hK _ ?_⟩; (go_at_call 48; exact lt_b hl _); clear hK K) | (with_reducible refine hK _ ?_; clear hK K) | (rw [if_neg (by decide)]; with_reducible refine hK _ ?_; clear hK K))
              with_reducible refine wpQuiet_nil ?_
              refine quiet_end ?_
              intro W5 hb5
              go_wp2
              go_roundw
              case rel => exact ⟨j, by first | rfl | (rw [hj]), hj0, by omega, HU3, ⟨below_step HX.out hb5⟩⟩
              case measure => simp [intOf]; omega
          · have hd : decide (0 < q) = false := by simpa using hq
            have HL := Aside0.mk (show 0 < q → ltB (rd_T41 l0 i) (rd_T41 zs (q - 1)) = false from fun h => absurd h hq)
            clear hq
            go_upto_region 6 with (fail)
            refine quiet_b (by kernel_rfl) (by kernel_rfl) ?_
            repeat (with_reducible refine wpQuiet_step ?_; intro K hK; go_simp; first | (with_reducible apply Exists.intro; with_reducible refine ⟨fun _ => ?_, hK _ ?_⟩; (fail); clear hK K) | (with_reducible refine hK _ ?_; clear hK K) | (rw [if_neg (by decide)]; with_reducible refine hK _ ?_; clear hK K))
            with_reducible refine wpQuiet_nil ?_
            refine quiet_end ?_
            intro W5 hb5
            go_wp2
            go_meet
            case rel => exact ⟨q, rfl, hq0, hqn, HU, HL, ⟨below_step HX.out hb5⟩⟩
      case rest =>
        obtain ⟨q, rfl, hq0, hqn, HU, HL, HX⟩ := hcut
        obtain ⟨ad, e, hx0, hx1⟩ := at_T41 (Kd.C_below HR0.out (below_step HB.out HX.out)) i hi0 hlt
        cases e
        by_cases hA : ∃ j : Int, q - 1 = j ∧ 0 < q ∧ rd_T41 zs j = rd_T41 l0 i
        · obtain ⟨j, hj, hq, heq⟩ := hA
          have hj0 : 0 ≤ j := by omega
          have hj1 : j < (zs.length : Int) := by omega
          have hjw := iw64 (x := j) (by omega) (by omega)
          obtain ⟨ad', e', hy0, hy1⟩ := at_T41 (Kd.C_below (Kd.R_reads' HO.out).2.2 HX.out) j hj0 hj1
          cases e'
          have HIX := Aside0.mk (HI.out.skip hi0 hlt hj0 hj1 heq)
          rw [heq] at hy0 hy1
          have rx0 := BW.cell hx0
          have rx1 := BW.cell hx1
          have ry0 := BW.cell hy0
          have ry1 := BW.cell hy1
          clear hx0 hx1 hy0 hy1 heq
          generalize (rd_T41 l0 i).f0 = x at rx0 ry0
          generalize (rd_T41 l0 i).f1 = y at rx1 ry1
          have hyy : (x == x && y == y) = true := by simp
          go_upto_region 8 with (fail)
          refine quiet_b (by kernel_rfl) (by kernel_rfl) ?_
          repeat (with_reducible refine wpQuiet_step ?_; intro K hK; go_simp; first | (with_reducible apply Exists.intro; with_reducible refine ⟨fun _ => ?_, hK _ ?_⟩; (fail); clear hK K) | (with_reducible refine hK _ ?_; clear hK K) | (rw [if_neg (by decide)]; with_reducible refine hK _ ?_; clear hK K))
          with_reducible refine wpQuiet_nil ?_
          refine quiet_end ?_
          intro W5 hb5
          go_wp2
          go_roundw
          case rel => exact ⟨zs, i + 1, rfl, by omega, by omega, HIX, ⟨Kd.R_below HO.out (below_step HX.out hb5)⟩, ⟨below_step (below_step HB.out HX.out) hb5⟩⟩
          case measure => simp [intOf]; omega
        · have HLO := Aside0.mk (show 0 < q → ltB (rd_T41 zs (q - 1)) (rd_T41 l0 i) = true from fun hq => by
            rw [← Bool.not_eq_false]
            intro hf
            exact hA ⟨q - 1, rfl, hq, srt_eq _ _ hf (HL.out hq)⟩)
          have HNE := Aside0.mk (fun (j : Int) (hj : q - 1 = j) (hq : 0 < q) (e : rd_T41 zs j = rd_T41 l0 i) => hA ⟨j, hj, hq, e⟩)
          have HS := Aside0.mk (HI.out.put hi0 hlt hq0 hqn HU.out HLO.out)
          clear hA HL HU HLO
          go_upto_region 8 with (fail)
          obtain ⟨w8, rfl⟩ : ∃ w8 : World, w8 = wc := ⟨_, rfl⟩
          go_cut [44] (fun v44 wc2 => v44 = .bool false ∧ Aside0 (Below w8.heap.size w8 wc2))
          case first =>
            by_cases hq : 0 < q
            · obtain ⟨j, hj⟩ : ∃ j, q - 1 = j := ⟨_, rfl⟩
              have hj0 : 0 ≤ j := by omega
              have hj1 : j < (zs.length : Int) := by omega
              have hjw := iw64 (x := j) (by omega) (by omega)
              obtain ⟨ad', e', hy0, hy1⟩ := at_T41 (Kd.C_below (Kd.R_reads' HO.out).2.2 HX.out) j hj0 hj1
              cases e'
              have hyy : ((rd_T41 zs j).f0 == (rd_T41 l0 i).f0 && (rd_T41 zs j).f1 == (rd_T41 l0 i).f1) = false := by
                rw [Bool.eq_false_iff]
                intro h
                rw [Bool.and_eq_true, beq_iff_eq, beq_iff_eq] at h
                refine HNE.out j hj hq ?_
                rcases hz : rd_T41 zs j with ⟨a, b⟩
                rcases hl : rd_T41 l0 i with ⟨c, d⟩
                rw [hz, hl] at h
                rw [S41.mk.injEq]
                exact h
              have rx0 := BW.cell hx0
              have rx1 := BW.cell hx1
              have ry0 := BW.cell hy0
              have ry1 := BW.cell hy1
              clear hx0 hx1 hy0 hy1
              refine quiet_b (by kernel_rfl) (by kernel_rfl) ?_
              repeat (with_reducible refine wpQuiet_step ?_; intro K hK; go_simp; first | (with_reducible apply Exists.intro; with_reducible refine ⟨fun _ => ?_, hK _ ?_⟩; (fail); clear hK K) | (with_reducible refine hK _ ?_; clear hK K) | (rw [if_neg (by decide)]; with_reducible refine hK _ ?_; clear hK K))
              with_reducible refine wpQuiet_nil ?_
              refine quiet_end ?_
              intro W5 hb5
              go_wp2
              go_meet
              case rel => exact ⟨rfl, ⟨hb5⟩⟩
            · have hd : decide (0 < q) = false := by simpa using hq
              clear hq hx0 hx1
              refine quiet_b (by kernel_rfl) (by kernel_rfl) ?_
              repeat (with_reducible refine wpQuiet_step ?_; intro K hK; go_simp; first | (with_reducible apply Exists.intro; with_reducible refine ⟨fun _ => ?_, hK _ ?_⟩; (fail); clear hK K) | (with_reducible refine hK _ ?_; clear hK K) | (rw [if_neg (by decide)]; with_reducible refine hK _ ?_; clear hK K))
              with_reducible refine wpQuiet_nil ?_
              refine quiet_end ?_
              intro W5 hb5
              go_wp2
              go_meet
              case rel => exact ⟨rfl, ⟨hb5⟩⟩
          case rest =>
            obtain ⟨rfl, HX2⟩ := hcut
            obtain ⟨wc2, rfl⟩ : ∃ wc2 : World, wc2 = wc := ⟨_, rfl⟩
            clear hx0 hx1 HNE
            go_upto_region 9 with (fail)
            have HBC := Aside0.mk (below_step (below_step HB.out HX.out) HX2.out)
            have HOC := Aside0.mk (Kd.C_below (Kd.R_reads' HO.out).2.2 (below_step HX.out HX2.out))
            obtain ⟨ad2, e, hx0, hx1⟩ := at_T41 (Kd.C_below HR0.out HBC.out) i hi0 hlt
            cases e
            clear HX HX2 HB HO
            obtain ⟨i0, hi0', _, hsz, _⟩ := info_parts info41
            have hcutA := cut_to (P := Try.prog) 24 41 .i64 Try.underlying24 hi0' Az zs.length cz q hq0 hqn hcz
            have hcutB := cut_from (P := Try.prog) 24 41 .i64 Try.underlying24 hi0' 2 hsz Az zs.length cz q hq0 hqn
            obtain ⟨Ad9, hAd9⟩ : ∃ A1, A1 = (if cz = q.toNat then Az else Az.map (·.add (q.toNat * 2))) := ⟨_, rfl⟩
            obtain ⟨c9, hc9⟩ : ∃ c1, c1 = cz - q.toNat := ⟨_, rfl⟩
            obtain ⟨n9, hn9⟩ : ∃ n1, n1 = zs.length - q.toNat := ⟨_, rfl⟩
            rw [← hAd9, ← hc9, ← hn9] at hcutB
            have HCT := Aside0.mk (fun W (hb : Below wc2.heap.size wc2 W) => show Kd.C k41 W Az q.toNat (zs.take q.toNat) from by
              have := Kd.C_take (m := q.toNat) (Kd.C_below HOC.out hb) (by omega)
              rwa [List.length_take, Nat.min_eq_left (by omega)] at this)
            have HCD := Aside0.mk (fun W (hb : Below wc2.heap.size wc2 W) => show Kd.C k41 W Ad9 n9 (zs.drop q.toNat) from by
              have := Kd.C_drop (m := q.toNat) (Kd.C_below HOC.out hb) (by omega) hcz
              rw [List.length_drop] at this
              rw [hAd9, hn9]
              exact this)
            have HN9 := Aside0.mk hn9
            have HSW := Aside0.mk (fun W (hb : Below wc2.heap.size wc2 W) => show W.cell? (ad.add (i.toNat * 2)) = some (.int .i64 (rd_T41 l0 i).f0) ∧ W.cell? ⟨(ad.add (i.toNat * 2)).block, (ad.add (i.toNat * 2)).off + 1, none⟩ = some (.int .i64 (rd_T41 l0 i).f1) from ⟨BW.cell hx0 ⟨W, hb⟩, BW.cell hx1 ⟨W, hb⟩⟩)
            clear hi0' hsz hAd9 hc9 hn9
            have p30 : 0 ≤ i := hi0
            have q30 : i < (l0.length : Int) := hlt
            replace p30 := eq_true p30
            replace q30 := eq_true q30
            refine start_ (n := 16) (S := fun w' => w'.cell? (ad.add (i.toNat * 2)) = some (.int .i64 (rd_T41 l0 i).f0) ∧ w'.cell? ⟨(ad.add (i.toNat * 2)).block, (ad.add (i.toNat * 2)).off + 1, none⟩ = some (.int .i64 (rd_T41 l0 i).f1)) (ds := []) #[false, false, false, false, false, false, false, false, false, false, false, false, false, false, false, false] (by kernel_rfl) rfl rfl ⟨hx0, hx1⟩ (fun hHeld => ?_)
            refine with_tabW tab67 bits67 (fun HT_ HW_ => ?_)
            generalize hw9 : wc2.drew = w9 at hHeld ⊢
            have HD9 := Aside0.mk (show Below wc2.heap.size wc2 w9 by rw [← hw9]; exact below_drew1 (Below.refl _ _))
            clear hw9 hx0 hx1
            refine pure_ (i := 1) (N := some 46) (v := ?_) (a' := ?_) #[false, true, false, false, false, false, false, false, false, false, false, false, false, false, false, false] rfl rfl (any_of HT_.out (by kernel_rfl)) (fun _ _ _ h => h) (Or.inl ⟨by rfl, ?_⟩) ?_ ?_
            rotate_left
            · intro w'
              go_simp
              with_reducible rfl
            rotate_left
            · simp only [Act.put, List.setIfInBounds_toArray, List.set_cons_zero, List.set_cons_succ, i64_w, i32_w]
              rfl
            refine pure_ (i := 2) (N := some 47) (v := ?_) (a' := ?_) #[false, true, true, false, false, false, false, false, false, false, false, false, false, false, false, false] rfl rfl (any_of HT_.out (by kernel_rfl)) (fun _ _ _ h => h) (Or.inl ⟨by rfl, ?_⟩) ?_ ?_
            rotate_left
            · intro w'
              go_simp
              with_reducible rfl
            rotate_left
            · simp only [Act.put, List.setIfInBounds_toArray, List.set_cons_zero, List.set_cons_succ, i64_w, i32_w]
              rfl
            refine pure_ (i := 3) (N := some 48) (v := ?_) (a' := ?_) #[false, true, true, true, false, false, false, false, false, false, false, false, false, false, false, false] rfl rfl (any_of HT_.out (by kernel_rfl)) (fun _ _ _ h => h) (Or.inl ⟨by rfl, ?_⟩) ?_ ?_
            rotate_left
            · intro w'
              go_simp
              with_reducible rfl
            rotate_left
            · simp only [Act.put, List.setIfInBounds_toArray, List.set_cons_zero, List.set_cons_succ, i64_w, i32_w]
              rfl
            refine pure_ (i := 5) (N := some 50) (v := ?_) (a' := ?_) #[false, true, true, true, false, true, false, false, false, false, false, false, false, false, false, false] rfl rfl (any_of HT_.out (by kernel_rfl)) (fun _ _ _ h => h) (Or.inl ⟨by rfl, ?_⟩) ?_ ?_
            rotate_left
            · intro w'
              go_simp
              with_reducible rfl
            rotate_left
            · simp only [Act.put, List.setIfInBounds_toArray, List.set_cons_zero, List.set_cons_succ, i64_w, i32_w]
              rfl
            refine pure_ (i := 6) (N := some 51) (v := ?_) (a' := ?_) #[false, true, true, true, false, true, true, false, false, false, false, false, false, false, false, false] rfl rfl (any_of HT_.out (by kernel_rfl)) (fun _ _ _ h => h) (Or.inl ⟨by rfl, ?_⟩) ?_ ?_
            rotate_left
            · intro w'
              go_simp
              with_reducible rfl
            rotate_left
            · simp only [Act.put, List.setIfInBounds_toArray, List.set_cons_zero, List.set_cons_succ, i64_w, i32_w]
              rfl
            refine pure_ (i := 7) (N := some 52) (v := ?_) (a' := ?_) #[false, true, true, true, false, true, true, true, false, false, false, false, false, false, false, false] rfl rfl (any_of HT_.out (by kernel_rfl)) (fun _ _ _ h => h) (Or.inl ⟨by rfl, ?_⟩) ?_ ?_
            rotate_left
            · intro w'
              go_simp
              with_reducible rfl
            rotate_left
            · simp only [Act.put, List.setIfInBounds_toArray, List.set_cons_zero, List.set_cons_succ, i64_w, i32_w]
              rfl
            refine take_ (i := 8) (N := some 53) (v := ?_) (a' := ?_) #[false, true, true, true, false, true, true, true, true, false, false, false, false, false, false, false] rfl rfl (take_ofW HT_.out HW_.out (by kernel_rfl)) (fun _ _ _ h => h) (Or.inl ⟨by rfl, ?_⟩) hHeld ?_ ?_
            rotate_left
            · rintro w' ⟨s0, s1⟩
              go_simp
              with_reducible rfl
            rotate_left
            · simp only [Act.put, List.setIfInBounds_toArray, List.set_cons_zero, List.set_cons_succ, i64_w, i32_w]
              rfl
            refine pure_ (i := 11) (N := some 56) (v := ?_) (a' := ?_) #[false, true, true, true, false, true, true, true, true, false, false, true, false, false, false, false] rfl rfl (any_of HT_.out (by kernel_rfl)) (fun _ _ _ h => h) (Or.inl ⟨by rfl, ?_⟩) ?_ ?_
            rotate_left
            · intro w'
              go_simp
              with_reducible rfl
            rotate_left
            · simp only [Act.put, List.setIfInBounds_toArray, List.set_cons_zero, List.set_cons_succ, i64_w, i32_w]
              rfl
            refine pure_ (i := 12) (N := some 57) (v := ?_) (a' := ?_) #[false, true, true, true, false, true, true, true, true, false, false, true, true, false, false, false] rfl rfl (any_of HT_.out (by kernel_rfl)) (fun _ _ _ h => h) (Or.inl ⟨by rfl, ?_⟩) ?_ ?_
            rotate_left
            · intro w'
              go_simp
              with_reducible rfl
            rotate_left
            · simp only [Act.put, List.setIfInBounds_toArray, List.set_cons_zero, List.set_cons_succ, i64_w, i32_w]
              rfl
            refine pure_ (i := 13) (N := some 58) (v := ?_) (a' := ?_) #[false, true, true, true, false, true, true, true, true, false, false, true, true, true, false, false] rfl rfl (any_of HT_.out (by kernel_rfl)) (fun _ _ _ h => h) (Or.inl ⟨by rfl, ?_⟩) ?_ ?_
            rotate_left
            · intro w'
              go_simp
              with_reducible rfl
            rotate_left
            · simp only [Act.put, List.setIfInBounds_toArray, List.set_cons_zero, List.set_cons_succ, i64_w, i32_w]
              rfl
            refine join_ (σ := Value × Value × Nat) 3 #[true, true, true, true, true, true, true, true, true, true, false, true, true, true, false, false] (fun s => [(45, s.1), (49, s.2.1), (54, .slice (some ⟨s.2.2, 0, none⟩) 1 1)]) (fun s w' => Kd.R k41 41 w' wc2.heap.size (fun k => k ≠ s.2.2) s.2.1 (zs.take q.toNat) ∧ Kd.C k41 w' (some ⟨s.2.2, 0, none⟩) 1 [rd_T41 l0 i] ∧ Below wc2.heap.size wc2 w' ∧ s.2.2 < w'.heap.size) ?cont ?walk
            case cont =>
              rintro ⟨v45, v49, gl⟩ w54 ⟨ho49, hca, hba, hlt9⟩
              simp only at ho49 hca hlt9
              refine norm_ (a' := ?_) ?_ ?_
              rotate_left
              · simp only [putAll, Act.put, List.setIfInBounds_toArray, List.set_cons_zero, List.set_cons_succ]
                rfl
              refine one_ (i := 10) (N := some 55) #[true, true, true, true, true, true, true, true, true, true, true, true, true, true, false, false] rfl rfl (one_of HT_.out (by kernel_rfl)) (by decide) (fun K hK => ?_)
              refine Kd.R_append_rows_step k41 (Rr := k41.K _) wc2.heap.size (by rfl) (.tmp 49) (.tmp 54) 24 41 (.agg #[(.int .i64 0), (.int .i64 0)]) 16 rfl Try.underlying24 info41 rfl (by decide) (by omega) v49 (zs.take q.toNat) [rd_T41 l0 i] (some ⟨gl, 0, none⟩) 1 1 (fun k => k ≠ gl) (fun _ => False) (by rfl) (by rfl) ho49 hca (fun x cs hc => by rw [k41_open hc]; exact k41_mkM _ _ _ _) (fun _ h => h.elim) (fun k hk => by omega) hba hba.size (by rw [List.length_take]; omega) ?_
              intro v55 w55 ho55 hb55 hg55 hat55
              refine hK.out _ _ (HSW.out _ hb55) (fun hHeld => ?_)
              clear hK K
              refine norm_ (a' := ?_) ?_ ?_
              rotate_left
              · show Act.put _ (some 55) _ = _
                simp only [Act.put, List.setIfInBounds_toArray, List.set_cons_zero, List.set_cons_succ]
                rfl
              have hlt5 : gl < w55.heap.size := by have := hg55.size; omega
              refine one_ (i := 14) (N := some 59) #[true, true, true, true, true, true, true, true, true, true, true, true, true, true, true, false] rfl rfl (one_of HT_.out (by kernel_rfl)) (by decide) (fun K hK => ?_)
              refine Kd.R_append_rows_step k41 (Rr := k41.K _) wc2.heap.size (by rfl) (.tmp 55) (.tmp 58) 24 41 (.agg #[(.int .i64 0), (.int .i64 0)]) 16 rfl Try.underlying24 info41 rfl (by decide) (by omega) v55 (zs.take q.toNat ++ [rd_T41 l0 i]) (zs.drop q.toNat) Ad9 n9 c9 (fun k => k ≠ gl) (fun _ => False) (by rfl) (by rfl) ho55 (HCD.out _ hb55) (fun x cs hc => by rw [k41_open hc]; exact k41_mkM _ _ _ _) (fun _ h => h.elim) (fun k hk => by omega) hb55 hb55.size (by rw [List.length_append, List.length_take, HN9.out]; simp only [List.length_cons, List.length_nil]; omega) ?_
              intro v59 w59 ho59 hb59 hg59 hat59
              refine hK.out _ _ (HSW.out _ hb59) (fun hHeld => ?_)
              clear hK K
              refine norm_ (a' := ?_) ?_ ?_
              rotate_left
              · show Act.put _ (some 59) _ = _
                simp only [Act.put, List.setIfInBounds_toArray, List.set_cons_zero, List.set_cons_succ]
                rfl
              refine pure_ (i := 15) (N := some 3) (v := ?_) (a' := ?_) #[true, true, true, true, true, true, true, true, true, true, true, true, true, true, true, true] rfl rfl (any_of HT_.out (by kernel_rfl)) (fun _ _ _ h => h) (Or.inl ⟨by rfl, ?_⟩) ?_ ?_
              rotate_left
              · intro w'
                go_simp
                with_reducible rfl
              rotate_left
              · simp only [Act.put, List.setIfInBounds_toArray, List.set_cons_zero, List.set_cons_succ, i64_w, i32_w]
                rfl
              refine done_ (done_of HT_.out (by kernel_rfl)) ?_
              go_wp2
              go_roundw
              case rel => exact ⟨_, i + 1, rfl, by omega, by omega, HS, ⟨Kd.R_mono (Kd.R_lower ho59 HBC.out.size) (fun _ _ => trivial)⟩, ⟨below_step HBC.out hb59⟩⟩
              case measure => simp [intOf]; omega
            case walk =>
              intro hcont
              refine two_ (i := 0) (j := 9) (Ni := some 45) (Nj := some 54) #[true, true, true, true, false, true, true, true, true, false, false, true, true, true, false, false] #[false, true, true, true, false, true, true, true, true, true, false, true, true, true, false, false] rfl rfl rfl rfl (two_of HT_.out (by kernel_rfl)) (by decide) (by decide) (fun K hK => ?_) (fun K hK => ?_)
              · refine Kd.R_lit_step k41 wc2.heap.size 41 (by rfl) (N := 45) rfl (xs := []) (inner := []) (ok := fun _ => True) (okp := fun _ => False) ?hra (Reps.none _ _) (fun _ h => h.elim) trivial HD9.out HD9.out.size (by simp) ?_
                case hra => first | (go_simp; done) | (go_simp; rfl)
                intro v45 w45 ho45 hb45 hg45 hnew45
                refine hK.out _ _ (HSW.out _ hb45) (fun hHeld => ?_)
                clear hK K
                refine norm_ (a' := ?_) ?_ ?_
                rotate_left
                · show Act.put _ (some 45) _ = _
                  simp only [Act.put, List.setIfInBounds_toArray, List.set_cons_zero, List.set_cons_succ]
                  rfl
                refine two_ (i := 4) (j := 9) (Ni := some 49) (Nj := some 54) #[true, true, true, true, true, true, true, true, true, false, false, true, true, true, false, false] #[true, true, true, true, false, true, true, true, true, true, false, true, true, true, false, false] rfl rfl rfl rfl (two_of HT_.out (by kernel_rfl)) (by decide) (by decide) (fun K hK => ?_) (fun K hK => ?_)
                · refine Kd.R_append_rows_step k41 (Rr := k41.K _) wc2.heap.size (by rfl) (.tmp 45) (.tmp 48) 24 41 (.agg #[(.int .i64 0), (.int .i64 0)]) 16 rfl Try.underlying24 info41 rfl (by decide) (by omega) v45 [] (zs.take q.toNat) Az q.toNat cz (fun _ => True) (fun _ => False) (by rfl) (by rfl) (ho45) (HCT.out _ hb45) (fun x cs hc => by rw [k41_open hc]; exact k41_mkM _ _ _ _) (fun _ h => h.elim) (fun _ _ => trivial) hb45 hb45.size (by simp only [List.length_nil]; omega) ?_
                  intro v49 w49 ho49 hb49 hg49 hat49
                  refine hK.out _ _ (HSW.out _ hb49) (fun hHeld => ?_)
                  clear hK K
                  refine norm_ (a' := ?_) ?_ ?_
                  rotate_left
                  · show Act.put _ (some 49) _ = _
                    simp only [Act.put, List.setIfInBounds_toArray, List.set_cons_zero, List.set_cons_succ]
                    rfl
                  refine one_ (i := 9) (N := some 54) #[true, true, true, true, true, true, true, true, true, true, false, true, true, true, false, false] rfl rfl (one_of HT_.out (by kernel_rfl)) (by decide) (fun K hK => ?_)
                  refine event_step (w1 := w49.alloc (.cells #[.int .i64 (rd_T41 l0 i).f0, .int .i64 (rd_T41 l0 i).f1] 41)) (v := .slice (some ⟨w49.heap.size, 0, none⟩) 1 1) (by rfl) ?hrb ?_
                  case hrb => first | (go_simp; done) | (go_simp; rfl)
                  have hba := below_alloc hb49 (.cells #[.int .i64 (rd_T41 l0 i).f0, .int .i64 (rd_T41 l0 i).f1] 41)
                  have hca := C_one w49 (rd_T41 l0 i)
                  have hsa : (w49.alloc (.cells #[.int .i64 (rd_T41 l0 i).f0, .int .i64 (rd_T41 l0 i).f1] 41)).heap.size = w49.heap.size + 1 := size_alloc1 _ _
                  refine hK.out _ _ (HSW.out _ hba) (fun hHeld => ?_)
                  clear hK K
                  refine norm_ (a' := _) ?_ (hcont (v45, v49, w49.heap.size) _ ⟨Kd.R_below (Kd.R_mono (Kd.R_bound ho49) (fun k hk => Nat.ne_of_lt hk.2.2.1)) (below_alloc (Below.refl _ _) _), hca, hba, by show w49.heap.size < _; rw [hsa]; omega⟩)
                  show Act.put _ (some 54) _ = _
                  simp only [putAll, Act.put, List.setIfInBounds_toArray, List.set_cons_zero, List.set_cons_succ]
                · refine event_step (w1 := w45.alloc (.cells #[.int .i64 (rd_T41 l0 i).f0, .int .i64 (rd_T41 l0 i).f1] 41)) (v := .slice (some ⟨w45.heap.size, 0, none⟩) 1 1) (by rfl) ?hrc ?_
                  case hrc => first | (go_simp; done) | (go_simp; rfl)
                  have hba := below_alloc hb45 (.cells #[.int .i64 (rd_T41 l0 i).f0, .int .i64 (rd_T41 l0 i).f1] 41)
                  have hca := C_one w45 (rd_T41 l0 i)
                  have hsa : (w45.alloc (.cells #[.int .i64 (rd_T41 l0 i).f0, .int .i64 (rd_T41 l0 i).f1] 41)).heap.size = w45.heap.size + 1 := size_alloc1 _ _
                  refine hK.out _ _ (HSW.out _ hba) (fun hHeld => ?_)
                  clear hK K
                  have hob := Kd.R_below (Kd.R_mono (Kd.R_bound ho45) (fun k hk => Nat.ne_of_lt hk.2.2.1)) (below_alloc (Below.refl w45.heap.size w45) (.cells #[.int .i64 (rd_T41 l0 i).f0, .int .i64 (rd_T41 l0 i).f1] 41))
                  generalize hW : w45.alloc (.cells #[.int .i64 (rd_T41 l0 i).f0, .int .i64 (rd_T41 l0 i).f1] 41) = w54 at hba hca hsa hob hHeld ⊢
                  generalize hgl : w45.heap.size = gl at hca hsa hob ⊢
                  refine norm_ (a' := ?_) ?_ ?_
                  rotate_left
                  · show Act.put _ (some 54) _ = _
                    simp only [Act.put, List.setIfInBounds_toArray, List.set_cons_zero, List.set_cons_succ]
                    rfl
                  refine one_ (i := 4) (N := some 49) #[true, true, true, true, true, true, true, true, true, true, false, true, true, true, false, false] rfl rfl (one_of HT_.out (by kernel_rfl)) (by decide) (fun K hK => ?_)
                  refine Kd.R_append_rows_step k41 (Rr := k41.K _) wc2.heap.size (by rfl) (.tmp 45) (.tmp 48) 24 41 (.agg #[(.int .i64 0), (.int .i64 0)]) 16 rfl Try.underlying24 info41 rfl (by decide) (by omega) v45 [] (zs.take q.toNat) Az q.toNat cz (fun k => k ≠ gl) (fun _ => False) (by rfl) (by rfl) (hob) (HCT.out _ hba) (fun x cs hc => by rw [k41_open hc]; exact k41_mkM _ _ _ _) (fun _ h => h.elim) (fun k hk => by omega) hba hba.size (by simp only [List.length_nil]; omega) ?_
                  intro v49 w49 ho49 hb49 hg49 hat49
                  refine hK.out _ _ (HSW.out _ hb49) (fun hHeld => ?_)
                  clear hK K
                  refine norm_ (a' := _) ?_ (hcont (v45, v49, gl) _ ⟨ho49, C_gr hca hg49 (fun ad' e _ h => by cases e; exact hob.1 _ h.symm rfl), hb49, by show gl < _; have := hg49.size; omega⟩)
                  show Act.put _ (some 49) _ = _
                  simp only [putAll, Act.put, List.setIfInBounds_toArray, List.set_cons_zero, List.set_cons_succ]
              · refine event_step (w1 := w9.alloc (.cells #[.int .i64 (rd_T41 l0 i).f0, .int .i64 (rd_T41 l0 i).f1] 41)) (v := .slice (some ⟨w9.heap.size, 0, none⟩) 1 1) (by rfl) ?hrd ?_
                case hrd => first | (go_simp; done) | (go_simp; rfl)
                have hba := below_alloc HD9.out (.cells #[.int .i64 (rd_T41 l0 i).f0, .int .i64 (rd_T41 l0 i).f1] 41)
                have hca := C_one w9 (rd_T41 l0 i)
                have hsa : (w9.alloc (.cells #[.int .i64 (rd_T41 l0 i).f0, .int .i64 (rd_T41 l0 i).f1] 41)).heap.size = w9.heap.size + 1 := size_alloc1 _ _
                refine hK.out _ _ (HSW.out _ hba) (fun hHeld => ?_)
                clear hK K
                generalize hW : w9.alloc (.cells #[.int .i64 (rd_T41 l0 i).f0, .int .i64 (rd_T41 l0 i).f1] 41) = w54 at hba hca hsa hHeld ⊢
                generalize hgl : w9.heap.size = gl at hca hsa ⊢
                refine norm_ (a' := ?_) ?_ ?_
                rotate_left
                · show Act.put _ (some 54) _ = _
                  simp only [Act.put, List.setIfInBounds_toArray, List.set_cons_zero, List.set_cons_succ]
                  rfl
                refine one_ (i := 0) (N := some 45) #[true, true, true, true, false, true, true, true, true, true, false, true, true, true, false, false] rfl rfl (one_of HT_.out (by kernel_rfl)) (by decide) (fun K hK => ?_)
                refine Kd.R_lit_step k41 wc2.heap.size 41 (by rfl) (N := 45) rfl (xs := []) (inner := []) (ok := fun k => k ≠ gl) (okp := fun _ => False) ?hre (Reps.none _ _) (fun _ h => h.elim) (by omega) hba hba.size (by simp) ?_
                case hre => first | (go_simp; done) | (go_simp; rfl)
                intro v45 w45 ho45 hb45 hg45 hnew45
                refine hK.out _ _ (HSW.out _ hb45) (fun hHeld => ?_)
                clear hK K
                refine norm_ (a' := ?_) ?_ ?_
                rotate_left
                · show Act.put _ (some 45) _ = _
                  simp only [Act.put, List.setIfInBounds_toArray, List.set_cons_zero, List.set_cons_succ]
                  rfl
                have hca := C_gr hca hg45 (fun _ _ _ h => by cases h)
                have hgs := hg45.size
                refine one_ (i := 4) (N := some 49) #[true, true, true, true, true, true, true, true, true, true, false, true, true, true, false, false] rfl rfl (one_of HT_.out (by kernel_rfl)) (by decide) (fun K hK => ?_)
                refine Kd.R_append_rows_step k41 (Rr := k41.K _) wc2.heap.size (by rfl) (.tmp 45) (.tmp 48) 24 41 (.agg #[(.int .i64 0), (.int .i64 0)]) 16 rfl Try.underlying24 info41 rfl (by decide) (by omega) v45 [] (zs.take q.toNat) Az q.toNat cz (fun k => k ≠ gl) (fun _ => False) (by rfl) (by rfl) (ho45) (HCT.out _ hb45) (fun x cs hc => by rw [k41_open hc]; exact k41_mkM _ _ _ _) (fun _ h => h.elim) (fun k hk => by omega) hb45 hb45.size (by simp only [List.length_nil]; omega) ?_
                intro v49 w49 ho49 hb49 hg49 hat49
                refine hK.out _ _ (HSW.out _ hb49) (fun hHeld => ?_)
                clear hK K
                refine norm_ (a' := _) ?_ (hcont (v45, v49, gl) _ ⟨ho49, C_gr hca hg49 (fun ad' e _ h => by cases e; exact ho45.1 _ h.symm rfl), hb49, by show gl < _; have := hg49.size; omega⟩)
                show Act.put _ (some 49) _ = _
                simp only [putAll, Act.put, List.setIfInBounds_toArray, List.set_cons_zero, List.set_cons_succ]
    · have HV := Aside0.mk (show zs = srt l0 from (show SI l0 l0.length zs by rw [← show i = (l0.length : Int) by omega]; exact HI.out).done)
      go_wp2
      go_ret
      exact ⟨_, rfl, by rw [← HV.out]; exact HO.out, HB.out⟩
end Go.Proofs.Ytlohfeicfhmlmaa.PFnOutlines

namespace Go.Proofs.Ytlohfeicfhmlmaa.PFnOutlines
open Go.RowKit Go.Proofs.YtlohfeicfhmlmaaW.PrintWords Go.Proofs.YtlohfeicfhmlmaaW.PrintLast Go.Proofs.YtlohfeicfhmlmaaW.PrintMore
attribute [local go_sem] max2_int min2_int max_two min_two max_three min_three max_four min_four   -- for this text's walks alone
set_option linter.unusedVariables false
set_option linter.unusedSimpArgs false
def spec_IsShape.f (l0 : List (S41)) : Option (Bool) := some (isShapeB l0)
theorem spec_IsShape.calls (A0 : Option Addr) (c0 : Nat) (l0 : List (S41)) (r : Bool) (w : World) (hr0 : Kd.C k41 w A0 l0.length l0) (hc0 : l0.length ≤ c0) (h : spec_IsShape.f l0 = some r) :
    Calls Try.prog 23 #[.slice A0 l0.length c0] w fun e w' => e = .returned (.bool r) ∧ Below w.heap.size w w' := by
  cases h
  exact sIsShape A0 c0 l0 w hr0 hc0
def impl_IsShape.f (l0 : List (S41)) : Option (Bool) := some (isShapeB l0)
theorem impl_IsShape.calls (A0 : Option Addr) (c0 : Nat) (l0 : List (S41)) (r : Bool) (w : World) (hr0 : Kd.C k41 w A0 l0.length l0) (hc0 : l0.length ≤ c0) (h : impl_IsShape.f l0 = some r) :
    Calls Try.prog 32 #[.slice A0 l0.length c0] w fun e w' => e = .returned (.bool r) ∧ Below w.heap.size w w' := by
  cases h
  exact iIsShape A0 c0 l0 w hr0 hc0
def spec_HasCell.f (l0 : List (S41)) (a1 : Int) (a2 : Int) : Option (Bool) := some (hasB l0 a1 a2)
theorem spec_HasCell.calls (A0 : Option Addr) (c0 : Nat) (l0 : List (S41)) (a1 : Int) (a2 : Int) (r : Bool) (w : World) (hr0 : Kd.C k41 w A0 l0.length l0) (hc0 : l0.length ≤ c0) (h : spec_HasCell.f l0 a1 a2 = some r) :
    Calls Try.prog 40 #[.slice A0 l0.length c0, .int .i64 a1, .int .i64 a2] w fun e w' => e = .returned (.bool r) ∧ Drawn0 w w' := by
  cases h
  exact sHas A0 c0 l0 a1 a2 w hr0 hc0
mutual
def spec_l2Corner.l0 : Nat → List (S41) → List (S41) → Int → Int → Int → Option ((List (S41)))
  | 0, _, _, _, _, _ => none
  | k + 1, x0, x3, x4, x5, x6 => if x6 < (x0.length : Int) then (if x6 = 0 then (spec_l2Corner.j1 k x0 x3 x4 x5 x6 true) else (if 0 ≤ x6 then (spec_l2Corner.j1 k x0 x3 x4 x5 x6 (decide (((rd_T41 x0 x6).f0) < x4))) else (none))) else (spec_l2Corner.l1 k x0 x3 x4 x5 0)
def spec_l2Corner.j1 : Nat → List (S41) → List (S41) → Int → Int → Int → Bool → Option ((List (S41)))
  | 0, _, _, _, _, _, _ => none
  | k + 1, x0, x3, x4, x5, x6, x25 => if x25 = true then (if 0 ≤ x6 then (if x6 < (x0.length : Int) then (if x6 = 0 then (spec_l2Corner.l0 k x0 x3 ((rd_T41 x0 x6).f0) ((rd_T41 x0 x6).f1) (wrap64 (x6 + 1))) else (if ((rd_T41 x0 x6).f1) < x5 then (spec_l2Corner.l0 k x0 x3 ((rd_T41 x0 x6).f0) ((rd_T41 x0 x6).f1) (wrap64 (x6 + 1))) else (spec_l2Corner.l0 k x0 x3 ((rd_T41 x0 x6).f0) x5 (wrap64 (x6 + 1))))) else (none)) else (none)) else (if x6 = 0 then (if 0 ≤ x6 then (if x6 < (x0.length : Int) then (spec_l2Corner.l0 k x0 x3 x4 ((rd_T41 x0 x6).f1) (wrap64 (x6 + 1))) else (none)) else (none)) else (if 0 ≤ x6 then (if x6 < (x0.length : Int) then (if ((rd_T41 x0 x6).f1) < x5 then (spec_l2Corner.l0 k x0 x3 x4 ((rd_T41 x0 x6).f1) (wrap64 (x6 + 1))) else (spec_l2Corner.l0 k x0 x3 x4 x5 (wrap64 (x6 + 1)))) else (none)) else (none)))
def spec_l2Corner.l1 : Nat → List (S41) → List (S41) → Int → Int → Int → Option ((List (S41)))
  | 0, _, _, _, _, _ => none
  | k + 1, x0, x3, x4, x5, x7 => if x7 < (x0.length : Int) then (if 0 ≤ x7 then (if x3.length < 8796093022208 then (spec_l2Corner.l1 k x0 (x3 ++ [(⟨wrap64 (((rd_T41 x0 x7).f0) - x4), wrap64 (((rd_T41 x0 x7).f1) - x5)⟩ : S41)]) x4 x5 (wrap64 (x7 + 1))) else (none)) else (none)) else (some x3)
end
def spec_l2Corner.f (k : Nat) (l0 : List (S41)) : Option ((List (S41))) := spec_l2Corner.l0 k l0 (([] : List (S41))) 0 0 0
theorem spec_l2Corner.mono_l : ∀ k, (∀ y0 y1 y2 y3 y4, LeO (spec_l2Corner.l0 k y0 y1 y2 y3 y4) (spec_l2Corner.l0 (k + 1) y0 y1 y2 y3 y4)) ∧ (∀ y0 y1 y2 y3 y4 y5, LeO (spec_l2Corner.j1 k y0 y1 y2 y3 y4 y5) (spec_l2Corner.j1 (k + 1) y0 y1 y2 y3 y4 y5)) ∧ (∀ y0 y1 y2 y3 y4, LeO (spec_l2Corner.l1 k y0 y1 y2 y3 y4) (spec_l2Corner.l1 (k + 1) y0 y1 y2 y3 y4))
  | 0 => ⟨fun _ _ _ _ _ r h => by simp [spec_l2Corner.l0] at h, fun _ _ _ _ _ _ r h => by simp [spec_l2Corner.j1] at h, fun _ _ _ _ _ r h => by simp [spec_l2Corner.l1] at h⟩
  | k + 1 => by
    obtain ⟨ih0, ih1, ih2⟩ := spec_l2Corner.mono_l k
    refine ⟨?_, ?_, ?_⟩
    · intro y0 y1 y2 y3 y4
      unfold spec_l2Corner.l0
      repeat' first
      | (with_reducible exact ih0 _ _ _ _ _)
      | (with_reducible exact ih1 _ _ _ _ _ _)
      | (with_reducible exact ih2 _ _ _ _ _)
      | (with_reducible exact LeO.refl _)
      | (with_reducible exact LeO.none _)
      | (with_reducible refine LeO.ite ?_ ?_)
      | (with_reducible refine LeO.bind ?_ (fun _ => ?_))
      | exact ih0 _ _ _ _ _
      | exact ih1 _ _ _ _ _ _
      | exact ih2 _ _ _ _ _
      | exact LeO.none _
      | refine LeO.ite ?_ ?_
      | refine LeO.bind ?_ (fun _ => ?_)
    · intro y0 y1 y2 y3 y4 y5
      unfold spec_l2Corner.j1
      repeat' first
      | (with_reducible exact ih0 _ _ _ _ _)
      | (with_reducible exact ih1 _ _ _ _ _ _)
      | (with_reducible exact ih2 _ _ _ _ _)
      | (with_reducible exact LeO.refl _)
      | (with_reducible exact LeO.none _)
      | (with_reducible refine LeO.ite ?_ ?_)
      | (with_reducible refine LeO.bind ?_ (fun _ => ?_))
      | exact ih0 _ _ _ _ _
      | exact ih1 _ _ _ _ _ _
      | exact ih2 _ _ _ _ _
      | exact LeO.none _
      | refine LeO.ite ?_ ?_
      | refine LeO.bind ?_ (fun _ => ?_)
    · intro y0 y1 y2 y3 y4
      unfold spec_l2Corner.l1
      repeat' first
      | (with_reducible exact ih0 _ _ _ _ _)
      | (with_reducible exact ih1 _ _ _ _ _ _)
      | (with_reducible exact ih2 _ _ _ _ _)
      | (with_reducible exact LeO.refl _)
      | (with_reducible exact LeO.none _)
      | (with_reducible refine LeO.ite ?_ ?_)
      | (with_reducible refine LeO.bind ?_ (fun _ => ?_))
      | exact ih0 _ _ _ _ _
      | exact ih1 _ _ _ _ _ _
      | exact ih2 _ _ _ _ _
      | exact LeO.none _
      | refine LeO.ite ?_ ?_
      | refine LeO.bind ?_ (fun _ => ?_)
theorem spec_l2Corner.mono : ∀ a0 k, LeO (spec_l2Corner.f k a0) (spec_l2Corner.f (k + 1) a0) := by
  intro a0 k
  obtain ⟨ih0, ih1, ih2⟩ := spec_l2Corner.mono_l k
  unfold spec_l2Corner.f
  repeat' first
      | (with_reducible exact ih0 _ _ _ _ _)
      | (with_reducible exact ih1 _ _ _ _ _ _)
      | (with_reducible exact ih2 _ _ _ _ _)
      | (with_reducible exact LeO.refl _)
      | (with_reducible exact LeO.none _)
      | (with_reducible refine LeO.ite ?_ ?_)
      | (with_reducible refine LeO.bind ?_ (fun _ => ?_))
      | exact ih0 _ _ _ _ _
      | exact ih1 _ _ _ _ _ _
      | exact ih2 _ _ _ _ _
      | exact LeO.none _
      | refine LeO.ite ?_ ?_
      | refine LeO.bind ?_ (fun _ => ?_)
def spec_l2Corner.T14 : Bool × List (List Nat × List Nat) := (true, [([], []), ([], []), ([], []), ([1, 2], [1, 2]), ([3], [3]), ([4], [4]), ([], []), ([5, 6], [5, 6]), ([], []), ([], []), ([8, 9], [8, 9]), ([10], [10]), ([11], [11]), ([], []), ([12, 13], [12, 13]), ([7, 14], [7, 14]), ([15], [15]), ([0, 16], [0, 16]), ([17, 17, 0, 1, 2, 3, 4, 5, 6, 7, 8, 9, 10, 11, 12, 13, 14, 15, 16, 17], [0, 17])])
def spec_l2Corner.B14 : List Nat := [0, 0, 0, 6, 14, 30, 0, 126, 0, 0, 768, 1792, 3840, 0, 16128, 32766, 65534, 131071, 262143]
theorem spec_l2Corner.tab14 : rtab .any (opsOf Try.f53 14) = spec_l2Corner.T14 := by kernel_rfl
theorem spec_l2Corner.bits14 : waitsOk spec_l2Corner.T14.2 spec_l2Corner.B14 = true := by kernel_rfl
set_option maxHeartbeats 8000000 in
set_option maxRecDepth 100000 in
theorem spec_l2Corner.calls (k : Nat) (A0 : Option Addr) (c0 : Nat) (l0 : List (S41)) (r : List (S41)) (w : World) (hr0 : Kd.C k41 w A0 l0.length l0) (hc0 : l0.length ≤ c0) (h : spec_l2Corner.f k l0 = some r) :
    Calls Try.prog 53 #[.slice A0 l0.length c0] w fun e w' => ∃ v0_ : Value, e = .returned (v0_) ∧ Kd.R k41 41 w' w.heap.size (fun _ => True) v0_ r ∧ Below w.heap.size w w' := by
  have hu41 := Try.underlying41
  have HR0 := Aside0.mk hr0
  have HC0 := Aside0.mk hc0
  clear hr0 hc0
  have HB := Aside0.mk (Below.refl w.heap.size w)
  have H : (spec_l2Corner.l0 k l0 (([] : List (S41))) 0 0 0) = some r := h
  clear h
  obtain ⟨y120, hy120⟩ : ∃ y_ : List (S41), y_ = (([] : List (S41))) := ⟨_, rfl⟩
  replace H : (spec_l2Corner.l0 k l0 y120 0 0 0) = some r := by first | (rw [hy120]; with_reducible exact H) | (have H2_ := (Option.bind_some _ _).symm.trans H; rw [hy120]; with_reducible exact H2_) | (have H2_ := (Option.bind_some _ _).symm.trans H; with_reducible exact H2_) | with_reducible exact H | (rw [hy120]; exact H) | exact H
  have Ny120 := Aside0.mk hy120
  clear hy120
  have H' := Aside0.mk H
  clear H
  go_enter Try.func53, Try.ntmps53
  go_wp2_with (first | ((with_reducible refine gate_dst (N := 8) rfl ?_); refine Kd.R_lit k41 _ 41 ?hg (N := 8) ?hd (xs := ([] : List (S41))) (inner := []) (ok := fun _ => True) (okp := fun _ => True) ?hr ?hp (fun _ hk => hk) trivial (Below.refl _ _) (Nat.le_refl _) (by simp) ?_; (case hd => rfl); (case hg => rfl); (case hr => first | (go_simp; done) | (go_simp; rfl)); (case hp => exact (Reps.none _ _)); intro v121 w2 ho3 hb hg_ hnew_; clear hg_ hnew_; (first | rw [← Ny120.out] at ho3 | (simp only [Int.reduceToNat] at ho3; rw [← Ny120.out] at ho3)); have n0_ := Aside0.mk (Kd.R_lower ho3 (below_size (by repeat (first | (with_reducible first | exact HB.out | apply below_alloc | apply pw_below_drewN | apply below_drew1) | exact HB.out)))); have n1_ := Aside0.mk (below_step (by repeat (first | (with_reducible first | exact HB.out | apply below_alloc | apply pw_below_drewN | apply below_drew1) | exact HB.out)) hb); clear HB; have HO122 := n0_; have HB := n1_; clear n0_ n1_; clear hb ho3))
  go_loopg [4, 5, 6] k (fun kq v4 v5 v6 w' => ∃ (x4_1 : Int) (x5_1 : Int) (x6_1 : Int), v4 = .int .i64 x4_1 ∧ v5 = .int .i64 x5_1 ∧ v6 = .int .i64 x6_1 ∧ Aside0 (spec_l2Corner.l0 kq l0 y120 x4_1 x5_1 x6_1 = some r) ∧ Aside0 (kq ≤ k) ∧ Aside0 (Kd.R k41 41 w' w.heap.size (fun _ => True) v121 y120) ∧ Aside0 (Below w.heap.size w w'))
  case atStart => exact ⟨(0), (0), (0), (by first | rfl | (simp; done) | (simp [*]; done)), (by first | rfl | (simp; done) | (simp [*]; done)), (by first | rfl | (simp; done) | (simp [*]; done)), H', ⟨Nat.le_refl _⟩, ⟨by (with_reducible repeat (first | apply Kd.R_alloc | apply Kd.R_drewN | apply Kd.R_drew)); exact HO122.out⟩, ⟨by repeat (first | (with_reducible first | exact HB.out | apply below_alloc | apply pw_below_drewN | apply below_drew1) | exact HB.out)⟩⟩
  case round =>
    clear H'
    try clear p2
    obtain ⟨x4_1, x5_1, x6_1, rfl, rfl, rfl, HA, HK1, HO_3, HB⟩ := hrel
    cases gk with
    | zero => exact absurd HA.out (by simp [spec_l2Corner.l0])
    | succ k1 =>
      have H := HA.out
      clear HA
      simp only [spec_l2Corner.l0] at H
      by_cases c4 : x6_1 < (l0.length : Int)
      · rw [if_pos c4] at H
        have c4b0 : decide (x6_1 < (l0.length : Int)) = true := decide_eq_true c4
        clear c4
        have HC5 := Aside0.mk H
        clear H
        go_upto_region 7 with (fail)
        go_cut [25] (fun v25 wc => ∃ (kq : Nat) (x25_4 : Bool), v25 = .bool x25_4 ∧ Aside0 (spec_l2Corner.j1 kq l0 y120 x4_1 x5_1 x6_1 x25_4 = some r) ∧ Aside0 (kq ≤ k1) ∧ Aside0 (Kd.R k41 41 wc w.heap.size (fun _ => True) v121 y120) ∧ Aside0 (Below w.heap.size w wc))
        case first =>
          have H := HC5.out
          clear HC5
          by_cases c6 : x6_1 = 0
          · rw [if_pos c6] at H
            have c6b0 : (x6_1 == 0) = true := beq_iff_eq.mpr c6
            have c6b1 : (x6_1 != 0) = false := bne_eq_false_iff_eq.mpr c6
            clear c6
            (first | rw [c6b0] | (simp only [i64_w, i32_w]; rw [c6b0]) | skip)
            have H' := Aside0.mk H
            clear H
            go_wp2
            go_meet
            case rel => exact ⟨_, (true), (by first | rfl | (simp; done) | (simp [*]; done)), H', ⟨by have := HK1.out; first | omega | exact Nat.le_refl _⟩, ⟨by (with_reducible repeat (first | apply Kd.R_alloc | apply Kd.R_drewN | apply Kd.R_drew)); exact HO_3.out⟩, ⟨by repeat (first | (with_reducible first | exact HB.out | apply below_alloc | apply pw_below_drewN | apply below_drew1) | exact HB.out)⟩⟩
          · rw [if_neg c6] at H
            have c6b0 : (x6_1 == 0) = false := beq_eq_false_iff_ne.mpr c6
            have c6b1 : (x6_1 != 0) = true := bne_iff_ne.mpr c6
            (first | rw [c6b0] | (simp only [i64_w, i32_w]; rw [c6b0]) | skip)
            by_cases c7 : 0 ≤ x6_1
            · rw [if_pos c7] at H
              have c7b0 : decide (0 ≤ x6_1) = true := decide_eq_true c7
              clear c7
              have H' := Aside0.mk H
              clear H
              have p123 : 0 ≤ (x6_1 : Int) := of_decide_eq_true (by first | (with_reducible assumption) | assumption)
              have q123 : x6_1 < (l0.length : Int) := of_decide_eq_true (by first | (with_reducible assumption) | assumption)
              obtain ⟨ad123, e123, hx123_0, hx123_1⟩ := at_T41 HR0.out x6_1 p123 q123
              cases e123
              replace hx123_0 := (HB.out.cell (World.block_lt_of_cell? w _ hx123_0)).trans hx123_0
              replace hx123_1 := (HB.out.cell (World.block_lt_of_cell? w _ hx123_1)).trans hx123_1
              replace p123 := eq_true p123
              replace q123 := eq_true q123
              go_wp2
              go_meet
              case rel => exact ⟨_, (decide (((rd_T41 l0 x6_1).f0) < x4_1)), (by first | rfl | (simp; done) | (simp [*]; done)), H', ⟨by have := HK1.out; first | omega | exact Nat.le_refl _⟩, ⟨by (with_reducible repeat (first | apply Kd.R_alloc | apply Kd.R_drewN | apply Kd.R_drew)); exact HO_3.out⟩, ⟨by repeat (first | (with_reducible first | exact HB.out | apply below_alloc | apply pw_below_drewN | apply below_drew1) | exact HB.out)⟩⟩
            · rw [if_neg c7] at H
              exact absurd H (by simp)
        case rest =>
          clear HC5
          try clear p1
          try clear q1
          try clear hx1
          try clear p2
          try clear c4
          try clear c4b0
          try clear c5
          try clear c6
          try clear c6b0
          try clear c6b1
          try clear c7
          try clear c7b0
          try clear hx123_0
          try clear hx123_1
          try clear p123
          try clear p2
          try clear q123
          obtain ⟨kq, x25_4, rfl, HA, HJ4, HO_3, HB⟩ := hcut
          cases kq with
          | zero => exact absurd HA.out (by simp [spec_l2Corner.j1])
          | succ kj4 =>
            have H := HA.out
            clear HA
            simp only [spec_l2Corner.j1] at H
            by_cases c8 : x25_4 = true
            · subst c8
              have H1 : (if 0 ≤ x6_1 then (if x6_1 < (l0.length : Int) then (if x6_1 = 0 then (spec_l2Corner.l0 kj4 l0 y120 ((rd_T41 l0 x6_1).f0) ((rd_T41 l0 x6_1).f1) (wrap64 (x6_1 + 1))) else (if ((rd_T41 l0 x6_1).f1) < x5_1 then (spec_l2Corner.l0 kj4 l0 y120 ((rd_T41 l0 x6_1).f0) ((rd_T41 l0 x6_1).f1) (wrap64 (x6_1 + 1))) else (spec_l2Corner.l0 kj4 l0 y120 ((rd_T41 l0 x6_1).f0) x5_1 (wrap64 (x6_1 + 1))))) else (none)) else (none)) = some r := by rw [if_pos rfl] at H; exact H
              clear H
              have H := H1
              clear H1
              by_cases c9 : 0 ≤ x6_1
              · rw [if_pos c9] at H
                have c9b0 : decide (0 ≤ x6_1) = true := decide_eq_true c9
                clear c9
                by_cases c10 : x6_1 < (l0.length : Int)
                · rw [if_pos c10] at H
                  have c10b0 : decide (x6_1 < (l0.length : Int)) = true := decide_eq_true c10
                  clear c10
                  by_cases c11 : x6_1 = 0
                  · rw [if_pos c11] at H
                    have c11b0 : (x6_1 == 0) = true := beq_iff_eq.mpr c11
                    have c11b1 : (x6_1 != 0) = false := bne_eq_false_iff_eq.mpr c11
                    clear c11
                    have H' := Aside0.mk H
                    clear H
                    have p124 : 0 ≤ (x6_1 : Int) := of_decide_eq_true (by first | (with_reducible assumption) | assumption)
                    have q124 : x6_1 < (l0.length : Int) := of_decide_eq_true (by first | (with_reducible assumption) | assumption)
                    obtain ⟨ad124, e124, hx124_0, hx124_1⟩ := at_T41 HR0.out x6_1 p124 q124
                    cases e124
                    replace hx124_0 := (HB.out.cell (World.block_lt_of_cell? w _ hx124_0)).trans hx124_0
                    replace hx124_1 := (HB.out.cell (World.block_lt_of_cell? w _ hx124_1)).trans hx124_1
                    replace p124 := eq_true p124
                    replace q124 := eq_true q124
                    have p125 : 0 ≤ (x6_1 : Int) := of_decide_eq_true (by first | (with_reducible assumption) | assumption)
                    have q125 : x6_1 < (l0.length : Int) := of_decide_eq_true (by first | (with_reducible assumption) | assumption)
                    obtain ⟨ad125, e125, hx125_0, hx125_1⟩ := at_T41 HR0.out x6_1 p125 q125
                    obtain rfl : ad124 = ad125 := (by injection e125)
                    replace hx125_0 := (HB.out.cell (World.block_lt_of_cell? w _ hx125_0)).trans hx125_0
                    replace hx125_1 := (HB.out.cell (World.block_lt_of_cell? w _ hx125_1)).trans hx125_1
                    replace p125 := eq_true p125
                    replace q125 := eq_true q125
                    go_wp2
                    go_roundg kj4
                    case measure => have := HK1.out; have := HJ4.out; omega
                    case rel => exact ⟨((rd_T41 l0 x6_1).f0), ((rd_T41 l0 x6_1).f1), (wrap64 (x6_1 + 1)), (by first | rfl | (simp; done) | (simp [*]; done)), (by first | rfl | (simp; done) | (simp [*]; done)), (by first | rfl | (simp; done) | (simp [*]; done)), H', ⟨by have := HK1.out; have := HJ4.out; omega⟩, ⟨by (with_reducible repeat (first | apply Kd.R_alloc | apply Kd.R_drewN | apply Kd.R_drew)); exact HO_3.out⟩, ⟨by repeat (first | (with_reducible first | exact HB.out | apply below_alloc | apply pw_below_drewN | apply below_drew1) | exact HB.out)⟩⟩
                  · rw [if_neg c11] at H
                    have c11b0 : (x6_1 == 0) = false := beq_eq_false_iff_ne.mpr c11
                    have c11b1 : (x6_1 != 0) = true := bne_iff_ne.mpr c11
                    by_cases c12 : ((rd_T41 l0 x6_1).f1) < x5_1
                    · rw [if_pos c12] at H
                      have c12b0 : decide (((rd_T41 l0 x6_1).f1) < x5_1) = true := decide_eq_true c12
                      clear c12
                      have H' := Aside0.mk H
                      clear H
                      have p124 : 0 ≤ (x6_1 : Int) := of_decide_eq_true (by first | (with_reducible assumption) | assumption)
                      have q124 : x6_1 < (l0.length : Int) := of_decide_eq_true (by first | (with_reducible assumption) | assumption)
                      obtain ⟨ad124, e124, hx124_0, hx124_1⟩ := at_T41 HR0.out x6_1 p124 q124
                      cases e124
                      replace hx124_0 := (HB.out.cell (World.block_lt_of_cell? w _ hx124_0)).trans hx124_0
                      replace hx124_1 := (HB.out.cell (World.block_lt_of_cell? w _ hx124_1)).trans hx124_1
                      replace p124 := eq_true p124
                      replace q124 := eq_true q124
                      have p126 : 0 ≤ (x6_1 : Int) := of_decide_eq_true (by first | (with_reducible assumption) | assumption)
                      have q126 : x6_1 < (l0.length : Int) := of_decide_eq_true (by first | (with_reducible assumption) | assumption)
                      obtain ⟨ad126, e126, hx126_0, hx126_1⟩ := at_T41 HR0.out x6_1 p126 q126
                      obtain rfl : ad124 = ad126 := (by injection e126)
                      replace hx126_0 := (HB.out.cell (World.block_lt_of_cell? w _ hx126_0)).trans hx126_0
                      replace hx126_1 := (HB.out.cell (World.block_lt_of_cell? w _ hx126_1)).trans hx126_1
                      replace p126 := eq_true p126
                      replace q126 := eq_true q126
                      have p127 : 0 ≤ (x6_1 : Int) := of_decide_eq_true (by first | (with_reducible assumption) | assumption)
                      have q127 : x6_1 < (l0.length : Int) := of_decide_eq_true (by first | (with_reducible assumption) | assumption)
                      obtain ⟨ad127, e127, hx127_0, hx127_1⟩ := at_T41 HR0.out x6_1 p127 q127
                      obtain rfl : ad124 = ad127 := (by injection e127)
                      replace hx127_0 := (HB.out.cell (World.block_lt_of_cell? w _ hx127_0)).trans hx127_0
                      replace hx127_1 := (HB.out.cell (World.block_lt_of_cell? w _ hx127_1)).trans hx127_1
                      replace p127 := eq_true p127
                      replace q127 := eq_true q127
                      go_wp2
                      go_roundg kj4
                      case measure => have := HK1.out; have := HJ4.out; omega
                      case rel => exact ⟨((rd_T41 l0 x6_1).f0), ((rd_T41 l0 x6_1).f1), (wrap64 (x6_1 + 1)), (by first | rfl | (simp; done) | (simp [*]; done)), (by first | rfl | (simp; done) | (simp [*]; done)), (by first | rfl | (simp; done) | (simp [*]; done)), H', ⟨by have := HK1.out; have := HJ4.out; omega⟩, ⟨by (with_reducible repeat (first | apply Kd.R_alloc | apply Kd.R_drewN | apply Kd.R_drew)); exact HO_3.out⟩, ⟨by repeat (first | (with_reducible first | exact HB.out | apply below_alloc | apply pw_below_drewN | apply below_drew1) | exact HB.out)⟩⟩
                    · rw [if_neg c12] at H
                      have c12b0 : decide (((rd_T41 l0 x6_1).f1) < x5_1) = false := decide_eq_false c12
                      clear c12
                      have H' := Aside0.mk H
                      clear H
                      have p124 : 0 ≤ (x6_1 : Int) := of_decide_eq_true (by first | (with_reducible assumption) | assumption)
                      have q124 : x6_1 < (l0.length : Int) := of_decide_eq_true (by first | (with_reducible assumption) | assumption)
                      obtain ⟨ad124, e124, hx124_0, hx124_1⟩ := at_T41 HR0.out x6_1 p124 q124
                      cases e124
                      replace hx124_0 := (HB.out.cell (World.block_lt_of_cell? w _ hx124_0)).trans hx124_0
                      replace hx124_1 := (HB.out.cell (World.block_lt_of_cell? w _ hx124_1)).trans hx124_1
                      replace p124 := eq_true p124
                      replace q124 := eq_true q124
                      have p126 : 0 ≤ (x6_1 : Int) := of_decide_eq_true (by first | (with_reducible assumption) | assumption)
                      have q126 : x6_1 < (l0.length : Int) := of_decide_eq_true (by first | (with_reducible assumption) | assumption)
                      obtain ⟨ad126, e126, hx126_0, hx126_1⟩ := at_T41 HR0.out x6_1 p126 q126
                      obtain rfl : ad124 = ad126 := (by injection e126)
                      replace hx126_0 := (HB.out.cell (World.block_lt_of_cell? w _ hx126_0)).trans hx126_0
                      replace hx126_1 := (HB.out.cell (World.block_lt_of_cell? w _ hx126_1)).trans hx126_1
                      replace p126 := eq_true p126
                      replace q126 := eq_true q126
                      go_wp2
                      go_roundg kj4
                      case measure => have := HK1.out; have := HJ4.out; omega
                      case rel => exact ⟨((rd_T41 l0 x6_1).f0), (x5_1), (wrap64 (x6_1 + 1)), (by first | rfl | (simp; done) | (simp [*]; done)), (by first | rfl | (simp; done) | (simp [*]; done)), (by first | rfl | (simp; done) | (simp [*]; done)), H', ⟨by have := HK1.out; have := HJ4.out; omega⟩, ⟨by (with_reducible repeat (first | apply Kd.R_alloc | apply Kd.R_drewN | apply Kd.R_drew)); exact HO_3.out⟩, ⟨by repeat (first | (with_reducible first | exact HB.out | apply below_alloc | apply pw_below_drewN | apply below_drew1) | exact HB.out)⟩⟩
                · rw [if_neg c10] at H
                  exact absurd H (by simp)
              · rw [if_neg c9] at H
                exact absurd H (by simp)
            · replace c8 := Bool.eq_false_iff.mpr c8
              subst c8
              have H1 : (if x6_1 = 0 then (if 0 ≤ x6_1 then (if x6_1 < (l0.length : Int) then (spec_l2Corner.l0 kj4 l0 y120 x4_1 ((rd_T41 l0 x6_1).f1) (wrap64 (x6_1 + 1))) else (none)) else (none)) else (if 0 ≤ x6_1 then (if x6_1 < (l0.length : Int) then (if ((rd_T41 l0 x6_1).f1) < x5_1 then (spec_l2Corner.l0 kj4 l0 y120 x4_1 ((rd_T41 l0 x6_1).f1) (wrap64 (x6_1 + 1))) else (spec_l2Corner.l0 kj4 l0 y120 x4_1 x5_1 (wrap64 (x6_1 + 1)))) else (none)) else (none))) = some r := by rw [if_neg (show ¬ (false = true) by decide)] at H; exact H
              clear H
              have H := H1
              clear H1
              by_cases c13 : x6_1 = 0
              · rw [if_pos c13] at H
                have c13b0 : (x6_1 == 0) = true := beq_iff_eq.mpr c13
                have c13b1 : (x6_1 != 0) = false := bne_eq_false_iff_eq.mpr c13
                clear c13
                by_cases c14 : 0 ≤ x6_1
                · rw [if_pos c14] at H
                  have c14b0 : decide (0 ≤ x6_1) = true := decide_eq_true c14
                  clear c14
                  by_cases c15 : x6_1 < (l0.length : Int)
                  · rw [if_pos c15] at H
                    have c15b0 : decide (x6_1 < (l0.length : Int)) = true := decide_eq_true c15
                    clear c15
                    have H' := Aside0.mk H
                    clear H
                    have p128 : 0 ≤ (x6_1 : Int) := of_decide_eq_true (by first | (with_reducible assumption) | assumption)
                    have q128 : x6_1 < (l0.length : Int) := of_decide_eq_true (by first | (with_reducible assumption) | assumption)
                    obtain ⟨ad128, e128, hx128_0, hx128_1⟩ := at_T41 HR0.out x6_1 p128 q128
                    cases e128
                    replace hx128_0 := (HB.out.cell (World.block_lt_of_cell? w _ hx128_0)).trans hx128_0
                    replace hx128_1 := (HB.out.cell (World.block_lt_of_cell? w _ hx128_1)).trans hx128_1
                    replace p128 := eq_true p128
                    replace q128 := eq_true q128
                    go_wp2
                    go_roundg kj4
                    case measure => have := HK1.out; have := HJ4.out; omega
                    case rel => exact ⟨(x4_1), ((rd_T41 l0 x6_1).f1), (wrap64 (x6_1 + 1)), (by first | rfl | (simp; done) | (simp [*]; done)), (by first | rfl | (simp; done) | (simp [*]; done)), (by first | rfl | (simp; done) | (simp [*]; done)), H', ⟨by have := HK1.out; have := HJ4.out; omega⟩, ⟨by (with_reducible repeat (first | apply Kd.R_alloc | apply Kd.R_drewN | apply Kd.R_drew)); exact HO_3.out⟩, ⟨by repeat (first | (with_reducible first | exact HB.out | apply below_alloc | apply pw_below_drewN | apply below_drew1) | exact HB.out)⟩⟩
                  · rw [if_neg c15] at H
                    exact absurd H (by simp)
                · rw [if_neg c14] at H
                  exact absurd H (by simp)
              · rw [if_neg c13] at H
                have c13b0 : (x6_1 == 0) = false := beq_eq_false_iff_ne.mpr c13
                have c13b1 : (x6_1 != 0) = true := bne_iff_ne.mpr c13
                by_cases c16 : 0 ≤ x6_1
                · rw [if_pos c16] at H
                  have c16b0 : decide (0 ≤ x6_1) = true := decide_eq_true c16
                  clear c16
                  by_cases c17 : x6_1 < (l0.length : Int)
                  · rw [if_pos c17] at H
                    have c17b0 : decide (x6_1 < (l0.length : Int)) = true := decide_eq_true c17
                    clear c17
                    by_cases c18 : ((rd_T41 l0 x6_1).f1) < x5_1
                    · rw [if_pos c18] at H
                      have c18b0 : decide (((rd_T41 l0 x6_1).f1) < x5_1) = true := decide_eq_true c18
                      clear c18
                      have H' := Aside0.mk H
                      clear H
                      have p129 : 0 ≤ (x6_1 : Int) := of_decide_eq_true (by first | (with_reducible assumption) | assumption)
                      have q129 : x6_1 < (l0.length : Int) := of_decide_eq_true (by first | (with_reducible assumption) | assumption)
                      obtain ⟨ad129, e129, hx129_0, hx129_1⟩ := at_T41 HR0.out x6_1 p129 q129
                      cases e129
                      replace hx129_0 := (HB.out.cell (World.block_lt_of_cell? w _ hx129_0)).trans hx129_0
                      replace hx129_1 := (HB.out.cell (World.block_lt_of_cell? w _ hx129_1)).trans hx129_1
                      replace p129 := eq_true p129
                      replace q129 := eq_true q129
                      have p130 : 0 ≤ (x6_1 : Int) := of_decide_eq_true (by first | (with_reducible assumption) | assumption)
                      have q130 : x6_1 < (l0.length : Int) := of_decide_eq_true (by first | (with_reducible assumption) | assumption)
                      obtain ⟨ad130, e130, hx130_0, hx130_1⟩ := at_T41 HR0.out x6_1 p130 q130
                      obtain rfl : ad129 = ad130 := (by injection e130)
                      replace hx130_0 := (HB.out.cell (World.block_lt_of_cell? w _ hx130_0)).trans hx130_0
                      replace hx130_1 := (HB.out.cell (World.block_lt_of_cell? w _ hx130_1)).trans hx130_1
                      replace p130 := eq_true p130
                      replace q130 := eq_true q130
                      go_wp2
                      go_roundg kj4
                      case measure => have := HK1.out; have := HJ4.out; omega
                      case rel => exact ⟨(x4_1), ((rd_T41 l0 x6_1).f1), (wrap64 (x6_1 + 1)), (by first | rfl | (simp; done) | (simp [*]; done)), (by first | rfl | (simp; done) | (simp [*]; done)), (by first | rfl | (simp; done) | (simp [*]; done)), H', ⟨by have := HK1.out; have := HJ4.out; omega⟩, ⟨by (with_reducible repeat (first | apply Kd.R_alloc | apply Kd.R_drewN | apply Kd.R_drew)); exact HO_3.out⟩, ⟨by repeat (first | (with_reducible first | exact HB.out | apply below_alloc | apply pw_below_drewN | apply below_drew1) | exact HB.out)⟩⟩
                    · rw [if_neg c18] at H
                      have c18b0 : decide (((rd_T41 l0 x6_1).f1) < x5_1) = false := decide_eq_false c18
                      clear c18
                      have H' := Aside0.mk H
                      clear H
                      have p129 : 0 ≤ (x6_1 : Int) := of_decide_eq_true (by first | (with_reducible assumption) | assumption)
                      have q129 : x6_1 < (l0.length : Int) := of_decide_eq_true (by first | (with_reducible assumption) | assumption)
                      obtain ⟨ad129, e129, hx129_0, hx129_1⟩ := at_T41 HR0.out x6_1 p129 q129
                      cases e129
                      replace hx129_0 := (HB.out.cell (World.block_lt_of_cell? w _ hx129_0)).trans hx129_0
                      replace hx129_1 := (HB.out.cell (World.block_lt_of_cell? w _ hx129_1)).trans hx129_1
                      replace p129 := eq_true p129
                      replace q129 := eq_true q129
                      go_wp2
                      go_roundg kj4
                      case measure => have := HK1.out; have := HJ4.out; omega
                      case rel => exact ⟨(x4_1), (x5_1), (wrap64 (x6_1 + 1)), (by first | rfl | (simp; done) | (simp [*]; done)), (by first | rfl | (simp; done) | (simp [*]; done)), (by first | rfl | (simp; done) | (simp [*]; done)), H', ⟨by have := HK1.out; have := HJ4.out; omega⟩, ⟨by (with_reducible repeat (first | apply Kd.R_alloc | apply Kd.R_drewN | apply Kd.R_drew)); exact HO_3.out⟩, ⟨by repeat (first | (with_reducible first | exact HB.out | apply below_alloc | apply pw_below_drewN | apply below_drew1) | exact HB.out)⟩⟩
                  · rw [if_neg c17] at H
                    exact absurd H (by simp)
                · rw [if_neg c16] at H
                  exact absurd H (by simp)
      · rw [if_neg c4] at H
        have c4b0 : decide (x6_1 < (l0.length : Int)) = false := decide_eq_false c4
        clear c4
        have H' := Aside0.mk H
        clear H
        go_wp2
        go_loopg [3, 7] k1 (fun kq v3 v7 w' => ∃ (x3_2 : List (S41)) (x7_2 : Int), v7 = .int .i64 x7_2 ∧ Aside0 (spec_l2Corner.l1 kq l0 x3_2 x4_1 x5_1 x7_2 = some r) ∧ Aside0 (kq ≤ k1) ∧ Aside0 (Kd.R k41 41 w' w.heap.size (fun _ => True) v3 x3_2) ∧ Aside0 (Below w.heap.size w w'))
        case atStart => exact ⟨(y120), (0), (by first | rfl | (simp; done) | (simp [*]; done)), H', ⟨Nat.le_refl _⟩, ⟨by (with_reducible repeat (first | apply Kd.R_alloc | apply Kd.R_drewN | apply Kd.R_drew)); exact HO_3.out⟩, ⟨by repeat (first | (with_reducible first | exact HB.out | apply below_alloc | apply pw_below_drewN | apply below_drew1) | exact HB.out)⟩⟩
        case round =>
          clear H'
          try clear c1
          try clear p1
          try clear q1
          try clear hx1
          try clear p2
          try clear c4
          try clear c4b0
          try clear c5
          try clear c6
          try clear c6b0
          try clear c6b1
          try clear p6
          try clear c7
          try clear c7b0
          try clear c8
          try clear c9
          try clear c9b0
          try clear c10
          try clear c10b0
          try clear c11
          try clear c11b0
          try clear c11b1
          try clear c12
          try clear c12b0
          try clear p12
          try clear q12
          try clear hx12
          try clear c13
          try clear c13b0
          try clear c13b1
          try clear p13
          try clear q13
          try clear hx13
          try clear c14
          try clear c14b0
          try clear c15
          try clear c15b0
          try clear c16
          try clear c16b0
          try clear c17
          try clear c17b0
          try clear c18
          try clear c18b0
          try clear hx123_0
          try clear hx123_1
          try clear hx124_0
          try clear hx124_1
          try clear hx125_0
          try clear hx125_1
          try clear hx126_0
          try clear hx126_1
          try clear hx127_0
          try clear hx127_1
          try clear hx128_0
          try clear hx128_1
          try clear hx129_0
          try clear hx129_1
          try clear hx130_0
          try clear hx130_1
          try clear p1
          try clear p123
          try clear p124
          try clear p125
          try clear p126
          try clear p127
          try clear p128
          try clear p129
          try clear p130
          try clear p2
          try clear q1
          try clear q123
          try clear q124
          try clear q125
          try clear q126
          try clear q127
          try clear q128
          try clear q129
          try clear q130
          obtain ⟨x3_2, x7_2, rfl, HA, HK2, HO_3, HB⟩ := hrel
          cases gk with
          | zero => exact absurd HA.out (by simp [spec_l2Corner.l1])
          | succ k2 =>
            have H := HA.out
            clear HA
            simp only [spec_l2Corner.l1] at H
            by_cases c19 : x7_2 < (l0.length : Int)
            · rw [if_pos c19] at H
              have c19b0 : decide (x7_2 < (l0.length : Int)) = true := decide_eq_true c19
              clear c19
              by_cases c20 : 0 ≤ x7_2
              · rw [if_pos c20] at H
                have c20b0 : decide (0 ≤ x7_2) = true := decide_eq_true c20
                clear c20
                by_cases c21 : x3_2.length < 8796093022208
                · rw [if_pos c21] at H
                  have LMc21 := Aside0.mk c21
                  clear c21
                  obtain ⟨y133, hy133⟩ : ∃ y_ : List (S41), y_ = (x3_2 ++ [(⟨wrap64 (((rd_T41 l0 x7_2).f0) - x4_1), wrap64 (((rd_T41 l0 x7_2).f1) - x5_1)⟩ : S41)]) := ⟨_, rfl⟩
                  replace H : (spec_l2Corner.l1 k2 l0 y133 x4_1 x5_1 (wrap64 (x7_2 + 1))) = some r := by first | (rw [hy133]; with_reducible exact H) | (have H2_ := (Option.bind_some _ _).symm.trans H; rw [hy133]; with_reducible exact H2_) | (have H2_ := (Option.bind_some _ _).symm.trans H; with_reducible exact H2_) | with_reducible exact H | (rw [hy133]; exact H) | exact H
                  have Ny133 := Aside0.mk hy133
                  clear hy133
                  have H' := Aside0.mk H
                  clear H
                  try go_wp2
                  have n0_ := Aside0.mk (Kd.R_drew HO_3.out)
                  have n1_ := Aside0.mk (below_drew1 HB.out)
                  clear HO_3
                  clear HB
                  have HO_3 := n0_
                  have HB := n1_
                  clear n0_ n1_
                  have p131 : 0 ≤ (x7_2 : Int) := of_decide_eq_true (by first | (with_reducible assumption) | assumption)
                  have q131 : x7_2 < (l0.length : Int) := of_decide_eq_true (by first | (with_reducible assumption) | assumption)
                  obtain ⟨ad131, e131, hx131_0, hx131_1⟩ := at_T41 HR0.out x7_2 p131 q131
                  have hw131_1 := hx131_1
                  have hw131_0 := hx131_0
                  cases e131
                  replace hx131_0 := (HB.out.cell (World.block_lt_of_cell? w _ hx131_0)).trans hx131_0
                  replace hx131_1 := (HB.out.cell (World.block_lt_of_cell? w _ hx131_1)).trans hx131_1
                  replace p131 := eq_true p131
                  replace q131 := eq_true q131
                  have p132 : 0 ≤ (x7_2 : Int) := of_decide_eq_true (by first | (with_reducible assumption) | assumption)
                  have q132 : x7_2 < (l0.length : Int) := of_decide_eq_true (by first | (with_reducible assumption) | assumption)
                  obtain ⟨ad132, e132, hx132_0, hx132_1⟩ := at_T41 HR0.out x7_2 p132 q132
                  have hw132_1 := hx132_1
                  have hw132_0 := hx132_0
                  obtain rfl : ad131 = ad132 := (by injection e132)
                  replace hx132_0 := (HB.out.cell (World.block_lt_of_cell? w _ hx132_0)).trans hx132_0
                  replace hx132_1 := (HB.out.cell (World.block_lt_of_cell? w _ hx132_1)).trans hx132_1
                  replace p132 := eq_true p132
                  replace q132 := eq_true q132
                  refine start_ (n := 19) (S := fun w' => w'.cell? (ad131.add ((x7_2).toNat * 2)) = some (.int .i64 ((rd_T41 l0 x7_2).f0)) ∧ w'.cell? ⟨(ad131.add ((x7_2).toNat * 2)).block, (ad131.add ((x7_2).toNat * 2)).off + 1, none⟩ = some (.int .i64 ((rd_T41 l0 x7_2).f1)) ∧ w'.cell? (ad131.add ((x7_2).toNat * 2)) = some (.int .i64 ((rd_T41 l0 x7_2).f0)) ∧ w'.cell? ⟨(ad131.add ((x7_2).toNat * 2)).block, (ad131.add ((x7_2).toNat * 2)).off + 1, none⟩ = some (.int .i64 ((rd_T41 l0 x7_2).f1))) (ds := []) #[false, false, false, false, false, false, false, false, false, false, false, false, false, false, false, false, false, false, false] (by kernel_rfl) rfl rfl ⟨((HB.out.cell (World.block_lt_of_cell? w _ hw131_0)).trans hw131_0), ((HB.out.cell (World.block_lt_of_cell? w _ hw131_1)).trans hw131_1), ((HB.out.cell (World.block_lt_of_cell? w _ hw132_0)).trans hw132_0), ((HB.out.cell (World.block_lt_of_cell? w _ hw132_1)).trans hw132_1)⟩ (fun hHeld => ?_); refine with_tabW spec_l2Corner.tab14 spec_l2Corner.bits14 (fun HT_ HW_ => ?_)
                  generalize wr.drew = w22 at HO_3 HB hx131_0 hx131_1 hx132_0 hx132_1 hHeld ⊢
                  refine pure_ (i := 0) (N := some 53) (v := ?_) (a' := ?_) #[true, false, false, false, false, false, false, false, false, false, false, false, false, false, false, false, false, false, false] rfl rfl (any_of HT_.out (by kernel_rfl)) (fun _ _ _ h => h) (Or.inl ⟨by rfl, ?_⟩) ?_ ?_
                  rotate_left
                  · intro w'
                    go_simp
                    with_reducible rfl
                  rotate_left
                  · simp only [Act.put, List.setIfInBounds_toArray, List.set_cons_zero, List.set_cons_succ, i64_w, i32_w]
                    rfl
                  refine pure_ (i := 1) (N := some 54) (v := ?_) (a' := ?_) #[true, true, false, false, false, false, false, false, false, false, false, false, false, false, false, false, false, false, false] rfl rfl (any_of HT_.out (by kernel_rfl)) (fun _ _ _ h => h) (Or.inl ⟨by rfl, ?_⟩) ?_ ?_
                  rotate_left
                  · intro w'
                    go_simp
                    with_reducible rfl
                  rotate_left
                  · simp only [Act.put, List.setIfInBounds_toArray, List.set_cons_zero, List.set_cons_succ, i64_w, i32_w]
                    rfl
                  refine pure_ (i := 2) (N := some 55) (v := ?_) (a' := ?_) #[true, true, true, false, false, false, false, false, false, false, false, false, false, false, false, false, false, false, false] rfl rfl (any_of HT_.out (by kernel_rfl)) (fun _ _ _ h => h) (Or.inl ⟨by rfl, ?_⟩) ?_ ?_
                  rotate_left
                  · intro w'
                    go_simp
                    with_reducible rfl
                  rotate_left
                  · simp only [Act.put, List.setIfInBounds_toArray, List.set_cons_zero, List.set_cons_succ, i64_w, i32_w]
                    rfl
                  refine pure_ (i := 3) (N := some 56) (v := ?_) (a' := ?_) #[true, true, true, true, false, false, false, false, false, false, false, false, false, false, false, false, false, false, false] rfl rfl (any_of HT_.out (by kernel_rfl)) (fun _ _ _ h => h) (Or.inl ⟨by rfl, ?_⟩) ?_ ?_
                  rotate_left
                  · intro w'
                    go_simp
                    with_reducible rfl
                  rotate_left
                  · simp only [Act.put, List.setIfInBounds_toArray, List.set_cons_zero, List.set_cons_succ, i64_w, i32_w]
                    rfl
                  refine pure_ (i := 4) (N := some 57) (v := ?_) (a' := ?_) #[true, true, true, true, true, false, false, false, false, false, false, false, false, false, false, false, false, false, false] rfl rfl (any_of HT_.out (by kernel_rfl)) (fun _ _ _ h => h) (Or.inl ⟨by rfl, ?_⟩) ?_ ?_
                  rotate_left
                  · intro w'
                    go_simp
                    with_reducible rfl
                  rotate_left
                  · simp only [Act.put, List.setIfInBounds_toArray, List.set_cons_zero, List.set_cons_succ, i64_w, i32_w]
                    rfl
                  refine pure_ (i := 6) (N := some 59) (v := ?_) (a' := ?_) #[true, true, true, true, true, false, true, false, false, false, false, false, false, false, false, false, false, false, false] rfl rfl (any_of HT_.out (by kernel_rfl)) (fun _ _ _ h => h) (Or.inl ⟨by rfl, ?_⟩) ?_ ?_
                  rotate_left
                  · intro w'
                    go_simp
                    with_reducible rfl
                  rotate_left
                  · simp only [Act.put, List.setIfInBounds_toArray, List.set_cons_zero, List.set_cons_succ, i64_w, i32_w]
                    rfl
                  refine pure_ (i := 8) (N := some 61) (v := ?_) (a' := ?_) #[true, true, true, true, true, false, true, false, true, false, false, false, false, false, false, false, false, false, false] rfl rfl (any_of HT_.out (by kernel_rfl)) (fun _ _ _ h => h) (Or.inl ⟨by rfl, ?_⟩) ?_ ?_
                  rotate_left
                  · intro w'
                    go_simp
                    with_reducible rfl
                  rotate_left
                  · simp only [Act.put, List.setIfInBounds_toArray, List.set_cons_zero, List.set_cons_succ, i64_w, i32_w]
                    rfl
                  refine pure_ (i := 9) (N := some 62) (v := ?_) (a' := ?_) #[true, true, true, true, true, false, true, false, true, true, false, false, false, false, false, false, false, false, false] rfl rfl (any_of HT_.out (by kernel_rfl)) (fun _ _ _ h => h) (Or.inl ⟨by rfl, ?_⟩) ?_ ?_
                  rotate_left
                  · intro w'
                    go_simp
                    with_reducible rfl
                  rotate_left
                  · simp only [Act.put, List.setIfInBounds_toArray, List.set_cons_zero, List.set_cons_succ, i64_w, i32_w]
                    rfl
                  refine pure_ (i := 10) (N := some 63) (v := ?_) (a' := ?_) #[true, true, true, true, true, false, true, false, true, true, true, false, false, false, false, false, false, false, false] rfl rfl (any_of HT_.out (by kernel_rfl)) (fun _ _ _ h => h) (Or.inl ⟨by rfl, ?_⟩) ?_ ?_
                  rotate_left
                  · intro w'
                    go_simp
                    with_reducible rfl
                  rotate_left
                  · simp only [Act.put, List.setIfInBounds_toArray, List.set_cons_zero, List.set_cons_succ, i64_w, i32_w]
                    rfl
                  refine pure_ (i := 11) (N := some 64) (v := ?_) (a' := ?_) #[true, true, true, true, true, false, true, false, true, true, true, true, false, false, false, false, false, false, false] rfl rfl (any_of HT_.out (by kernel_rfl)) (fun _ _ _ h => h) (Or.inl ⟨by rfl, ?_⟩) ?_ ?_
                  rotate_left
                  · intro w'
                    go_simp
                    with_reducible rfl
                  rotate_left
                  · simp only [Act.put, List.setIfInBounds_toArray, List.set_cons_zero, List.set_cons_succ, i64_w, i32_w]
                    rfl
                  refine pure_ (i := 13) (N := some 66) (v := ?_) (a' := ?_) #[true, true, true, true, true, false, true, false, true, true, true, true, false, true, false, false, false, false, false] rfl rfl (any_of HT_.out (by kernel_rfl)) (fun _ _ _ h => h) (Or.inl ⟨by rfl, ?_⟩) ?_ ?_
                  rotate_left
                  · intro w'
                    go_simp
                    with_reducible rfl
                  rotate_left
                  · simp only [Act.put, List.setIfInBounds_toArray, List.set_cons_zero, List.set_cons_succ, i64_w, i32_w]
                    rfl
                  refine take_ (i := 5) (N := some 58) (v := ?_) (a' := ?_) #[true, true, true, true, true, true, true, false, true, true, true, true, false, true, false, false, false, false, false] rfl rfl (take_ofW HT_.out HW_.out (by kernel_rfl)) (fun _ _ _ h => h) (Or.inl ⟨by rfl, ?_⟩) hHeld ?_ ?_
                  rotate_left
                  · rintro w' ⟨s0, s1, s2, s3⟩
                    go_simp
                    with_reducible rfl
                  rotate_left
                  · simp only [Act.put, List.setIfInBounds_toArray, List.set_cons_zero, List.set_cons_succ, i64_w, i32_w]
                    rfl
                  refine pure_ (i := 7) (N := some 60) (v := ?_) (a' := ?_) #[true, true, true, true, true, true, true, true, true, true, true, true, false, true, false, false, false, false, false] rfl rfl (any_of HT_.out (by kernel_rfl)) (fun _ _ _ h => h) (Or.inl ⟨by rfl, ?_⟩) ?_ ?_
                  rotate_left
                  · intro w'
                    go_simp
                    with_reducible rfl
                  rotate_left
                  · simp only [Act.put, List.setIfInBounds_toArray, List.set_cons_zero, List.set_cons_succ, i64_w, i32_w]
                    rfl
                  refine take_ (i := 12) (N := some 65) (v := ?_) (a' := ?_) #[true, true, true, true, true, true, true, true, true, true, true, true, true, true, false, false, false, false, false] rfl rfl (take_ofW HT_.out HW_.out (by kernel_rfl)) (fun _ _ _ h => h) (Or.inl ⟨by rfl, ?_⟩) hHeld ?_ ?_
                  rotate_left
                  · rintro w' ⟨s0, s1, s2, s3⟩
                    go_simp
                    with_reducible rfl
                  rotate_left
                  · simp only [Act.put, List.setIfInBounds_toArray, List.set_cons_zero, List.set_cons_succ, i64_w, i32_w]
                    rfl
                  refine pure_ (i := 14) (N := some 67) (v := ?_) (a' := ?_) #[true, true, true, true, true, true, true, true, true, true, true, true, true, true, true, false, false, false, false] rfl rfl (any_of HT_.out (by kernel_rfl)) (fun _ _ _ h => h) (Or.inl ⟨by rfl, ?_⟩) ?_ ?_
                  rotate_left
                  · intro w'
                    go_simp
                    with_reducible rfl
                  rotate_left
                  · simp only [Act.put, List.setIfInBounds_toArray, List.set_cons_zero, List.set_cons_succ, i64_w, i32_w]
                    rfl
                  refine pure_ (i := 15) (N := some 68) (v := ?_) (a' := ?_) #[true, true, true, true, true, true, true, true, true, true, true, true, true, true, true, true, false, false, false] rfl rfl (any_of HT_.out (by kernel_rfl)) (fun _ _ _ h => h) (Or.inl ⟨by rfl, ?_⟩) ?_ ?_
                  rotate_left
                  · intro w'
                    go_simp
                    with_reducible rfl
                  rotate_left
                  · simp only [Act.put, List.setIfInBounds_toArray, List.set_cons_zero, List.set_cons_succ, i64_w, i32_w]
                    rfl
                  refine one_ (i := 16) (N := some 69) #[true, true, true, true, true, true, true, true, true, true, true, true, true, true, true, true, true, false, false] rfl rfl (one_of HT_.out (by kernel_rfl)) (by decide) (fun K hK => ?_)
                  refine value_ (w1 := ?_) (v := ?_) (by rfl) rfl ?_ ?_
                  rotate_left 2
                  · go_simp
                    constructor
                    · rfl
                    · rfl
                  refine hK.out _ _ ⟨(World.cell?_alloc_lt _ _ _ (World.block_lt_of_cell? _ _ (((HB.out.cell (World.block_lt_of_cell? w _ hw131_0)).trans hw131_0)))).trans (((HB.out.cell (World.block_lt_of_cell? w _ hw131_0)).trans hw131_0)), (World.cell?_alloc_lt _ _ _ (World.block_lt_of_cell? _ _ (((HB.out.cell (World.block_lt_of_cell? w _ hw131_1)).trans hw131_1)))).trans (((HB.out.cell (World.block_lt_of_cell? w _ hw131_1)).trans hw131_1)), (World.cell?_alloc_lt _ _ _ (World.block_lt_of_cell? _ _ (((HB.out.cell (World.block_lt_of_cell? w _ hw132_0)).trans hw132_0)))).trans (((HB.out.cell (World.block_lt_of_cell? w _ hw132_0)).trans hw132_0)), (World.cell?_alloc_lt _ _ _ (World.block_lt_of_cell? _ _ (((HB.out.cell (World.block_lt_of_cell? w _ hw132_1)).trans hw132_1)))).trans (((HB.out.cell (World.block_lt_of_cell? w _ hw132_1)).trans hw132_1))⟩ (fun hHeld => ?_)
                  clear hK K
                  refine norm_ (a' := ?_) ?_ ?_
                  rotate_left
                  · show Act.put _ (some 69) _ = _
                    simp only [Act.put, List.setIfInBounds_toArray, List.set_cons_zero, List.set_cons_succ, i64_w, i32_w]
                    rfl
                  refine one_ (i := 17) (N := some 70) #[true, true, true, true, true, true, true, true, true, true, true, true, true, true, true, true, true, true, false] rfl rfl (one_of HT_.out (by kernel_rfl)) (by decide) (fun K hK => ?_)
                  refine Kd.R_append_step k41 (w0 := w) w.heap.size (by rfl) (.tmp 53) (.tmp 69) 24 41 (.agg #[(.int .i64 0), (.int .i64 0)]) 16 rfl Try.underlying24 info41 rfl (by decide) (by omega) u3 x3_2 (⟨wrap64 (((rd_T41 l0 x7_2).f0) - x4_1), wrap64 (((rd_T41 l0 x7_2).f1) - x5_1)⟩ : S41) [.int .i64 (wrap64 (((rd_T41 l0 x7_2).f0) - x4_1)), .int .i64 (wrap64 (((rd_T41 l0 x7_2).f1) - x5_1))] (fun _ => True) (fun _ => False) rfl rfl ?aP (fun _ hk => hk.elim) ?aF ?aO ?aB ?aS ?aL ?_
                  (case aP => exact k41_mkM _ _ _ (⟨wrap64 (((rd_T41 l0 x7_2).f0) - x4_1), wrap64 (((rd_T41 l0 x7_2).f1) - x5_1)⟩ : S41))
                  (case aB => exact (by repeat (first | (with_reducible first | exact HB.out | apply below_alloc | apply pw_below_drewN | apply below_drew1) | exact HB.out)))
                  (case aF => exact (fun _ _ => trivial))
                  (case aO => exact (by (with_reducible repeat (first | apply Kd.R_alloc | apply Kd.R_drewN | apply Kd.R_drew)); exact HO_3.out))
                  (case aS => exact (below_size (by repeat (first | (with_reducible first | exact HB.out | apply below_alloc | apply pw_below_drewN | apply below_drew1) | exact HB.out))))
                  (case aL => have := LMc21.out; omega)
                  intro v134 w23 ho hb hg hat
                  rw [← Ny133.out] at ho
                  have n0_ := Aside0.mk (hb)
                  have n1_ := Aside0.mk (ho)
                  clear HB
                  clear HO_3
                  have HB := n0_
                  have HO135 := n1_
                  clear n0_ n1_
                  clear ho hb hg hat
                  refine hK.out _ _ ⟨((HB.out.cell (World.block_lt_of_cell? w _ hw131_0)).trans hw131_0), ((HB.out.cell (World.block_lt_of_cell? w _ hw131_1)).trans hw131_1), ((HB.out.cell (World.block_lt_of_cell? w _ hw132_0)).trans hw132_0), ((HB.out.cell (World.block_lt_of_cell? w _ hw132_1)).trans hw132_1)⟩ (fun hHeld => ?_)
                  clear hK K
                  refine norm_ (a' := ?_) ?_ ?_
                  rotate_left
                  · show Act.put _ (some 70) _ = _
                    simp only [Act.put, List.setIfInBounds_toArray, List.set_cons_zero, List.set_cons_succ, i64_w, i32_w]
                    rfl
                  refine pure_ (i := 18) (N := some 3) (v := ?_) (a' := ?_) #[true, true, true, true, true, true, true, true, true, true, true, true, true, true, true, true, true, true, true] rfl rfl (any_of HT_.out (by kernel_rfl)) (fun _ _ _ h => h) (Or.inl ⟨by rfl, ?_⟩) ?_ ?_
                  rotate_left
                  · intro w'
                    go_simp
                    with_reducible rfl
                  rotate_left
                  · simp only [Act.put, List.setIfInBounds_toArray, List.set_cons_zero, List.set_cons_succ, i64_w, i32_w]
                    rfl
                  refine done_ (done_of HT_.out (by kernel_rfl)) ?_
                  try go_wp2
                  go_roundg k2
                  case measure => have := HK1.out; have := HK2.out; omega
                  case rel => exact ⟨(y133), (wrap64 (x7_2 + 1)), (by first | rfl | (simp; done) | (simp [*]; done)), H', ⟨by have := HK1.out; have := HK2.out; omega⟩, ⟨by (with_reducible repeat (first | apply Kd.R_alloc | apply Kd.R_drewN | apply Kd.R_drew)); exact HO135.out⟩, ⟨by repeat (first | (with_reducible first | exact HB.out | apply below_alloc | apply pw_below_drewN | apply below_drew1) | exact HB.out)⟩⟩
                · rw [if_neg c21] at H
                  exact absurd H (by simp)
              · rw [if_neg c20] at H
                exact absurd H (by simp)
            · rw [if_neg c19] at H
              have c19b0 : decide (x7_2 < (l0.length : Int)) = false := decide_eq_false c19
              clear c19
              obtain rfl := Option.some.inj H
              go_wp2
              go_ret
              exact ⟨_, by first | rfl | (simp [errW_none, errW_some] <;> rfl) | (simp [*, errW_none, errW_some] <;> rfl), by (with_reducible repeat (first | apply Kd.R_alloc | apply Kd.R_drewN | apply Kd.R_drew)); exact HO_3.out, by repeat (first | (with_reducible first | exact HB.out | apply below_alloc | apply pw_below_drewN | apply below_drew1) | exact HB.out)⟩
def spec_CornerShape.f (k : Nat) (l0 : List (S41)) : Option ((List (S41))) := (spec_IsShape.f l0).bind fun t136 => (if t136 = true then ((spec_l2Corner.f k l0).bind fun t137 => (some t137)) else (some (([] : List (S41)))))
theorem spec_CornerShape.mono : ∀ a0 k, LeO (spec_CornerShape.f k a0) (spec_CornerShape.f (k + 1) a0) := by
  intro a0 k
  unfold spec_CornerShape.f
  repeat' first
      | (with_reducible exact spec_l2Corner.mono _ _)
      | (with_reducible exact LeO.refl _)
      | (with_reducible exact LeO.none _)
      | (with_reducible refine LeO.ite ?_ ?_)
      | (with_reducible refine LeO.bind ?_ (fun _ => ?_))
      | exact spec_l2Corner.mono _ _
      | exact LeO.none _
      | refine LeO.ite ?_ ?_
      | refine LeO.bind ?_ (fun _ => ?_)
set_option maxHeartbeats 8000000 in
set_option maxRecDepth 100000 in
theorem spec_CornerShape.calls (k : Nat) (A0 : Option Addr) (c0 : Nat) (l0 : List (S41)) (r : List (S41)) (w : World) (hr0 : Kd.C k41 w A0 l0.length l0) (hc0 : l0.length ≤ c0) (h : spec_CornerShape.f k l0 = some r) :
    Calls Try.prog 38 #[.slice A0 l0.length c0] w fun e w' => ∃ v0_ : Value, e = .returned (v0_) ∧ Kd.R k41 41 w' w.heap.size (fun _ => True) v0_ r ∧ Below w.heap.size w w' := by
  have HR0 := Aside0.mk hr0
  have HC0 := Aside0.mk hc0
  clear hr0 hc0
  have HB := Aside0.mk (Below.refl w.heap.size w)
  have H : ((spec_IsShape.f l0).bind fun t136 => (if t136 = true then ((spec_l2Corner.f k l0).bind fun t137 => (some t137)) else (some (([] : List (S41)))))) = some r := h
  clear h
  replace H := Option.bind_eq_some_iff.mp H
  obtain ⟨t136, A20, H⟩ := H
  replace H : (if t136 = true then ((spec_l2Corner.f k l0).bind fun t137 => (some t137)) else (some (([] : List (S41))))) = some r := H
  have A2 := Aside0.mk A20
  clear A20
  by_cases c3 : t136 = true
  · subst c3
    have H1 : ((spec_l2Corner.f k l0).bind fun t137 => (some t137)) = some r := by rw [if_pos rfl] at H; exact H
    clear H
    have H := H1
    clear H1
    replace H := Option.bind_eq_some_iff.mp H
    obtain ⟨t137, A40, H⟩ := H
    replace H : (some t137) = some r := H
    have A4 := Aside0.mk A40
    clear A40
    obtain rfl := Option.some.inj H
    go_enter Try.func38, Try.ntmps38
    go_wp2_with (first | ((with_reducible refine gate_callee (f := 23) rfl ?_); refine goesL_ (some 4) rfl rfl Try.func23 (by kernel_rfl) rfl #[.slice A0 l0.length c0] rfl (by (try simp only [List.map_toArray, List.map_cons, List.map_nil]); first | done | rfl | (simp only [List.length_drop, List.length_take]; rfl)) ?_; (with_reducible refine (spec_IsShape.calls _ _ l0 true _ ?side1 ?side2 A2.out).mono ?_); (case side1 => repeat (first | exact HR0.out | (with_reducible refine Kd.C_alloc ?_ _) | (with_reducible refine Kd.C_drewN ?_ _) | (with_reducible refine Kd.C_drew ?_))); (case side2 => exact HC0.out); rintro e w5 ⟨rfl, hb⟩; refine ⟨_, rfl, ?_⟩; have n0_ := Aside0.mk (below_step (by repeat (first | (with_reducible first | exact HB.out | apply below_alloc | apply pw_below_drewN | apply below_drew1) | exact HB.out)) hb); clear HB; have HB := n0_; clear n0_; (try clear hb); (try clear hb2); (try clear hk); (try clear hi)) | ((with_reducible refine gate_callee (f := 53) rfl ?_); refine goesL_ (some 8) rfl rfl Try.func53 (by kernel_rfl) rfl #[.slice A0 l0.length c0] rfl (by (try simp only [List.map_toArray, List.map_cons, List.map_nil]); first | done | rfl | (simp only [List.length_drop, List.length_take]; rfl)) ?_; (with_reducible refine (spec_l2Corner.calls k _ _ l0 t137 _ ?side1 ?side2 A4.out).mono ?_); (case side1 => repeat (first | exact (Kd.C_below HR0.out HB.out) | (with_reducible refine Kd.C_alloc ?_ _) | (with_reducible refine Kd.C_drewN ?_ _) | (with_reducible refine Kd.C_drew ?_))); (case side2 => exact HC0.out); rintro e w6 ⟨v138, rfl, ho0, hb⟩; refine ⟨_, rfl, ?_⟩; have n0_ := Aside0.mk (Kd.R_lower ho0 (below_size (by repeat (first | (with_reducible first | exact HB.out | apply below_alloc | apply pw_below_drewN | apply below_drew1) | exact HB.out)))); have n1_ := Aside0.mk (below_step (by repeat (first | (with_reducible first | exact HB.out | apply below_alloc | apply pw_below_drewN | apply below_drew1) | exact HB.out)) hb); clear HB; have HO139 := n0_; have HB := n1_; clear n0_ n1_; (try clear hb); (try clear hb2); (try clear hk); (try clear hi); (try clear ho0)))
    go_ret
    exact ⟨_, by first | rfl | (simp [errW_none, errW_some] <;> rfl) | (simp [*, errW_none, errW_some] <;> rfl), by (with_reducible repeat (first | apply Kd.R_alloc | apply Kd.R_drewN | apply Kd.R_drew)); exact HO139.out, by repeat (first | (with_reducible first | exact HB.out | apply below_alloc | apply pw_below_drewN | apply below_drew1) | exact HB.out)⟩
  · replace c3 := Bool.eq_false_iff.mpr c3
    subst c3
    have H1 : (some (([] : List (S41)))) = some r := by rw [if_neg (show ¬ (false = true) by decide)] at H; exact H
    clear H
    have H := H1
    clear H1
    obtain ⟨y140, hy140⟩ : ∃ y_ : List (S41), y_ = (([] : List (S41))) := ⟨_, rfl⟩
    replace H : (some y140) = some r := by first | (rw [hy140]; with_reducible exact H) | (have H2_ := (Option.bind_some _ _).symm.trans H; rw [hy140]; with_reducible exact H2_) | (have H2_ := (Option.bind_some _ _).symm.trans H; with_reducible exact H2_) | with_reducible exact H | (rw [hy140]; exact H) | exact H
    have Ny140 := Aside0.mk hy140
    clear hy140
    obtain rfl := Option.some.inj H
    go_enter Try.func38, Try.ntmps38
    go_wp2_with (first | ((with_reducible refine gate_callee (f := 23) rfl ?_); refine goesL_ (some 4) rfl rfl Try.func23 (by kernel_rfl) rfl #[.slice A0 l0.length c0] rfl (by (try simp only [List.map_toArray, List.map_cons, List.map_nil]); first | done | rfl | (simp only [List.length_drop, List.length_take]; rfl)) ?_; (with_reducible refine (spec_IsShape.calls _ _ l0 false _ ?side1 ?side2 A2.out).mono ?_); (case side1 => repeat (first | exact HR0.out | (with_reducible refine Kd.C_alloc ?_ _) | (with_reducible refine Kd.C_drewN ?_ _) | (with_reducible refine Kd.C_drew ?_))); (case side2 => exact HC0.out); rintro e w7 ⟨rfl, hb⟩; refine ⟨_, rfl, ?_⟩; have n0_ := Aside0.mk (below_step (by repeat (first | (with_reducible first | exact HB.out | apply below_alloc | apply pw_below_drewN | apply below_drew1) | exact HB.out)) hb); clear HB; have HB := n0_; clear n0_; (try clear hb); (try clear hb2); (try clear hk); (try clear hi)) | ((with_reducible refine gate_dst (N := 6) rfl ?_); refine Kd.R_lit k41 _ 41 ?hg (N := 6) ?hd (xs := ([] : List (S41))) (inner := []) (ok := fun _ => True) (okp := fun _ => True) ?hr ?hp (fun _ hk => hk) trivial (Below.refl _ _) (Nat.le_refl _) (by simp) ?_; (case hd => rfl); (case hg => rfl); (case hr => first | (go_simp; done) | (go_simp; rfl)); (case hp => exact (Reps.none _ _)); intro v141 w8 ho9 hb hg_ hnew_; clear hg_ hnew_; (first | rw [← Ny140.out] at ho9 | (simp only [Int.reduceToNat] at ho9; rw [← Ny140.out] at ho9)); have n0_ := Aside0.mk (Kd.R_lower ho9 (below_size (by repeat (first | (with_reducible first | exact HB.out | apply below_alloc | apply pw_below_drewN | apply below_drew1) | exact HB.out)))); have n1_ := Aside0.mk (below_step (by repeat (first | (with_reducible first | exact HB.out | apply below_alloc | apply pw_below_drewN | apply below_drew1) | exact HB.out)) hb); clear HB; have HO142 := n0_; have HB := n1_; clear n0_ n1_; clear hb ho9))
    go_ret
    exact ⟨_, by first | rfl | (simp [errW_none, errW_some] <;> rfl) | (simp [*, errW_none, errW_some] <;> rfl), by (with_reducible repeat (first | apply Kd.R_alloc | apply Kd.R_drewN | apply Kd.R_drew)); exact HO142.out, by repeat (first | (with_reducible first | exact HB.out | apply below_alloc | apply pw_below_drewN | apply below_drew1) | exact HB.out)⟩
def spec_SizeOf.l0 : Nat → List (S41) → Int → Int → Int → Option (Int × Int)
  | 0, _, _, _, _ => none
  | k + 1, x4, x5, x6, x7 => if x7 < (x4.length : Int) then (if 0 ≤ x7 then (spec_SizeOf.l0 k x4 (mx x5 (wrap64 (((rd_T41 x4 x7).f0) + 1))) (mx x6 (wrap64 (((rd_T41 x4 x7).f1) + 1))) (wrap64 (x7 + 1))) else (none)) else (some (x5, x6))
def spec_SizeOf.f (k : Nat) (l0 : List (S41)) : Option (Int × Int) := (spec_CornerShape.f k l0).bind fun t301 => (spec_SizeOf.l0 k t301 0 0 0)
theorem spec_SizeOf.mono_l : ∀ k, (∀ y0 y1 y2 y3, LeO (spec_SizeOf.l0 k y0 y1 y2 y3) (spec_SizeOf.l0 (k + 1) y0 y1 y2 y3))
  | 0 => fun _ _ _ _ r h => by simp [spec_SizeOf.l0] at h
  | k + 1 => by
    have ih0 := spec_SizeOf.mono_l k
    · intro y0 y1 y2 y3
      unfold spec_SizeOf.l0
      repeat' first
      | (with_reducible exact ih0 _ _ _ _)
      | (with_reducible exact spec_CornerShape.mono _ _)
      | (with_reducible exact LeO.refl _)
      | (with_reducible exact LeO.none _)
      | (with_reducible refine LeO.ite ?_ ?_)
      | (with_reducible refine LeO.bind ?_ (fun _ => ?_))
      | exact ih0 _ _ _ _
      | exact spec_CornerShape.mono _ _
      | exact LeO.none _
      | refine LeO.ite ?_ ?_
      | refine LeO.bind ?_ (fun _ => ?_)
theorem spec_SizeOf.mono : ∀ a0 k, LeO (spec_SizeOf.f k a0) (spec_SizeOf.f (k + 1) a0) := by
  intro a0 k
  have ih0 := spec_SizeOf.mono_l k
  unfold spec_SizeOf.f
  repeat' first
      | (with_reducible exact ih0 _ _ _ _)
      | (with_reducible exact spec_CornerShape.mono _ _)
      | (with_reducible exact LeO.refl _)
      | (with_reducible exact LeO.none _)
      | (with_reducible refine LeO.ite ?_ ?_)
      | (with_reducible refine LeO.bind ?_ (fun _ => ?_))
      | exact ih0 _ _ _ _
      | exact spec_CornerShape.mono _ _
      | exact LeO.none _
      | refine LeO.ite ?_ ?_
      | refine LeO.bind ?_ (fun _ => ?_)
set_option maxHeartbeats 8000000 in
set_option maxRecDepth 100000 in
theorem spec_SizeOf.calls (k : Nat) (A0 : Option Addr) (c0 : Nat) (l0 : List (S41)) (r1 : Int) (r2 : Int) (w : World) (hr0 : Kd.C k41 w A0 l0.length l0) (hc0 : l0.length ≤ c0) (h : spec_SizeOf.f k l0 = some (r1, r2)) :
    Calls Try.prog 37 #[.slice A0 l0.length c0] w fun e w' => e = .returned (.tuple #[.int .i64 r1, .int .i64 r2]) ∧ Below w.heap.size w w' := by
  have HR0 := Aside0.mk hr0
  have HC0 := Aside0.mk hc0
  clear hr0 hc0
  have HB := Aside0.mk (Below.refl w.heap.size w)
  have H : ((spec_CornerShape.f k l0).bind fun t301 => (spec_SizeOf.l0 k t301 0 0 0)) = some (r1, r2) := h
  clear h
  replace H := Option.bind_eq_some_iff.mp H
  obtain ⟨t301, A20, H⟩ := H
  replace H : (spec_SizeOf.l0 k t301 0 0 0) = some (r1, r2) := H
  have A2 := Aside0.mk A20
  clear A20
  have H' := Aside0.mk H
  clear H
  go_enter Try.func37, Try.ntmps37
  go_wp2_with (first | ((with_reducible refine gate_callee (f := 38) rfl ?_); refine goesL_ (some 9) rfl rfl Try.func38 (by kernel_rfl) rfl #[.slice A0 l0.length c0] rfl (by (try simp only [List.map_toArray, List.map_cons, List.map_nil]); first | done | rfl | (simp only [List.length_drop, List.length_take]; rfl)) ?_; (with_reducible refine (spec_CornerShape.calls k _ _ l0 t301 _ ?side1 ?side2 A2.out).mono ?_); (case side1 => repeat (first | exact HR0.out | (with_reducible refine Kd.C_alloc ?_ _) | (with_reducible refine Kd.C_drewN ?_ _) | (with_reducible refine Kd.C_drew ?_))); (case side2 => exact HC0.out); rintro e w3 ⟨v302, rfl, ho0, hb⟩; refine ⟨_, rfl, ?_⟩; have n0_ := Aside0.mk (Kd.R_lower ho0 (below_size (by repeat (first | (with_reducible first | exact HB.out | apply below_alloc | apply pw_below_drewN | apply below_drew1) | exact HB.out)))); have n1_ := Aside0.mk (below_step (by repeat (first | (with_reducible first | exact HB.out | apply below_alloc | apply pw_below_drewN | apply below_drew1) | exact HB.out)) hb); clear HB; have HO303 := n0_; have HB := n1_; clear n0_ n1_; (try clear hb); (try clear hb2); (try clear hk); (try clear hi); (try clear ho0)))
  go_loopg [5, 6, 7] k (fun kq v5 v6 v7 w' => ∃ (x5_1 : Int) (x6_1 : Int) (x7_1 : Int), v5 = .int .i64 x5_1 ∧ v6 = .int .i64 x6_1 ∧ v7 = .int .i64 x7_1 ∧ Aside0 (spec_SizeOf.l0 kq t301 x5_1 x6_1 x7_1 = some (r1, r2)) ∧ Aside0 (kq ≤ k) ∧ Aside0 (Kd.R k41 41 w' w.heap.size (fun _ => True) v302 t301) ∧ Aside0 (Below w.heap.size w w'))
  case atStart => exact ⟨(0), (0), (0), (by first | rfl | (simp; done) | (simp [*]; done)), (by first | rfl | (simp; done) | (simp [*]; done)), (by first | rfl | (simp; done) | (simp [*]; done)), H', ⟨Nat.le_refl _⟩, ⟨by (with_reducible repeat (first | apply Kd.R_alloc | apply Kd.R_drewN | apply Kd.R_drew)); exact HO303.out⟩, ⟨by repeat (first | (with_reducible first | exact HB.out | apply below_alloc | apply pw_below_drewN | apply below_drew1) | exact HB.out)⟩⟩
  case round =>
    clear H'
    try clear p2
    try clear c3
    obtain ⟨x5_1, x6_1, x7_1, rfl, rfl, rfl, HA, HK1, HO_4, HB⟩ := hrel
    cases gk with
    | zero => exact absurd HA.out (by simp [spec_SizeOf.l0])
    | succ k1 =>
      have H := HA.out
      clear HA
      simp only [spec_SizeOf.l0] at H
      by_cases c4 : x7_1 < (t301.length : Int)
      · rw [if_pos c4] at H
        have c4b0 : decide (x7_1 < (t301.length : Int)) = true := decide_eq_true c4
        clear c4
        by_cases c5 : 0 ≤ x7_1
        · rw [if_pos c5] at H
          have c5b0 : decide (0 ≤ x7_1) = true := decide_eq_true c5
          clear c5
          obtain ⟨ji6, hji6⟩ : ∃ j_ : Int, (mx x5_1 (wrap64 (((rd_T41 t301 x7_1).f0) + 1))) = j_ := ⟨_, rfl⟩
          replace H : (spec_SizeOf.l0 k1 t301 ji6 (mx x6_1 (wrap64 (((rd_T41 t301 x7_1).f1) + 1))) (wrap64 (x7_1 + 1))) = some (r1, r2) := by first | (rw [hji6] at H; exact H) | (simp only [hji6] at H ⊢; exact H)
          have hji6_ : (if x5_1 < (wrap64 (((rd_T41 t301 x7_1).f0) + 1)) then (wrap64 (((rd_T41 t301 x7_1).f0) + 1)) else x5_1) = ji6 := hji6
          obtain ⟨ji7, hji7⟩ : ∃ j_ : Int, (mx x6_1 (wrap64 (((rd_T41 t301 x7_1).f1) + 1))) = j_ := ⟨_, rfl⟩
          replace H : (spec_SizeOf.l0 k1 t301 ji6 ji7 (wrap64 (x7_1 + 1))) = some (r1, r2) := by first | (rw [hji7] at H; exact H) | (simp only [hji7] at H ⊢; exact H)
          have hji7_ : (if x6_1 < (wrap64 (((rd_T41 t301 x7_1).f1) + 1)) then (wrap64 (((rd_T41 t301 x7_1).f1) + 1)) else x6_1) = ji7 := hji7
          have H' := Aside0.mk H
          clear H
          obtain ⟨Ao8, co8, eo8⟩ := Kd.R_slice HO_4.out
          subst eo8
          have p304 : 0 ≤ (x7_1 : Int) := of_decide_eq_true (by first | (with_reducible assumption) | assumption)
          have q304 : x7_1 < (t301.length : Int) := of_decide_eq_true (by first | (with_reducible assumption) | assumption)
          obtain ⟨ad304, e304, hx304_0, hx304_1⟩ := at_T41 (Kd.R_reads' HO_4.out).2.2 x7_1 p304 q304
          cases e304
          replace p304 := eq_true p304
          replace q304 := eq_true q304
          have p305 : 0 ≤ (x7_1 : Int) := of_decide_eq_true (by first | (with_reducible assumption) | assumption)
          have q305 : x7_1 < (t301.length : Int) := of_decide_eq_true (by first | (with_reducible assumption) | assumption)
          obtain ⟨ad305, e305, hx305_0, hx305_1⟩ := at_T41 (Kd.R_reads' HO_4.out).2.2 x7_1 p305 q305
          obtain rfl : ad304 = ad305 := (by injection e305)
          replace p305 := eq_true p305
          replace q305 := eq_true q305
          go_wp2
          go_roundg k1
          case measure => have := HK1.out; omega
          case rel => exact ⟨(ji6), (ji7), (wrap64 (x7_1 + 1)), (by first | rfl | (simp; done) | (simp only [← hji6] <;> (first | rfl | simp)) | (simp [*]; done)), (by first | rfl | (simp; done) | (simp only [← hji7] <;> (first | rfl | simp)) | (simp [*]; done)), (by first | rfl | (simp; done) | (simp [*]; done)), H', ⟨by have := HK1.out; omega⟩, ⟨by (with_reducible repeat (first | apply Kd.R_alloc | apply Kd.R_drewN | apply Kd.R_drew)); exact HO_4.out⟩, ⟨by repeat (first | (with_reducible first | exact HB.out | apply below_alloc | apply pw_below_drewN | apply below_drew1) | exact HB.out)⟩⟩
        · rw [if_neg c5] at H
          exact absurd H (by simp)
      · rw [if_neg c4] at H
        have c4b0 : decide (x7_1 < (t301.length : Int)) = false := decide_eq_false c4
        clear c4
        simp only [Option.some.injEq, Prod.mk.injEq] at H
        obtain ⟨rfl, rfl⟩ := H
        obtain ⟨Ao9, co9, eo9⟩ := Kd.R_slice HO_4.out
        subst eo9
        go_wp2
        go_ret2
        exact ⟨by first | rfl | (simp [errW_none, errW_some] <;> rfl) | (simp [*, errW_none, errW_some] <;> rfl), by repeat (first | (with_reducible first | exact HB.out | apply below_alloc | apply pw_below_drewN | apply below_drew1) | exact HB.out)⟩
end Go.Proofs.Ytlohfeicfhmlmaa.PFnOutlines

namespace Go.Proofs.Ytlohfeicfhmlmaa.PFnOutlines
open Go.RowKit Go.Proofs.YtlohfeicfhmlmaaW.PrintWords Go.Proofs.YtlohfeicfhmlmaaW.PrintLast Go.Proofs.YtlohfeicfhmlmaaW.PrintMore ETool
set_option maxHeartbeats 4000000 in
set_option maxRecDepth 100000 in
theorem iHangs (A0 : Option Addr) (c0 : Nat) (l0 : List S41) (w : World) (hr0 : Kd.C k41 w A0 l0.length l0) (hc0 : l0.length ≤ c0) (hs : isShapeB l0 = true) :
    Calls Try.prog 64 #[.slice A0 l0.length c0] w fun e w' => e = .returned (.bool (cnB l0)) ∧ Below w.heap.size w w' := by
  have hu41 := Try.underlying41
  have HR0 := Aside0.mk hr0
  have HS := Aside0.mk hs
  obtain ⟨hl1, hl8⟩ := shape_len hs
  have hne : ((l0.length : Int) == 0) = false := by rw [beq_eq_false_iff_ne]; omega
  have HI0 := Aside0.mk (HInv.start hl1)
  clear hr0 hs
  go_enter Try.func64, Try.ntmps64
  go_upto_region 4 with (first
    | ((with_reducible refine gate_dst (N := 13) rfl ?_); refine Kd.R_make Kd.bool _ 4 rfl (N := 13) rfl 70 _ _ rfl (l0.length : Int) rfl rfl Try.underlying70 (.bool false) 1 info4 rfl (by decide) (by omega) false (ok := fun _ => True) (okp := fun _ => True) rfl (fun _ hk => hk) trivial (by omega) (by omega) (Below.refl _ _) (Nat.le_refl _) ?_; intro v3 w3 ho hb hg_ hnew_; have HO := Aside0.mk ho; have HB := Aside0.mk hb; clear ho hb hg_ hnew_))
  rw [Int.toNat_natCast] at HO
  obtain ⟨go, co, eo, gb, gl, cl, HG⟩ := Kd.R_form HO.out (by simp; omega)
  subst eo
  simp only [List.length_replicate] at HO ⊢
  have GB := Aside0.mk gb
  clear gb gl HG
  have hc0' : w3.cell? ⟨go, 0, none⟩ = some (.bool (rdOf false (List.replicate l0.length false) 0)) := (Kd.R_celln false HO.out 0 (by omega) (by omega)).1
  have hf0' : w3.frozen? ⟨go, 0, none⟩ = false := (Kd.R_celln false HO.out 0 (by omega) (by omega)).2
  have hpos : 0 < l0.length := by omega
  go_upto_region 7 with (fail)
  have HO4 := Aside0.mk (show Kd.R Kd.bool 4 (w3.setCell ⟨go, 0, none⟩ (.bool true)) w.heap.size (fun _ => True) (.slice (some ⟨go, 0, none⟩) l0.length co) ((List.replicate l0.length false).set 0 true) from Kd.R_putn HO.out 0 true)
  have HB4 := Aside0.mk (below_set (j := 0) (v := .bool true) HB.out GB.out)
  clear hc0' hf0' HO HB
  go_loopg [4, 5] (2 * l0.length + 1) (fun k v4 v5 w' => ∃ (cnt : Int) (more : Bool) (xs : List Bool), v4 = .int .i64 cnt ∧ v5 = .bool more ∧ Aside0 (HInv l0 xs cnt) ∧ Aside0 (more = false → HClosed l0 xs) ∧ Aside0 (2 * ((l0.length : Int) - cnt) + (if more = true then 1 else 0) ≤ k) ∧ Aside0 (Kd.R Kd.bool 4 w' w.heap.size (fun _ => True) (.slice (some ⟨go, 0, none⟩) l0.length co) xs) ∧ Aside0 (Below w.heap.size w w'))
  case atStart => exact ⟨1, true, _, rfl, rfl, HI0, ⟨fun h => by cases h⟩, ⟨by simp; omega⟩, HO4, HB4⟩
  case round =>
    clear HI0 HO4 HB4
    obtain ⟨cnt, more, xs, rfl, rfl, HI, HCL, HK, HO, HB⟩ := hrel
    cases more with
    | false =>
      have HV := Aside0.mk (cnB_val HS.out (HI.out.done HS.out (HCL.out rfl)))
      go_wp2
      go_ret
      exact ⟨by rw [HV.out]; rfl, HB.out⟩
    | true =>
      obtain ⟨g1, rfl⟩ : ∃ g1, g1 = gk := ⟨gk, rfl⟩
      have HC0 := Aside0.mk (show (2 * ((l0.length : Int) - cnt) + 1 ≤ g1) ∧ cnt ≤ l0.length from ⟨HK.out, HI.out.le.2⟩)
      go_upto_region 10 with (fail)
      go_loopg [4, 5, 19] l0.length (fun k v4 v5 v19 w' => ∃ (c1 : Int) (m1 : Bool) (ys : List Bool) (i : Int), v4 = .int .i64 c1 ∧ v5 = .bool m1 ∧ v19 = .int .i64 i ∧ 0 ≤ i ∧ i ≤ l0.length ∧ Aside0 ((l0.length : Int) - i ≤ k) ∧ Aside0 (HInv l0 ys c1) ∧ Aside0 (m1 = true → cnt < c1) ∧ Aside0 (m1 = false → c1 = cnt ∧ ∀ p q : Int, 0 ≤ p → p < i → 0 ≤ q → q < l0.length → sn ys p = true → nearB (rd_T41 l0 p) (rd_T41 l0 q) = true → sn ys q = true) ∧ Aside0 (Kd.R Kd.bool 4 w' w.heap.size (fun _ => True) (.slice (some ⟨go, 0, none⟩) l0.length co) ys) ∧ Aside0 (Below w.heap.size w w'))
      case atStart => exact ⟨cnt, false, xs, 0, rfl, rfl, rfl, by omega, by omega, ⟨by omega⟩, HI, ⟨fun h => by cases h⟩, ⟨fun _ => ⟨rfl, fun p q h0 h1 => absurd h1 (by omega)⟩⟩, HO, HB⟩
      case round =>
        clear HI HCL HK HO HB
        obtain ⟨c1, m1, ys, i, rfl, rfl, rfl, hi0, hin, HK, HI, HM1, HM2, HO, HB⟩ := hrel
        obtain ⟨g2, rfl⟩ : ∃ g2, g2 = gk := ⟨gk, rfl⟩
        by_cases hlt : i < (l0.length : Int)
        · go_upto_region 13 with (fail)
          go_loopg [4, 5, 24] l0.length (fun k v4 v5 v24 w' => ∃ (c2 : Int) (m2 : Bool) (zs : List Bool) (j : Int), v4 = .int .i64 c2 ∧ v5 = .bool m2 ∧ v24 = .int .i64 j ∧ 0 ≤ j ∧ j ≤ l0.length ∧ Aside0 ((l0.length : Int) - j ≤ k) ∧ Aside0 (HInv l0 zs c2) ∧ Aside0 (m2 = true → cnt < c2) ∧ Aside0 (m2 = false → c2 = cnt ∧ (∀ p q : Int, 0 ≤ p → p < i → 0 ≤ q → q < l0.length → sn zs p = true → nearB (rd_T41 l0 p) (rd_T41 l0 q) = true → sn zs q = true) ∧ ∀ q : Int, 0 ≤ q → q < j → sn zs i = true → nearB (rd_T41 l0 i) (rd_T41 l0 q) = true → sn zs q = true) ∧ Aside0 (Kd.R Kd.bool 4 w' w.heap.size (fun _ => True) (.slice (some ⟨go, 0, none⟩) l0.length co) zs) ∧ Aside0 (Below w.heap.size w w'))
          case atStart => exact ⟨c1, m1, ys, 0, rfl, rfl, rfl, by omega, by omega, ⟨by omega⟩, HI, HM1, ⟨fun h => ⟨(HM2.out h).1, (HM2.out h).2, fun q h0 h1 => absurd h1 (by omega)⟩⟩, HO, HB⟩
          case round =>
            clear HI HM1 HM2 HO HB
            obtain ⟨c2, m2, zs, j, rfl, rfl, rfl, hj0, hjn, HK3, HI, HM1, HM2, HO, HB⟩ := hrel
            by_cases hjl : j < (l0.length : Int)
            · have hrr := Kd.C_below HR0.out HB.out
              obtain ⟨ad, e, hx0, hx1⟩ := at_T41 hrr i hi0 hlt
              cases e
              obtain ⟨ad', e', hy0, hy1⟩ := at_T41 hrr j hj0 hjl
              obtain rfl : ad = ad' := by injection e'
              have sa := shape_sm HS.out i hi0 hlt
              have sb := shape_sm HS.out j hj0 hjl
              have rx0 := BW.cell hx0
              have rx1 := BW.cell hx1
              have ry0 := BW.cell hy0
              have ry1 := BW.cell hy1
              have hsi : wr.cell? ⟨go, i.toNat, none⟩ = some (.bool (sn zs i)) := (Kd.R_celln false HO.out i hi0 hlt).1
              have hsj : wr.cell? ⟨go, j.toNat, none⟩ = some (.bool (sn zs j)) := (Kd.R_celln false HO.out j hj0 hjl).1
              have hle := HI.out.le
              obtain ⟨hle0, hle1⟩ := hle
              clear hx0 hx1 hy0 hy1 hrr
              have HNO := Aside0.mk (show (sn zs i = true → nearB (rd_T41 l0 i) (rd_T41 l0 j) = true → sn zs j = true) → m2 = false → c2 = cnt ∧ (∀ p q : Int, 0 ≤ p → p < i → 0 ≤ q → q < l0.length → sn zs p = true → nearB (rd_T41 l0 p) (rd_T41 l0 q) = true → sn zs q = true) ∧ ∀ q : Int, 0 ≤ q → q < j + 1 → sn zs i = true → nearB (rd_T41 l0 i) (rd_T41 l0 q) = true → sn zs q = true from fun h hm => ⟨(HM2.out hm).1, (HM2.out hm).2.1, fun q h0 h1 => by
                by_cases hq : q = j
                · exact hq ▸ h
                · exact (HM2.out hm).2.2 q h0 (by omega)⟩)
              go_upto_region 15 with (fail)
              refine quiet_b (by kernel_rfl) (by kernel_rfl) ?_
              rcases hbi : sn zs i with _ | _
              · rw [hbi] at hsi
                have rsi := BW.cell hsi
                have HZ := Aside0.mk (HNO.out (fun h => by rw [hbi] at h; cases h))
                repeat (with_reducible refine wpQuiet_step ?_; intro K hK; go_simp; first | (with_reducible apply Exists.intro; with_reducible refine ⟨fun _ => ?_, hK _ ?_⟩; (fail); clear hK K) | (with_reducible refine hK _ ?_; clear hK K) | (rw [if_neg (by decide)]; with_reducible refine hK _ ?_; clear hK K))
                with_reducible refine wpQuiet_nil ?_
                refine quiet_end ?_
                intro W5 hb5
                go_wp2
                go_roundg (gk - 1)
                case rel => exact ⟨c2, m2, zs, j + 1, rfl, rfl, rfl, by omega, by omega, ⟨by have := HK3.out; omega⟩, HI, HM1, HZ, ⟨Kd.R_below HO.out hb5⟩, ⟨below_step HB.out hb5⟩⟩
                case measure => have := HK3.out; omega
              rw [hbi] at hsi
              have rsi := BW.cell hsi
              rcases hbj : sn zs j with _ | _
              rotate_left 1
              · rw [hbj] at hsj
                have rsj := BW.cell hsj
                have HZ := Aside0.mk (HNO.out (fun _ _ => hbj))
                repeat (with_reducible refine wpQuiet_step ?_; intro K hK; go_simp; first | (with_reducible apply Exists.intro; with_reducible refine ⟨fun _ => ?_, hK _ ?_⟩; (fail); clear hK K) | (with_reducible refine hK _ ?_; clear hK K) | (rw [if_neg (by decide)]; with_reducible refine hK _ ?_; clear hK K))
                with_reducible refine wpQuiet_nil ?_
                refine quiet_end ?_
                intro W5 hb5
                go_wp2
                go_roundg (gk - 1)
                case rel => exact ⟨c2, m2, zs, j + 1, rfl, rfl, rfl, by omega, by omega, ⟨by have := HK3.out; omega⟩, HI, HM1, HZ, ⟨Kd.R_below HO.out hb5⟩, ⟨below_step HB.out hb5⟩⟩
                case measure => have := HK3.out; omega
              rw [hbj] at hsj
              have rsj := BW.cell hsj
              rcases hb : nearB ⟨(rd_T41 l0 i).f0, (rd_T41 l0 i).f1⟩ ⟨(rd_T41 l0 j).f0, (rd_T41 l0 j).f1⟩ with _ | _
              · have HZ := Aside0.mk (HNO.out (fun _ h => by rw [show nearB (rd_T41 l0 i) (rd_T41 l0 j) = false from hb] at h; cases h))
                repeat (with_reducible refine wpQuiet_step ?_; intro K hK; go_simp; first | (with_reducible apply Exists.intro; with_reducible refine ⟨fun _ => ?_, hK _ ?_⟩; (go_at_call 35; with_reducible exact inear_b sa sb hb _); clear hK K) | (with_reducible refine hK _ ?_; clear hK K) | (rw [if_neg (by decide)]; with_reducible refine hK _ ?_; clear hK K))
                with_reducible refine wpQuiet_nil ?_
                refine quiet_end ?_
                intro W5 hb5
                go_wp2
                go_roundg (gk - 1)
                case rel => exact ⟨c2, m2, zs, j + 1, rfl, rfl, rfl, by omega, by omega, ⟨by have := HK3.out; omega⟩, HI, HM1, HZ, ⟨Kd.R_below HO.out hb5⟩, ⟨below_step HB.out hb5⟩⟩
                case measure => have := HK3.out; omega
              · have HI2 := Aside0.mk (HI.out.step hi0 hlt hj0 hjl hbi hbj hb)
                repeat (with_reducible refine wpQuiet_step ?_; intro K hK; go_simp; first | (with_reducible apply Exists.intro; with_reducible refine ⟨fun _ => ?_, hK _ ?_⟩; (go_at_call 35; with_reducible exact inear_b sa sb hb _); clear hK K) | (with_reducible refine hK _ ?_; clear hK K) | (rw [if_neg (by decide)]; with_reducible refine hK _ ?_; clear hK K))
                with_reducible refine wpQuiet_nil ?_
                refine quiet_end ?_
                intro W5 hb5
                have HO5 := Aside0.mk (Kd.R_below HO.out hb5)
                have hw5 := (Kd.R_celln false HO5.out j hj0 hjl).1
                have hz5 := (Kd.R_celln false HO5.out j hj0 hjl).2
                have HM3 := Aside0.mk (show cnt < c2 + 1 from by
                  cases m2 with
                  | true => have := HM1.out rfl; omega
                  | false => have := (HM2.out rfl).1; omega)
                have HB5 := Aside0.mk (below_step HB.out hb5)
                clear HM1 HM2 HNO HO HB
                go_wp2
                go_roundg (gk - 1)
                case rel => exact ⟨c2 + 1, true, zs.set j.toNat true, j + 1, rfl, rfl, rfl, by omega, by omega, ⟨by have := HK3.out; omega⟩, HI2, ⟨fun _ => HM3.out⟩, ⟨fun h => by cases h⟩, ⟨Kd.R_putn HO5.out j true⟩, ⟨below_set HB5.out GB.out⟩⟩
                case measure => have := HK3.out; omega
            · have HZ := Aside0.mk (show m2 = false → c2 = cnt ∧ ∀ p q : Int, 0 ≤ p → p < i + 1 → 0 ≤ q → q < l0.length → sn zs p = true → nearB (rd_T41 l0 p) (rd_T41 l0 q) = true → sn zs q = true from fun hm => ⟨(HM2.out hm).1, fun p q h0 h1 h2 h3 => by
                by_cases hp : p = i
                · exact hp ▸ (HM2.out hm).2.2 q h2 (by omega)
                · exact (HM2.out hm).2.1 p q h0 (by omega) h2 h3⟩)
              go_wp2
              go_roundg (g2 - 1)
              case rel => exact ⟨c2, m2, zs, i + 1, rfl, rfl, rfl, by omega, by omega, ⟨by have := HK.out; omega⟩, HI, HM1, HZ, HO, HB⟩
              case measure => have := HK.out; omega
        · have HZ := Aside0.mk (show m1 = false → HClosed l0 ys from fun hm p q h0 h1 h2 h3 => (HM2.out hm).2 p q h0 (by omega) h2 h3)
          have HL := Aside0.mk (show 2 * ((l0.length : Int) - c1) + (if m1 = true then 1 else 0) ≤ ((g1 - 1 : Nat) : Int) from by
            have h1 := HC0.out.1
            have h2 := HI.out.le
            cases m1 with
            | true => have := HM1.out rfl; simp; omega
            | false => have := (HM2.out rfl).1; simp; omega)
          go_wp2
          go_roundg (g1 - 1)
          case rel => exact ⟨c1, m1, ys, rfl, rfl, HI, HZ, HL, HO, HB⟩
          case measure => have := HC0.out; omega
end Go.Proofs.Ytlohfeicfhmlmaa.PFnOutlines

namespace Go.Proofs.Ytlohfeicfhmlmaa.PFnOutlines
open Go.RowKit Go.Proofs.YtlohfeicfhmlmaaW.PrintWords Go.Proofs.YtlohfeicfhmlmaaW.PrintLast Go.Proofs.YtlohfeicfhmlmaaW.PrintMore ETool
set_option maxHeartbeats 4000000 in
set_option maxRecDepth 100000 in
theorem iConn (A0 : Option Addr) (c0 : Nat) (l0 : List S41) (w : World) (hr0 : Kd.C k41 w A0 l0.length l0) (hc0 : l0.length ≤ c0) :
    Calls Try.prog 43 #[.slice A0 l0.length c0] w fun e w' => e = .returned (.bool (cnB l0)) ∧ Below w.heap.size w w' := by
  have HC := Aside0.mk (iIsShape A0 c0 l0 w hr0 hc0)
  have HI := Aside0.mk (fun (hs : isShapeB l0 = true) W (hb : Below w.heap.size w W) => iHangs A0 c0 l0 W (Kd.C_below hr0 hb) hc0 hs)
  clear hr0
  rcases hs : isShapeB l0 with _ | _
  · have HV := Aside0.mk (cnB_no hs)
    rw [hs] at HC
    go_enter Try.func43, Try.ntmps43
    go_wp2_with (first | (go_at_call 32; refine HC.out.mono ?_; rintro e w5 ⟨rfl, hb⟩; have HB5 := Aside0.mk hb; clear hb))
    go_ret
    exact ⟨by rw [HV.out]; rfl, HB5.out⟩
  · rw [hs] at HC
    have HI' := Aside0.mk (HI.out hs)
    clear hs
    generalize cnB l0 = n at *
    go_enter Try.func43, Try.ntmps43
    go_wp2_with (first | (go_at_call 32; refine HC.out.mono ?_; rintro e w5 ⟨rfl, hb⟩; have HB5 := Aside0.mk hb; clear hb) | (go_at_call 64; refine (HI'.out _ HB5.out).mono ?_; rintro e w6 ⟨rfl, hb⟩; have HB6 := Aside0.mk (below_step HB5.out hb); clear hb))
    go_ret
    exact ⟨rfl, HB6.out⟩
structure SInv (l zs : List S41) : Prop where
  first : rd_T41 l 0 ∈ zs
  sub : ∀ c ∈ zs, c ∈ l
  nodup : zs.Nodup
  min : ∀ S, ConnS l S → ∀ c ∈ zs, S c
theorem shape_nodup {l : List S41} (h : isShapeB l = true) : l.Nodup := by
  rw [List.Nodup, List.pairwise_iff_getElem]
  intro i j hi hj hij e
  have h1 : rd_T41 l (i : Int) = l[i] := by rw [rd_T41, Int.toNat_natCast, List.getD_eq_getElem?_getD, List.getElem?_eq_getElem hi]; rfl
  have h2 : rd_T41 l (j : Int) = l[j] := by rw [rd_T41, Int.toNat_natCast, List.getD_eq_getElem?_getD, List.getElem?_eq_getElem hj]; rfl
  have := shape_inj h (i := i) (j := j) (by omega) (by omega) (by omega) (by omega) (by rw [h1, h2, e])
  omega
theorem nodup_sub_len : ∀ {xs ys : List S41}, xs.Nodup → (∀ c ∈ xs, c ∈ ys) → xs.length ≤ ys.length
  | [], _, _, _ => Nat.zero_le _
  | x :: xs, ys, h, hs => by
    rw [List.nodup_cons] at h
    obtain ⟨a, b, e⟩ := List.append_of_mem (hs x (by simp))
    subst e
    have := nodup_sub_len (xs := xs) (ys := a ++ b) h.2 fun c hc => by
      have h1 := hs c (by simp [hc])
      simp only [List.mem_append, List.mem_cons] at h1 ⊢
      rcases h1 with h1 | h1 | h1
      · exact .inl h1
      · exact absurd (h1 ▸ hc) h.1
      · exact .inr h1
    simp only [List.length_append, List.length_cons] at this ⊢
    omega
theorem nodup_sub_all {xs ys : List S41} (h : xs.Nodup) (hs : ∀ c ∈ xs, c ∈ ys) (hl : xs.length = ys.length) : ∀ c ∈ ys, c ∈ xs := by
  intro c hc
  by_cases hx : c ∈ xs
  · exact hx
  · have := nodup_sub_len (xs := c :: xs) (ys := ys) (by rw [List.nodup_cons]; exact ⟨hx, h⟩) fun d hd => by
      rcases List.mem_cons.mp hd with rfl | hd
      · exact hc
      · exact hs d hd
    simp at this
    omega
theorem SInv.start {l : List S41} (h1 : 1 ≤ l.length) : SInv l [rd_T41 l 0] :=
  ⟨by simp, fun c hc => by rw [List.mem_singleton] at hc; subst hc; exact rd_mem (by omega) (by omega), by simp, fun S hS c hc => by rw [List.mem_singleton] at hc; subst hc; exact hS.1⟩
theorem SInv.le {l zs : List S41} (h : SInv l zs) : zs.length ≤ l.length := nodup_sub_len h.nodup h.sub
theorem SInv.step {l zs : List S41} {i j : Int} (h : SInv l zs) (hi0 : 0 ≤ i) (hi1 : i < zs.length) (hj0 : 0 ≤ j) (hj1 : j < l.length) (hn : nearB (rd_T41 zs i) (rd_T41 l j) = true) (hx : rd_T41 l j ∉ zs) : SInv l (zs ++ [rd_T41 l j]) := by
  refine ⟨by simp [h.first], ?_, ?_, ?_⟩
  · intro c hc
    rcases List.mem_append.mp hc with hc | hc
    · exact h.sub c hc
    · rw [List.mem_singleton] at hc
      subst hc
      exact rd_mem hj0 hj1
  · rw [List.nodup_append]
    exact ⟨h.nodup, by simp, fun a ha b hb => by rw [List.mem_singleton] at hb; subst hb; exact fun e => hx (e ▸ ha)⟩
  · intro S hS c hc
    rcases List.mem_append.mp hc with hc | hc
    · exact h.min S hS c hc
    · rw [List.mem_singleton] at hc
      subst hc
      obtain ⟨q, q0, q1, e⟩ := mem_rd (h.sub _ (rd_mem hi0 hi1))
      exact hS.2 q j q0 q1 hj0 hj1 (by rw [e]; exact h.min S hS _ (rd_mem hi0 hi1)) (by rw [e]; exact hn)
theorem SInv.done {l zs : List S41} (hs : isShapeB l = true) (h : SInv l zs) (hc : ∀ p q : Int, 0 ≤ p → p < zs.length → 0 ≤ q → q < l.length → nearB (rd_T41 zs p) (rd_T41 l q) = true → rd_T41 l q ∈ zs) : ((zs.length : Int) == (l.length : Int)) = true ↔ Conn l := by
  rw [beq_iff_eq]
  constructor
  · intro e S hS i h0 h1
    exact h.min S hS _ (nodup_sub_all h.nodup h.sub (by omega) _ (rd_mem h0 h1))
  · intro hC
    have hall := hC (fun c => c ∈ zs) ⟨h.first, fun i j h0 h1 h2 h3 hz hn => by
      obtain ⟨p, p0, p1, e⟩ := mem_rd hz
      exact hc p j p0 p1 h2 h3 (by rw [e]; exact hn)⟩
    have h2 := nodup_sub_len (shape_nodup hs) (ys := zs) fun c hc => by
      obtain ⟨q, q0, q1, e⟩ := mem_rd hc
      exact e ▸ hall q q0 q1
    have h3 := h.le
    omega
end Go.Proofs.Ytlohfeicfhmlmaa.PFnOutlines

namespace Go.Proofs.Ytlohfeicfhmlmaa.PFnOutlines
open Go.RowKit Go.Proofs.YtlohfeicfhmlmaaW.PrintWords Go.Proofs.YtlohfeicfhmlmaaW.PrintLast Go.Proofs.YtlohfeicfhmlmaaW.PrintMore ETool
set_option maxHeartbeats 4000000 in
set_option maxRecDepth 100000 in
theorem sConn (A0 : Option Addr) (c0 : Nat) (l0 : List S41) (w : World) (hr0 : Kd.C k41 w A0 l0.length l0) (hc0 : l0.length ≤ c0) :
    Calls Try.prog 45 #[.slice A0 l0.length c0] w fun e w' => e = .returned (.bool (cnB l0)) ∧ Below w.heap.size w w' := by
  have hu41 := Try.underlying41
  have HC := Aside0.mk (sIsShape A0 c0 l0 w hr0 hc0)
  have HR0 := Aside0.mk hr0
  clear hr0
  rcases hs : isShapeB l0 with _ | _
  · have HV := Aside0.mk (cnB_no hs)
    rw [hs] at HC
    go_enter Try.func45, Try.ntmps45
    go_wp2_with (first | (go_at_call 23; refine HC.out.mono ?_; rintro e w5 ⟨rfl, hb⟩; have HB5 := Aside0.mk hb; clear hb))
    go_ret
    exact ⟨by rw [HV.out]; rfl, HB5.out⟩
  · rw [hs] at HC
    have HS := Aside0.mk hs
    obtain ⟨hl1, hl8⟩ := shape_len hs
    clear hs
    have HI0 := Aside0.mk (SInv.start hl1)
    have hpos : 0 < (l0.length : Int) := by omega
    have hposn : 0 < l0.length := by omega
    go_enter Try.func45, Try.ntmps45
    go_upto_region 3 with (first | (go_at_call 23; refine HC.out.mono ?_; rintro e w5 ⟨rfl, hb⟩; have HB := Aside0.mk hb; clear hb))
    obtain ⟨ad, e, hx0, hx1⟩ := at_T41 (Kd.C_below HR0.out HB.out) 0 (by omega) hpos
    cases e
    rw [show ((0 : Int).toNat * 2) = 0 from rfl, Addr.add_zero'] at hx0 hx1
    go_upto_region 5 with (first
      | ((with_reducible refine gate_dst (N := 12) rfl ?_); refine Kd.R_lit k41 _ 41 ?hg (N := 12) ?hd (xs := [rd_T41 l0 0]) (inner := [.int .i64 (rd_T41 l0 0).f0, .int .i64 (rd_T41 l0 0).f1]) (ok := fun _ => True) (okp := fun _ => True) ?hr ?hp (fun _ hk => hk) trivial (Below.refl _ _) (Nat.le_refl _) (by simp) ?_; (case hd => rfl); (case hg => rfl); (case hr => first | (go_simp; done) | (go_simp; rfl)); (case hp => exact (Reps.c2 (show Kd.M k41 _ _ _ (rd_T41 l0 0) [.int .i64 (rd_T41 l0 0).f0, .int .i64 (rd_T41 l0 0).f1] from k41_mkM _ _ _ (rd_T41 l0 0)) (Reps.none _ _))); intro v3 w3 ho hb hg_ hnew_; have HO := Aside0.mk (Kd.R_lower ho HB.out.size); have HB3 := Aside0.mk (below_step HB.out hb); clear ho hb hg_ hnew_ HB))
    clear HC hx0 hx1
    go_loopg [3, 4] l0.length (fun k v3 v4 w' => ∃ (zs : List S41) (i : Int), v4 = .int .i64 i ∧ 0 ≤ i ∧ Aside0 ((l0.length : Int) - i ≤ k) ∧ Aside0 (SInv l0 zs) ∧ Aside0 (i ≤ zs.length) ∧ Aside0 (∀ p q : Int, 0 ≤ p → p < i → 0 ≤ q → q < l0.length → nearB (rd_T41 zs p) (rd_T41 l0 q) = true → rd_T41 l0 q ∈ zs) ∧ Aside0 (Kd.R k41 41 w' w.heap.size (fun _ => True) v3 zs) ∧ Aside0 (Below w.heap.size w w'))
    case atStart => exact ⟨[rd_T41 l0 0], 0, rfl, by omega, ⟨by omega⟩, HI0, ⟨by simp⟩, ⟨fun p q h0 h1 => absurd h1 (by omega)⟩, HO, HB3⟩
    case round =>
      clear HI0 HO HB3
      obtain ⟨zs, i, rfl, hi0, HK, HI, HLE, HD, HO, HB⟩ := hrel
      obtain ⟨g1, rfl⟩ : ∃ g1, g1 = gk := ⟨gk, rfl⟩
      obtain ⟨Az, cz, rfl⟩ := Kd.R_slice HO.out
      by_cases hlt : i < (zs.length : Int)
      · have HLT := Aside0.mk (show i < (l0.length : Int) from by have := HI.out.le; omega)
        go_upto_region 8 with (fail)
        go_loopg [3, 5] l0.length (fun k v3 v5 w' => ∃ (ys : List S41) (j : Int), v5 = .int .i64 j ∧ 0 ≤ j ∧ j ≤ l0.length ∧ Aside0 ((l0.length : Int) - j ≤ k) ∧ Aside0 (SInv l0 ys) ∧ Aside0 (i < ys.length) ∧ Aside0 (∀ p q : Int, 0 ≤ p → p < i → 0 ≤ q → q < l0.length → nearB (rd_T41 ys p) (rd_T41 l0 q) = true → rd_T41 l0 q ∈ ys) ∧ Aside0 (∀ q : Int, 0 ≤ q → q < j → nearB (rd_T41 ys i) (rd_T41 l0 q) = true → rd_T41 l0 q ∈ ys) ∧ Aside0 (Kd.R k41 41 w' w.heap.size (fun _ => True) v3 ys) ∧ Aside0 (Below w.heap.size w w'))
        case atStart => exact ⟨zs, 0, rfl, by omega, by omega, ⟨by omega⟩, HI, ⟨hlt⟩, HD, ⟨fun q h0 h1 => absurd h1 (by omega)⟩, HO, HB⟩
        case round =>
          clear HI HLE HD HO HB hlt
          obtain ⟨ys, j, rfl, hj0, hjn, HK3, HI, HLT2, HD, HE, HO, HB⟩ := hrel
          by_cases hjl : j < (l0.length : Int)
          · obtain ⟨Ay, cy, rfl⟩ := Kd.R_slice HO.out
            have hlt := HLT2.out
            have hylen : ys.length ≤ 8 := by have := HI.out.le; omega
            obtain ⟨_, hyc, hry⟩ := Kd.R_reads' HO.out
            obtain ⟨ad, e, hx0, hx1⟩ := at_T41 hry i hi0 hlt
            cases e
            obtain ⟨ad', e', hy0, hy1⟩ := at_T41 (Kd.C_below HR0.out HB.out) j hj0 hjl
            cases e'
            obtain ⟨q, q0, q1, eq_⟩ := mem_rd (HI.out.sub _ (rd_mem hi0 hlt))
            have sa := shape_sm HS.out q q0 q1
            rw [eq_] at sa
            have sb := shape_sm HS.out j hj0 hjl
            have rx0 := BW.cell hx0
            have rx1 := BW.cell hx1
            have ry0 := BW.cell hy0
            have ry1 := BW.cell hy1
            have HNO := Aside0.mk (show (nearB (rd_T41 ys i) (rd_T41 l0 j) = true → rd_T41 l0 j ∈ ys) → ∀ q : Int, 0 ≤ q → q < j + 1 → nearB (rd_T41 ys i) (rd_T41 l0 q) = true → rd_T41 l0 q ∈ ys from fun h q h0 h1 => by
              by_cases hq : q = j
              · exact hq ▸ h
              · exact HE.out q h0 (by omega))
            clear eq_ q0 q1 hx0 hx1
            go_upto_region 10 with (fail)
            refine quiet_b (by kernel_rfl) (by kernel_rfl) ?_
            rcases hb : nearB ⟨(rd_T41 ys i).f0, (rd_T41 ys i).f1⟩ ⟨(rd_T41 l0 j).f0, (rd_T41 l0 j).f1⟩ with _ | _
            · have HZ := Aside0.mk (HNO.out (fun h => by rw [show nearB (rd_T41 ys i) (rd_T41 l0 j) = false from hb] at h; cases h))
              repeat (with_reducible refine wpQuiet_step ?_; intro K hK; go_simp; first | (with_reducible apply Exists.intro; with_reducible refine ⟨fun _ => ?_, hK _ ?_⟩; (go_at_call 41; with_reducible exact near_b sa sb hb _); clear hK K) | (with_reducible refine hK _ ?_; clear hK K) | (rw [if_neg (by decide)]; with_reducible refine hK _ ?_; clear hK K))
              with_reducible refine wpQuiet_nil ?_
              refine quiet_end ?_
              intro W5 hb5
              go_wp2
              go_roundg (gk - 1)
              case rel => exact ⟨ys, j + 1, rfl, by omega, by omega, ⟨by have := HK3.out; omega⟩, HI, HLT2, HD, HZ, ⟨Kd.R_below HO.out hb5⟩, ⟨below_step HB.out hb5⟩⟩
              case measure => have := HK3.out; omega
            rcases hh : hasB ys (rd_T41 l0 j).f0 (rd_T41 l0 j).f1 with _ | _
            rotate_left 1
            · have HZ := Aside0.mk (HNO.out (fun _ => hasB_iff.mp hh))
              repeat (with_reducible refine wpQuiet_step ?_; intro K hK; go_simp; first | (with_reducible apply Exists.intro; with_reducible refine ⟨fun _ => ?_, hK _ ?_⟩; (first | (go_at_call 41; with_reducible exact near_b sa sb hb _) | (go_at_call 40; with_reducible exact has_b hry hyc hh _)); clear hK K) | (with_reducible refine hK _ ?_; clear hK K) | (rw [if_neg (by decide)]; with_reducible refine hK _ ?_; clear hK K))
              with_reducible refine wpQuiet_nil ?_
              refine quiet_end ?_
              intro W5 hb5
              go_wp2
              go_roundg (gk - 1)
              case rel => exact ⟨ys, j + 1, rfl, by omega, by omega, ⟨by have := HK3.out; omega⟩, HI, HLT2, HD, HZ, ⟨Kd.R_below HO.out hb5⟩, ⟨below_step HB.out hb5⟩⟩
              case measure => have := HK3.out; omega
            · have hnm : rd_T41 l0 j ∉ ys := fun h => by rw [show hasB ys (rd_T41 l0 j).f0 (rd_T41 l0 j).f1 = true from hasB_iff.mpr h] at hh; cases hh
              have HI2 := Aside0.mk (HI.out.step hi0 hlt hj0 hjl hb hnm)
              have hrd : ∀ p : Int, 0 ≤ p → p < ys.length → rd_T41 (ys ++ [rd_T41 l0 j]) p = rd_T41 ys p := fun p h0 h1 => by
                unfold rd_T41
                rw [List.getD_eq_getElem?_getD, List.getElem?_append_left (by omega), ← List.getD_eq_getElem?_getD]
              have HD2 := Aside0.mk (show ∀ p q : Int, 0 ≤ p → p < i → 0 ≤ q → q < l0.length → nearB (rd_T41 (ys ++ [rd_T41 l0 j]) p) (rd_T41 l0 q) = true → rd_T41 l0 q ∈ ys ++ [rd_T41 l0 j] from fun p q h0 h1 h2 h3 hn => by
                rw [hrd p h0 (by omega)] at hn
                exact List.mem_append_left _ (HD.out p q h0 h1 h2 h3 hn))
              have HE2 := Aside0.mk (show ∀ q : Int, 0 ≤ q → q < j + 1 → nearB (rd_T41 (ys ++ [rd_T41 l0 j]) i) (rd_T41 l0 q) = true → rd_T41 l0 q ∈ ys ++ [rd_T41 l0 j] from fun q h0 h1 hn => by
                rw [hrd i hi0 hlt] at hn
                by_cases hq : q = j
                · subst hq; simp
                · exact List.mem_append_left _ (HE.out q h0 (by omega) hn))
              have HL2 := Aside0.mk (show i < ((ys ++ [rd_T41 l0 j]).length : Int) from by simp; omega)
              repeat (with_reducible refine wpQuiet_step ?_; intro K hK; go_simp; first | (with_reducible apply Exists.intro; with_reducible refine ⟨fun _ => ?_, hK _ ?_⟩; (first | (go_at_call 41; with_reducible exact near_b sa sb hb _) | (go_at_call 40; with_reducible exact has_b hry hyc hh _)); clear hK K) | (with_reducible refine hK _ ?_; clear hK K) | (rw [if_neg (by decide)]; with_reducible refine hK _ ?_; clear hK K))
              with_reducible refine wpQuiet_nil ?_
              refine quiet_end ?_
              intro W5 hb5
              have HO5 := Aside0.mk (Kd.R_below HO.out hb5)
              have HB5 := Aside0.mk (below_step HB.out hb5)
              have hz0 := bq hy0 hb5
              have hz1 := bq hy1 hb5
              clear HNO HI HD HE HLT2 HO HB hnm hrd rx0 rx1 ry0 ry1 hy0 hy1 hry
              go_wp2_with (first | ((with_reducible refine gate_builtin (b := .append) (xs := #[.tmp 49, .tmp 54]) rfl ?_); at_builtin; refine Kd.R_append k41 (w0 := w) w.heap.size rfl (.tmp 49) (.tmp 54) 24 41 (.agg #[(.int .i64 0), (.int .i64 0)]) 16 rfl Try.underlying24 info41 rfl (by decide) (by omega) (.slice (some ad) ys.length cy) (ys) (⟨(rd_T41 l0 j).f0, (rd_T41 l0 j).f1⟩ : S41) [.int .i64 (rd_T41 l0 j).f0, .int .i64 (rd_T41 l0 j).f1] (fun _ => True) (fun _ => False) rfl (by first | (go_simp; done) | (go_simp; rfl)) ?aP (fun _ hk => hk.elim) ?aF ?aO ?aB ?aS ?aL ?_; (case aP => exact k41_mkM _ _ _ (⟨(rd_T41 l0 j).f0, (rd_T41 l0 j).f1⟩ : S41)); (case aF => exact (fun _ _ => trivial)); (case aO => exact HO5.out); (case aB => exact HB5.out); (case aS => exact HB5.out.size); (case aL => omega); intro v6 w6 ho hb hg hat; have HO6 := Aside0.mk ho; have HB6 := Aside0.mk hb; have HG6 := Aside0.mk hg; clear ho hb hg hat))
              go_roundg (gk - 1)
              case rel => exact ⟨_, j + 1, rfl, by omega, by omega, ⟨by have := HK3.out; omega⟩, HI2, HL2, HD2, HE2, HO6, HB6⟩
              case measure => have := HK3.out; omega
          · have HZ := Aside0.mk (show ∀ p q : Int, 0 ≤ p → p < i + 1 → 0 ≤ q → q < l0.length → nearB (rd_T41 ys p) (rd_T41 l0 q) = true → rd_T41 l0 q ∈ ys from fun p q h0 h1 h2 h3 => by
              by_cases hp : p = i
              · exact hp ▸ HE.out q h2 (by omega)
              · exact HD.out p q h0 (by omega) h2 h3)
            have hil := HLT.out
            go_wp2
            go_roundg (g1 - 1)
            case rel => exact ⟨ys, i + 1, rfl, by omega, ⟨by have := HK.out; have := HLT.out; omega⟩, HI, ⟨by have := HLT2.out; omega⟩, HZ, HO, HB⟩
            case measure => have := HK.out; have := HLT.out; omega
      · have HV := Aside0.mk (cnB_val HS.out (HI.out.done HS.out fun p q h0 h1 => HD.out p q h0 (by omega)))
        go_wp2
        go_ret
        exact ⟨by rw [HV.out]; rfl, HB.out⟩
end Go.Proofs.Ytlohfeicfhmlmaa.PFnOutlines

namespace Go.Proofs.Ytlohfeicfhmlmaa.PFnOutlines
open Go.RowKit Go.Proofs.YtlohfeicfhmlmaaW.PrintWords Go.Proofs.YtlohfeicfhmlmaaW.PrintLast Go.Proofs.YtlohfeicfhmlmaaW.PrintMore ETool
noncomputable def tlB (l : List S41) : Bool := cnB l && (innB l == (l.length : Int) - 1)
set_option maxHeartbeats 4000000 in
set_option maxRecDepth 100000 in
theorem iTree (A0 : Option Addr) (c0 : Nat) (l0 : List S41) (w : World) (hr0 : Kd.C k41 w A0 l0.length l0) (hc0 : l0.length ≤ c0) :
    Calls Try.prog 21 #[.slice A0 l0.length c0] w fun e w' => e = .returned (.bool (tlB l0)) ∧ Below w.heap.size w w' := by
  have hlen := C_len hr0
  have HC := Aside0.mk (iConn A0 c0 l0 w hr0 hc0)
  have HI := Aside0.mk (fun W (hb : Below w.heap.size w W) => iInner A0 c0 l0 W (Kd.C_below hr0 hb) hc0)
  clear hr0
  rcases hs : cnB l0 with _ | _
  · have HV := Aside0.mk (show tlB l0 = false by simp [tlB, hs])
    rw [hs] at HC
    go_enter Try.func21, Try.ntmps21
    go_wp2_with (first | (go_at_call 43; refine HC.out.mono ?_; rintro e w5 ⟨rfl, hb⟩; have HB5 := Aside0.mk hb; clear hb))
    go_ret
    exact ⟨by rw [HV.out]; rfl, HB5.out⟩
  · have HV := Aside0.mk (show tlB l0 = (innB l0 == (l0.length : Int) - 1) by simp [tlB, hs])
    rw [hs] at HC
    clear hs
    generalize innB l0 = n at *
    have hw1 := iw64 (x := (l0.length : Int) - 1) (by omega) (by omega)
    go_enter Try.func21, Try.ntmps21
    go_wp2_with (first | (go_at_call 43; refine HC.out.mono ?_; rintro e w5 ⟨rfl, hb⟩; have HB5 := Aside0.mk hb; clear hb) | (go_at_call 9; refine (HI.out _ HB5.out).mono ?_; rintro e w6 ⟨rfl, hb⟩; have HB6 := Aside0.mk (below_step HB5.out hb); clear hb))
    go_ret
    exact ⟨by rw [HV.out]; rfl, HB6.out⟩
set_option maxHeartbeats 4000000 in
set_option maxRecDepth 100000 in
theorem sTree (A0 : Option Addr) (c0 : Nat) (l0 : List S41) (w : World) (hr0 : Kd.C k41 w A0 l0.length l0) (hc0 : l0.length ≤ c0) :
    Calls Try.prog 22 #[.slice A0 l0.length c0] w fun e w' => e = .returned (.bool (tlB l0)) ∧ Below w.heap.size w w' := by
  have hlen := C_len hr0
  have HC := Aside0.mk (sConn A0 c0 l0 w hr0 hc0)
  have HI := Aside0.mk (fun W (hb : Below w.heap.size w W) => sInner A0 c0 l0 W (Kd.C_below hr0 hb) hc0)
  clear hr0
  rcases hs : cnB l0 with _ | _
  · have HV := Aside0.mk (show tlB l0 = false by simp [tlB, hs])
    rw [hs] at HC
    go_enter Try.func22, Try.ntmps22
    go_wp2_with (first | (go_at_call 45; refine HC.out.mono ?_; rintro e w5 ⟨rfl, hb⟩; have HB5 := Aside0.mk hb; clear hb))
    go_ret
    exact ⟨by rw [HV.out]; rfl, HB5.out⟩
  · have HV := Aside0.mk (show tlB l0 = (innB l0 == (l0.length : Int) - 1) by simp [tlB, hs])
    rw [hs] at HC
    clear hs
    generalize innB l0 = n at *
    have hw1 := iw64 (x := (l0.length : Int) - 1) (by omega) (by omega)
    go_enter Try.func22, Try.ntmps22
    go_wp2_with (first | (go_at_call 45; refine HC.out.mono ?_; rintro e w5 ⟨rfl, hb⟩; have HB5 := Aside0.mk hb; clear hb) | (go_at_call 13; refine (HI.out _ HB5.out).mono ?_; rintro e w6 ⟨rfl, hb⟩; have HB6 := Aside0.mk (below_step HB5.out hb); clear hb))
    go_ret
    exact ⟨by rw [HV.out]; rfl, HB6.out⟩
end Go.Proofs.Ytlohfeicfhmlmaa.PFnOutlines

namespace Go.Proofs.Ytlohfeicfhmlmaa.PFnOutlines
open Go.RowKit Go.Proofs.YtlohfeicfhmlmaaW.PrintWords Go.Proofs.YtlohfeicfhmlmaaW.PrintLast Go.Proofs.YtlohfeicfhmlmaaW.PrintMore ETool
def pinAt (l : List S41) (x y : Int) : Bool := (hasB l (x + 1) (y + 1) && (!hasB l (x + 1) y && !hasB l x (y + 1))) || (hasB l (x - 1) (y + 1) && (!hasB l (x - 1) y && !hasB l x (y + 1)))
def pinB (l : List S41) : Bool := l.any fun c => pinAt l c.f0 c.f1
theorem pinB_yes {l : List S41} {i : Int} (h0 : 0 ≤ i) (h1 : i < l.length) (h : pinAt l (rd_T41 l i).f0 (rd_T41 l i).f1 = true) : pinB l = true := by
  unfold pinB
  rw [List.any_eq_true]
  exact ⟨_, rd_mem h0 h1, h⟩
theorem pinB_no {l : List S41} (h : ∀ i : Int, 0 ≤ i → i < l.length → pinAt l (rd_T41 l i).f0 (rd_T41 l i).f1 = false) : pinB l = false := by
  unfold pinB
  rw [List.any_eq_false]
  intro c hc
  obtain ⟨i, h0, h1, e⟩ := mem_rd hc
  have := h i h0 h1
  rw [e] at this
  rw [this]
  simp
set_option maxHeartbeats 4000000 in
set_option maxRecDepth 100000 in
theorem sPinched (A0 : Option Addr) (c0 : Nat) (l0 : List S41) (w : World) (hr0 : Kd.C k41 w A0 l0.length l0) (hc0 : l0.length ≤ c0) (hs : isShapeB l0 = true) :
    Calls Try.prog 49 #[.slice A0 l0.length c0] w fun e w' => e = .returned (.bool (pinB l0)) ∧ Below w.heap.size w w' := by
  have hu41 := Try.underlying41
  have hlen := C_len hr0
  have HR0 := Aside0.mk hr0
  have HS := Aside0.mk hs
  clear hr0 hs
  go_enter Try.func49, Try.ntmps49
  go_wp2
  go_loopw [3] (fun v3 w' => ∃ i : Int, v3 = .int .i64 i ∧ 0 ≤ i ∧ i ≤ l0.length ∧ Aside0 (∀ j : Int, 0 ≤ j → j < i → pinAt l0 (rd_T41 l0 j).f0 (rd_T41 l0 j).f1 = false) ∧ Aside0 (Below w.heap.size w w')) (fun v3 _ => l0.length - (intOf v3).toNat)
  case atStart => exact ⟨0, rfl, by omega, by omega, ⟨fun j h0 h1 => absurd h1 (by omega)⟩, ⟨Below.refl _ _⟩⟩
  case round =>
    obtain ⟨i, rfl, hi0, hin, HN, HB⟩ := hrel
    by_cases hlt : i < (l0.length : Int)
    · have hrr := Kd.C_below HR0.out HB.out
      obtain ⟨ad, e, hx0, hx1⟩ := at_T41 hrr i hi0 hlt
      cases e
      obtain ⟨q0, q1, q2, q3⟩ := shape_cell HS.out hi0 hlt
      have HY := Aside0.mk (pinB_yes hi0 hlt)
      have HM := Aside0.mk (show pinAt l0 (rd_T41 l0 i).f0 (rd_T41 l0 i).f1 = false → ∀ j : Int, 0 ≤ j → j < i + 1 → pinAt l0 (rd_T41 l0 j).f0 (rd_T41 l0 j).f1 = false from fun h j h0 h1 => by
        by_cases hj : j = i
        · exact hj ▸ h
        · exact HN.out j h0 (by omega))
      go_upto_region 6 with (fail)
      clear hx0 hx1
      generalize (rd_T41 l0 i).f0 = x at *
      generalize (rd_T41 l0 i).f1 = y at *
      have HX := Aside0.mk (Below.refl wr.heap.size wr)
      have hw1 := iw64 (x := x + 1) (by omega) (by omega)
      have hw2 := iw64 (x := y + 1) (by omega) (by omega)
      have hw3 := iw64 (x := x - 1) (by omega) (by omega)
      have HP := Aside0.mk (show pinAt l0 x y = ((hasB l0 (x + 1) (y + 1) && (!hasB l0 (x + 1) y && !hasB l0 x (y + 1))) || (hasB l0 (x - 1) (y + 1) && (!hasB l0 (x - 1) y && !hasB l0 x (y + 1)))) from rfl)
      generalize pinAt l0 x y = pn at HP HY HM
      rcases h1 : hasB l0 (x + 1) (y + 1) with _ | _ <;> rcases h2 : hasB l0 (x + 1) y with _ | _ <;> rcases h3 : hasB l0 x (y + 1) with _ | _ <;> rcases h4 : hasB l0 (x - 1) (y + 1) with _ | _ <;> rcases h5 : hasB l0 (x - 1) y with _ | _
      all_goals
        have HE := Aside0.mk (HP.out.trans (by rw [h1, h2, h3, h4, h5]))
        go_wp2_with (first | (go_at_call 40; (first | (with_reducible refine (has_w hrr HX.out hc0 h1).mono ?_) | (with_reducible refine (has_w hrr HX.out hc0 h2).mono ?_) | (with_reducible refine (has_w hrr HX.out hc0 h3).mono ?_) | (with_reducible refine (has_w hrr HX.out hc0 h4).mono ?_) | (with_reducible refine (has_w hrr HX.out hc0 h5).mono ?_)); rintro e w6 ⟨rfl, hb⟩; clear HX; have HX := Aside0.mk hb; clear hb))
        first
          | (have HE' := Aside0.mk (HY.out (HE.out.trans rfl))
             go_ret
             exact ⟨by rw [HE'.out]; rfl, below_step HB.out HX.out⟩)
          | (have HE' := Aside0.mk (HM.out (HE.out.trans rfl))
             go_roundw
             case rel => exact ⟨i + 1, rfl, by omega, by omega, HE', ⟨below_step HB.out HX.out⟩⟩
             case measure => simp [intOf]; omega)
    · have HV := Aside0.mk (pinB_no fun j h0 h1 => HN.out j h0 (by omega))
      go_wp2
      go_ret
      exact ⟨by rw [HV.out]; rfl, HB.out⟩
end Go.Proofs.Ytlohfeicfhmlmaa.PFnOutlines

namespace Go.Proofs.Ytlohfeicfhmlmaa.PFnOutlines
open Go.RowKit Go.Proofs.YtlohfeicfhmlmaaW.PrintWords Go.Proofs.YtlohfeicfhmlmaaW.PrintLast Go.Proofs.YtlohfeicfhmlmaaW.PrintMore ETool
theorem nearB_symm (a b : S41) : nearB a b = nearB b a := by
  unfold nearB
  rw [Bool.eq_iff_iff]
  simp only [Bool.or_eq_true, Bool.and_eq_true, decide_eq_true_eq]
  omega
theorem near_iff {x y u v : Int} : nearB ⟨x, y⟩ ⟨u, v⟩ = true ↔ (u = x + 1 ∧ v = y) ∨ (u = x - 1 ∧ v = y) ∨ (u = x ∧ v = y + 1) ∨ (u = x ∧ v = y - 1) := by
  simp only [nearB, Bool.or_eq_true, Bool.and_eq_true, decide_eq_true_eq]
  omega
def edg : List S41 → Nat
  | [] => 0
  | c :: zs => edg zs + zs.countP (nearB c)
theorem edg_perm {xs ys : List S41} (h : xs.Perm ys) : edg xs = edg ys := by
  induction h with
  | nil => rfl
  | cons c h ih => simp only [edg, ih, h.countP_eq]
  | swap a b l => simp only [edg, List.countP_cons, nearB_symm a b]; omega
  | trans _ _ ih1 ih2 => exact ih1.trans ih2
theorem innTo_edg (l : List S41) : ∀ n : Nat, n ≤ l.length → innTo l n = edg (l.take n).reverse
  | 0, _ => rfl
  | n + 1, h => by
    have e := take_succ_rd (l := l) (i := (n : Int)) (by omega) (by omega)
    rw [show ((n : Int) + 1).toNat = n + 1 by omega, Int.toNat_natCast] at e
    rw [innTo, innTo_edg l n (by omega), e, List.reverse_append]
    simp only [List.reverse_cons, List.reverse_nil, List.nil_append, List.cons_append, edg, List.countP_reverse]
theorem innB_edg {l : List S41} (h : isShapeB l = true) : innB l = (edg l : Int) := by
  unfold innB
  rw [if_pos h, innTo_edg l _ (Nat.le_refl _), List.take_length, edg_perm (List.reverse_perm l)]
/-- zs comes from S by cells of l, each beside one that is there. -/
inductive GrowF (l S : List S41) : List S41 → Prop
  | base : GrowF l S S
  | add {zs : List S41} {c : S41} : GrowF l S zs → c ∈ l → c ∉ zs → (∃ d ∈ zs, nearB c d = true) → GrowF l S (c :: zs)
theorem GrowF.edges {l S zs : List S41} (h : GrowF l S zs) : edg S + zs.length ≤ edg zs + S.length := by
  induction h with
  | base => omega
  | add h hc hn hd ih =>
    rename_i zs c
    obtain ⟨d, hd, hnd⟩ := hd
    have : 0 < zs.countP (nearB c) := List.countP_pos_iff.mpr ⟨d, hd, hnd⟩
    simp only [edg, List.length_cons]
    omega
theorem GrowF.sub {l S zs : List S41} (hS : ∀ c ∈ S, c ∈ l) (h : GrowF l S zs) : ∀ c ∈ zs, c ∈ l := by
  induction h with
  | base => exact hS
  | add h hc hn hd ih =>
    intro d hd
    rcases List.mem_cons.mp hd with rfl | hd
    · exact hc
    · exact ih d hd
theorem GrowF.nodup {l S zs : List S41} (hS : S.Nodup) (h : GrowF l S zs) : zs.Nodup := by
  induction h with
  | base => exact hS
  | add h hc hn hd ih => exact List.nodup_cons.mpr ⟨hn, ih⟩
theorem GrowF.keep {l S zs : List S41} (h : GrowF l S zs) : ∀ c ∈ S, c ∈ zs := by
  induction h with
  | base => exact fun c hc => hc
  | add h hc hn hd ih => exact fun c hc => List.mem_cons_of_mem _ (ih c hc)
/-- A set of cells beside nothing else of a connected shape is all of it. -/
theorem Conn.all {l zs : List S41} (hC : Conn l) (hl : 1 ≤ l.length) (hne : ∃ c ∈ l, c ∈ zs) (h : ∀ c ∈ l, c ∉ zs → ∀ d ∈ l, d ∈ zs → nearB c d = false) : ∀ c ∈ l, c ∈ zs := by
  intro c hc
  obtain ⟨i, i0, i1, rfl⟩ := mem_rd hc
  by_cases h0 : rd_T41 l 0 ∈ zs
  · refine hC (fun d => d ∈ zs) ⟨h0, fun p q p0 p1 q0 q1 hp hn => ?_⟩ i i0 i1
    by_cases hq : rd_T41 l q ∈ zs
    · exact hq
    · have := h _ (rd_mem q0 q1) hq _ (rd_mem p0 p1) hp
      rw [nearB_symm, hn] at this
      cases this
  · exfalso
    obtain ⟨e, he, hz⟩ := hne
    obtain ⟨j, j0, j1, rfl⟩ := mem_rd he
    refine hC (fun d => d ∉ zs) ⟨h0, fun p q p0 p1 q0 q1 hp hn hq => ?_⟩ j j0 j1 hz
    have := h _ (rd_mem p0 p1) hp _ (rd_mem q0 q1) hq
    rw [hn] at this
    cases this
theorem Conn.growAll {l S : List S41} (hs : isShapeB l = true) (hC : Conn l) (hsub : ∀ c ∈ S, c ∈ l) (hnd : S.Nodup) (hne : S ≠ []) : ∀ (k : Nat) (zs : List S41), GrowF l S zs → l.length ≤ zs.length + k → ∃ ws, GrowF l S ws ∧ ∀ c ∈ l, c ∈ ws
  | 0, zs, hg, hk => by
    have h1 := nodup_sub_len (hg.nodup hnd) (hg.sub hsub)
    exact ⟨zs, hg, nodup_sub_all (hg.nodup hnd) (hg.sub hsub) (by omega)⟩
  | k + 1, zs, hg, hk => by
    by_cases hall : ∀ c ∈ l, c ∈ zs
    · exact ⟨zs, hg, hall⟩
    · obtain ⟨s, hs0⟩ : ∃ s, s ∈ S := by
        cases S with
        | nil => exact absurd rfl hne
        | cons a rest => exact ⟨a, by simp⟩
      have hex : ∃ c ∈ l, c ∉ zs ∧ ∃ d ∈ zs, nearB c d = true := by
        apply Classical.byContradiction
        intro hno
        refine hall (hC.all (shape_len hs).1 ⟨s, hsub s hs0, hg.keep s hs0⟩ fun c hc hz d hd hdz => ?_)
        cases hn : nearB c d with
        | false => rfl
        | true => exact absurd ⟨c, hc, hz, d, hdz, hn⟩ hno
      obtain ⟨c, hc, hz, hd⟩ := hex
      exact Conn.growAll hs hC hsub hnd hne k (c :: zs) (.add hg hc hz hd) (by simp only [List.length_cons]; omega)
theorem nodup_perm {xs ys : List S41} (h1 : xs.Nodup) (h2 : ys.Nodup) (h3 : ∀ c ∈ xs, c ∈ ys) (h4 : ∀ c ∈ ys, c ∈ xs) : xs.Perm ys := by
  induction xs generalizing ys with
  | nil =>
    cases ys with
    | nil => exact .nil
    | cons y ys => exact absurd (h4 y (by simp)) (by simp)
  | cons x xs ih =>
    obtain ⟨a, b, e⟩ := List.append_of_mem (h3 x (by simp))
    subst e
    rw [List.nodup_cons] at h1
    have h2' : (x :: (a ++ b)).Nodup := (List.perm_middle.nodup_iff).mp h2
    rw [List.nodup_cons] at h2'
    refine (List.Perm.cons x (ih h1.2 h2'.2 (fun c hc => ?_) fun c hc => ?_)).trans List.perm_middle.symm
    · have := h3 c (by simp [hc])
      simp only [List.mem_append, List.mem_cons] at this ⊢
      rcases this with h | h | h
      · exact .inl h
      · exact absurd (h ▸ hc) h1.1
      · exact .inr h
    · have := h4 c (by simp only [List.mem_append, List.mem_cons] at hc ⊢; rcases hc with h | h; exact .inl h; exact .inr (.inr h))
      rcases List.mem_cons.mp this with h | h
      · exact absurd (h ▸ hc) h2'.1
      · exact h
theorem Conn.grow {l S : List S41} (hs : isShapeB l = true) (hC : Conn l) (hsub : ∀ c ∈ S, c ∈ l) (hnd : S.Nodup) (hne : S ≠ []) : ∃ zs, GrowF l S zs ∧ zs.Perm l := by
  obtain ⟨ws, hg, h⟩ := Conn.growAll hs hC hsub hnd hne l.length S .base (by omega)
  exact ⟨ws, hg, nodup_perm (hg.nodup hnd) (shape_nodup hs) (hg.sub hsub) h⟩
theorem isSq_edges {l : List S41} (hs : isShapeB l = true) (hC : Conn l) {c : S41} (hc : c ∈ l) (hq : isSq l c = true) : l.length ≤ edg l := by
  simp only [isSq, Bool.and_eq_true, hasB_iff] at hq
  obtain ⟨q1, q2, q3⟩ := hq
  obtain ⟨x, y⟩ := c
  have hnd : [(⟨x, y⟩ : S41), ⟨x + 1, y⟩, ⟨x + 1, y + 1⟩, ⟨x, y + 1⟩].Nodup := by
    simp only [List.nodup_cons, List.mem_cons, List.not_mem_nil, S41.mk.injEq, or_false, not_false_eq_true, List.nodup_nil, and_true]
    omega
  obtain ⟨zs, hg, hp⟩ := Conn.grow (S := [⟨x, y⟩, ⟨x + 1, y⟩, ⟨x + 1, y + 1⟩, ⟨x, y + 1⟩]) hs hC (by
    intro c hm
    simp only [List.mem_cons, List.not_mem_nil, or_false] at hm
    rcases hm with rfl | rfl | rfl | rfl
    · exact hc
    · exact q1
    · exact q3
    · exact q2) hnd (by simp)
  have h := hg.edges
  have e4 : edg [(⟨x, y⟩ : S41), ⟨x + 1, y⟩, ⟨x + 1, y + 1⟩, ⟨x, y + 1⟩] = 4 := by
    have n1 : nearB ⟨x, y⟩ ⟨x + 1, y⟩ = true := near_iff.mpr (by omega)
    have n2 : nearB ⟨x, y⟩ ⟨x + 1, y + 1⟩ = false := by rw [Bool.eq_false_iff]; intro hh; rw [near_iff] at hh; omega
    have n3 : nearB ⟨x, y⟩ ⟨x, y + 1⟩ = true := near_iff.mpr (by omega)
    have n4 : nearB ⟨x + 1, y⟩ ⟨x + 1, y + 1⟩ = true := near_iff.mpr (by omega)
    have n5 : nearB ⟨x + 1, y⟩ ⟨x, y + 1⟩ = false := by rw [Bool.eq_false_iff]; intro hh; rw [near_iff] at hh; omega
    have n6 : nearB ⟨x + 1, y + 1⟩ ⟨x, y + 1⟩ = true := near_iff.mpr (by omega)
    simp only [edg, List.countP_cons, List.countP_nil, n1, n2, n3, n4, n5, n6]
    rfl
  rw [e4, edg_perm hp, hp.length_eq] at h
  simp only [List.length_cons, List.length_nil] at h
  omega
open Classical in
theorem cnB_split {l : List S41} (h : cnB l = true) : isShapeB l = true ∧ Conn l := by
  unfold cnB at h
  exact of_decide_eq_true h
theorem tree_sq {l : List S41} (h : tlB l = true) : sqB l ≤ 0 := by
  simp only [tlB, Bool.and_eq_true, beq_iff_eq] at h
  obtain ⟨hs, hC⟩ := cnB_split h.1
  rw [innB_edg hs] at h
  unfold sqB
  rw [if_pos hs]
  by_cases hq : ∃ c ∈ l, isSq l c = true
  · obtain ⟨c, hc, hq⟩ := hq
    have := isSq_edges hs hC hc hq
    have := (shape_len hs).1
    omega
  · have : l.countP (isSq l) = 0 := List.countP_eq_zero.mpr fun c hc hh => hq ⟨c, hc, hh⟩
    omega
end Go.Proofs.Ytlohfeicfhmlmaa.PFnOutlines
