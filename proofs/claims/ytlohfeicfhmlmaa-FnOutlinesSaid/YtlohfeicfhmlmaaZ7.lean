/- A part of the proof that the law answers true for every input; this part bears lemmas that hold with no condition beyond those that each of them names. -/
import Derived.Test.YtlohfeicfhmlmaaZ6
set_option linter.unusedVariables false
set_option linter.unusedSimpArgs false
namespace Go.Proofs.Ytlohfeicfhmlmaa.PFnOutlines
open Go.RowKit Go.Proofs.YtlohfeicfhmlmaaW.PrintWords Go.Proofs.YtlohfeicfhmlmaaW.PrintLast Go.Proofs.YtlohfeicfhmlmaaW.PrintMore ETool
theorem icarry (x y : Int) (hx : -100 ≤ x ∧ x ≤ 100) (hy : -100 ≤ y ∧ y ≤ 100) : Ev (fun k => impl_carry.f k x y 1) (-y, x) := by
  have e1 : Int.tmod 1 4 = 1 := rfl
  have e2 : wrap64 (0 + 1) = 1 := by rw [w64 (by omega) (by omega)]; rfl
  have e3 : wrap64 (-y) = -y := w64 (by omega) (by omega)
  refine Ev.congr (f := fun k => impl_carry.j0 k 1 x y) (fun k => by unfold impl_carry.f; rw [if_neg (by omega)]) ?_
  refine Ev.step (f := fun k => impl_carry.l0 k 1 0 x y) (fun k => by simp only [impl_carry.j0]; rw [e1]) ?_
  refine Ev.step (f := fun k => impl_carry.l0 k 1 1 (-y) x) (fun k => by simp only [impl_carry.l0]; rw [if_pos (by omega), e2, e3]) ?_
  exact Ev.step (f := fun _ => some (-y, x)) (fun k => by simp only [impl_carry.l0]; rw [if_neg (by omega)]) (Ev.now _)
theorem sapply (x y : Int) (hx : -100 ≤ x ∧ x ≤ 100) (hy : -100 ≤ y ∧ y ≤ 100) : Ev (fun k => spec_l3Apply.f k x y 1) (-y, x) := by
  have e1 : Int.tmod 1 4 = 1 := rfl
  have e2 : wrap64 (0 + 1) = 1 := by rw [w64 (by omega) (by omega)]; rfl
  have e3 : wrap64 (-y) = -y := w64 (by omega) (by omega)
  refine Ev.congr (f := fun k => spec_l3Apply.j0 k 1 x y) (fun k => by unfold spec_l3Apply.f; rw [if_neg (by omega)]) ?_
  refine Ev.step (f := fun k => spec_l3Apply.l0 k 1 0 x y) (fun k => by simp only [spec_l3Apply.j0]) ?_
  refine Ev.step (f := fun k => spec_l3Apply.l0 k 1 1 (-y) x) (fun k => by simp only [spec_l3Apply.l0]; rw [e1, if_pos (by omega), e2, e3]) ?_
  exact Ev.step (f := fun _ => some (-y, x)) (fun k => by simp only [spec_l3Apply.l0]; rw [e1, if_neg (by omega)]) (Ev.now _)
/-- The cells turned, not moved. -/
def tq (l : List S41) : List S41 := l.map fun c => ⟨-c.f1, c.f0⟩
def sm8 (l : List S41) : Prop := l.length ≤ 12 ∧ ∀ c ∈ l, -100 ≤ c.f0 ∧ c.f0 ≤ 100 ∧ -100 ≤ c.f1 ∧ c.f1 ≤ 100
theorem sm8_tq {l : List S41} (h : sm8 l) : sm8 (tq l) := by
  refine ⟨by unfold tq; rw [List.length_map]; exact h.1, fun c hc => ?_⟩
  unfold tq at hc
  rw [List.mem_map] at hc
  obtain ⟨d, hd, rfl⟩ := hc
  have := h.2 d hd
  simp only
  omega
theorem corner_mn {l : List S41} {x y : Int} {r : List S41} (hl : l.length ≤ 1000) (cont : ∀ x' y', x' = l.foldl (fun m d => mn m d.f0) x → y' = l.foldl (fun m d => mn m d.f1) y → Ev (fun k => (impl_moved.f k l (wrap64 (-x')) (wrap64 (-y'))).bind fun t => (impl_SortCells.f t).bind fun t => some t) r) : ∀ (m : Nat) (i u v : Int), 0 ≤ i → i ≤ l.length → l.length ≤ i + m → u = (l.take i.toNat).foldl (fun m d => mn m d.f0) x → v = (l.take i.toNat).foldl (fun m d => mn m d.f1) y → Ev (fun k => impl_corner.l0 k l u v l (l.length : Int) i) r
  | m, i, u, v, h0, h1, h2, hu, hv => by
    by_cases hlt : i < (l.length : Int)
    · obtain ⟨m', rfl⟩ : ∃ m', m = m' + 1 := ⟨m - 1, by omega⟩
      have e1 : wrap64 (i + 1) = i + 1 := w64 (by omega) (by omega)
      refine Ev.step (f := fun k => impl_corner.l0 k l (mn u (rd_T41 l i).f0) (mn v (rd_T41 l i).f1) l (l.length : Int) (i + 1)) (fun k => ?_) (corner_mn hl cont m' (i + 1) _ _ (by omega) (by omega) (by omega) ?_ ?_)
      · simp only [impl_corner.l0]
        rw [if_pos hlt, if_pos h0, if_pos hlt, e1]
      · rw [take_succ_rd h0 hlt, List.foldl_append, ← hu]; rfl
      · rw [take_succ_rd h0 hlt, List.foldl_append, ← hv]; rfl
    · rw [show i.toNat = l.length by omega, List.take_length] at hu hv
      refine Ev.step (fun k => ?_) (cont u v hu hv)
      simp only [impl_corner.l0]
      rw [if_neg hlt]
theorem moved_ev {l : List S41} {a b : Int} (hl : l.length ≤ 1000) : ∀ (m : Nat) (i : Int) (out : List S41), 0 ≤ i → i ≤ l.length → l.length ≤ i + m → out = (l.take i.toNat).map (fun c => (⟨wrap64 (c.f0 + a), wrap64 (c.f1 + b)⟩ : S41)) → Ev (fun k => impl_moved.l0 k a b out l (l.length : Int) i) (l.map fun c => ⟨wrap64 (c.f0 + a), wrap64 (c.f1 + b)⟩)
  | m, i, out, h0, h1, h2, ho => by
    by_cases hlt : i < (l.length : Int)
    · obtain ⟨m', rfl⟩ : ∃ m', m = m' + 1 := ⟨m - 1, by omega⟩
      have e1 : wrap64 (i + 1) = i + 1 := w64 (by omega) (by omega)
      have hol : out.length = i.toNat := by rw [ho, List.length_map, List.length_take]; omega
      refine Ev.step (f := fun k => impl_moved.l0 k a b (out ++ [⟨wrap64 ((rd_T41 l i).f0 + a), wrap64 ((rd_T41 l i).f1 + b)⟩]) l (l.length : Int) (i + 1)) (fun k => ?_) (moved_ev hl m' (i + 1) _ (by omega) (by omega) (by omega) ?_)
      · simp only [impl_moved.l0]
        rw [if_pos hlt, if_pos h0, if_pos hlt, if_pos (by omega), e1]
      · rw [take_succ_rd h0 hlt, List.map_append, ho]
        rfl
    · refine Ev.step (f := fun _ => some out) (fun k => ?_) ?_
      · simp only [impl_moved.l0]
        rw [if_neg hlt]
      · rw [ho, show i.toNat = l.length by omega, List.take_length]
        exact Ev.now _
theorem mnF_fold (f : S41 → Int) {c : S41} (l : List S41) : (c :: l).foldl (fun m d => mn m (f d)) (f c) = mnF f (c :: l) := by
  rw [List.foldl_cons, show mn (f c) (f c) = f c by unfold mn; split <;> rfl]
  rfl
/-- impl.corner: moved to the corner and sorted. -/
theorem corner_plain {l : List S41} (hne : l ≠ []) (h : sm8 l) : Ev (fun k => impl_corner.f k l) (srt (crnW l)) := by
  cases l with
  | nil => exact absurd rfl hne
  | cons c zs =>
    obtain ⟨h1, h2⟩ := h
    have hpos : 0 < (((c :: zs).length : Nat) : Int) := by simp only [List.length_cons]; omega
    refine Ev.congr (f := fun k => impl_corner.l0 k (c :: zs) c.f0 c.f1 (c :: zs) (((c :: zs).length : Nat) : Int) 0) (fun k => by unfold impl_corner.f; rw [if_pos hpos]; rfl) ?_
    refine corner_mn (x := c.f0) (y := c.f1) (by omega) (fun x' y' hx hy => ?_) (c :: zs).length 0 _ _ (by omega) (by omega) (by omega) rfl rfl
    rw [mnF_fold S41.f0] at hx
    rw [mnF_fold S41.f1] at hy
    obtain ⟨a, ha, ea⟩ := mnF_mem S41.f0 (zs := c :: zs) (by simp)
    obtain ⟨b, hb, eb⟩ := mnF_mem S41.f1 (zs := c :: zs) (by simp)
    have b1 := h2 a ha
    have b2 := h2 b hb
    have w1 : wrap64 (-x') = -x' := w64 (by omega) (by omega)
    have w2 : wrap64 (-y') = -y' := w64 (by omega) (by omega)
    have hm := moved_ev (l := c :: zs) (a := -x') (b := -y') (by omega) (c :: zs).length 0 [] (by omega) (by omega) (by omega) rfl
    have e : ((c :: zs).map fun c => (⟨wrap64 (c.f0 + -x'), wrap64 (c.f1 + -y')⟩ : S41)) = crnW (c :: zs) := by
      unfold crnW
      rw [hx, hy]
      rfl
    rw [e] at hm
    rw [w1, w2]
    refine Ev.bind (g := fun k => impl_moved.f k (c :: zs) (-x') (-y')) hm ?_
    refine Ev.congr (f := fun _ => some (srt (crnW (c :: zs)))) (fun k => ?_) (Ev.now _)
    unfold impl_SortCells.f
    rw [if_pos (by unfold crnW; rw [List.length_map]; omega)]
    rfl
theorem turned_ev {l : List S41} (h : sm8 l) {r : List S41} (cont : Ev (fun k => impl_corner.f k (tq l)) r) : ∀ (m : Nat) (i : Int) (out : List S41), 0 ≤ i → i ≤ l.length → l.length ≤ i + m → out = tq (l.take i.toNat) → Ev (fun k => impl_turned.l0 k 1 out l (l.length : Int) i) r
  | m, i, out, h0, h1, h2, ho => by
    have hl := h.1
    by_cases hlt : i < (l.length : Int)
    · obtain ⟨m', rfl⟩ : ∃ m', m = m' + 1 := ⟨m - 1, by omega⟩
      have e1 : wrap64 (i + 1) = i + 1 := w64 (by omega) (by omega)
      have hb := h.2 _ (rd_mem h0 hlt)
      have hol : out.length = i.toNat := by rw [ho]; unfold tq; rw [List.length_map, List.length_take]; omega
      refine Ev.step (f := fun k => (impl_carry.f k (rd_T41 l i).f0 (rd_T41 l i).f1 1).bind fun bt => impl_turned.l0 k 1 (out ++ [⟨bt.1, bt.2⟩]) l (l.length : Int) (i + 1)) (fun k => ?_) (Ev.bind (icarry _ _ (by omega) (by omega)) (turned_ev h cont m' (i + 1) _ (by omega) (by omega) (by omega) ?_))
      · simp only [impl_turned.l0]
        rw [if_pos hlt, if_pos h0, if_pos hlt, e1]
        congr 1
        funext bt
        rw [if_pos (by omega)]
      · rw [take_succ_rd h0 hlt, ho]
        unfold tq
        rw [List.map_append]
        rfl
    · rw [show i.toNat = l.length by omega, List.take_length] at ho
      refine Ev.step (f := fun k => (impl_corner.f k (tq l)).bind fun t => some t) (fun k => ?_) (Ev.bind cont (Ev.now _))
      simp only [impl_turned.l0]
      rw [if_neg hlt, ho]
theorem l3Turn_ev {l : List S41} (h : sm8 l) {r : List S41} (cont : Ev (fun k => spec_l2Corner.f k (srt (tq l))) r) : ∀ (m : Nat) (i : Int) (out : List S41), 0 ≤ i → i ≤ l.length → l.length ≤ i + m → out = tq (l.take i.toNat) → Ev (fun k => spec_l3Turn.l0 k l 1 out i) r
  | m, i, out, h0, h1, h2, ho => by
    have hl := h.1
    by_cases hlt : i < (l.length : Int)
    · obtain ⟨m', rfl⟩ : ∃ m', m = m' + 1 := ⟨m - 1, by omega⟩
      have e1 : wrap64 (i + 1) = i + 1 := w64 (by omega) (by omega)
      have hb := h.2 _ (rd_mem h0 hlt)
      have hol : out.length = i.toNat := by rw [ho]; unfold tq; rw [List.length_map, List.length_take]; omega
      refine Ev.step (f := fun k => (spec_l3Apply.f k (rd_T41 l i).f0 (rd_T41 l i).f1 1).bind fun bt => spec_l3Turn.l0 k l 1 (out ++ [⟨bt.1, bt.2⟩]) (i + 1)) (fun k => ?_) (Ev.bind (sapply _ _ (by omega) (by omega)) (l3Turn_ev h cont m' (i + 1) _ (by omega) (by omega) (by omega) ?_))
      · simp only [spec_l3Turn.l0]
        rw [if_pos hlt, if_pos h0, e1]
        congr 1
        funext bt
        rw [if_pos (by omega)]
      · rw [take_succ_rd h0 hlt, ho]
        unfold tq
        rw [List.map_append]
        rfl
    · rw [show i.toNat = l.length by omega, List.take_length] at ho
      have hlen : (tq l).length ≤ 1000 := by unfold tq; rw [List.length_map]; omega
      refine Ev.step (f := fun k => (spec_l2Corner.f k (srt (tq l))).bind fun t => some t) (fun k => ?_) (Ev.bind cont (Ev.now _))
      simp only [spec_l3Turn.l0]
      rw [if_neg hlt, ho]
      unfold spec_SortCells.f
      rw [if_pos hlen]
      rfl
theorem mnF_ext (f : S41 → Int) {l m : List S41} (hl : l ≠ []) (hm : m ≠ []) (e : ∀ c, c ∈ l ↔ c ∈ m) : mnF f l = mnF f m := by
  obtain ⟨a, ha, ea⟩ := mnF_mem f hl
  obtain ⟨b, hb, eb⟩ := mnF_mem f hm
  have h1 := mnF_le f ((e a).mp ha)
  have h2 := mnF_le f ((e b).mpr hb)
  omega
/-- To the corner and then in order is in order and then to the corner. -/
theorem crn_srt {l : List S41} (hne : l ≠ []) (h : ∀ c ∈ l, -1000 ≤ c.f0 ∧ c.f0 ≤ 1000 ∧ -1000 ≤ c.f1 ∧ c.f1 ≤ 1000) : srt (crnW l) = crnW (srt l) := by
  have hne2 : srt l ≠ [] := by
    intro e
    obtain ⟨c, hc⟩ := List.exists_mem_of_ne_nil l hne
    have := srt_mem.mpr hc
    rw [e] at this
    cases this
  have e0 := mnF_ext S41.f0 hne hne2 (fun c => srt_mem.symm)
  have e1 := mnF_ext S41.f1 hne hne2 (fun c => srt_mem.symm)
  obtain ⟨a, ha, ea⟩ := mnF_mem S41.f0 hne
  obtain ⟨b, hb, eb⟩ := mnF_mem S41.f1 hne
  have b1 := h a ha
  have b2 := h b hb
  have hmap : ∀ m : List S41, (∀ c ∈ m, c ∈ l) → (m.map fun c => (⟨wrap64 (c.f0 - mnF S41.f0 l), wrap64 (c.f1 - mnF S41.f1 l)⟩ : S41)) = m.map fun c => ⟨c.f0 - mnF S41.f0 l, c.f1 - mnF S41.f1 l⟩ := by
    intro m hm
    apply List.map_congr_left
    intro c hc
    have b3 := h c (hm c hc)
    rw [w64 (by omega) (by omega), w64 (by omega) (by omega)]
  refine strict_one (srt_strict _) ?_ fun c => ?_
  · unfold crnW
    rw [← e0, ← e1, hmap _ (fun c hc => srt_mem.mp hc), List.pairwise_map]
    refine (srt_strict l).imp fun {a b} hab => ?_
    rw [ltB_iff] at *
    simp only
    omega
  · rw [srt_mem]
    unfold crnW
    rw [← e0, ← e1, List.mem_map, List.mem_map]
    constructor
    · rintro ⟨d, hd, e⟩; exact ⟨d, srt_mem.mpr hd, e⟩
    · rintro ⟨d, hd, e⟩; exact ⟨d, srt_mem.mp hd, e⟩
/-- A shape, turned, in its corner, in order. -/
def trn (l : List S41) : List S41 := srt (crnW (tq l))
theorem shape_sm8 {l : List S41} (hs : isShapeB l = true) : sm8 l := by
  refine ⟨by have := shape_len hs; omega, fun c hc => ?_⟩
  obtain ⟨i, h0, h1, rfl⟩ := mem_rd hc
  have := shape_cell hs h0 h1
  omega
theorem shape_ne {l : List S41} (hs : isShapeB l = true) : l ≠ [] := by
  intro h
  have := (shape_len hs).1
  rw [h] at this
  simp at this
theorem tq_ne {l : List S41} (h : l ≠ []) : tq l ≠ [] := by unfold tq; simpa using h
theorem iTurned_plain {l : List S41} (hs : isShapeB l = true) : Ev (fun k => impl_turned.f k l 1) (trn l) := by
  have h := shape_sm8 hs
  exact turned_ev h (corner_plain (tq_ne (shape_ne hs)) (sm8_tq h)) l.length 0 [] (by omega) (by omega) (by omega) rfl
theorem sTurned_plain {l : List S41} (hs : isShapeB l = true) : Ev (fun k => spec_l3Turn.f k l 1) (trn l) := by
  have h := shape_sm8 hs
  have h2 := sm8_tq h
  refine l3Turn_ev h ?_ l.length 0 [] (by omega) (by omega) (by omega) rfl
  unfold trn
  rw [crn_srt (tq_ne (shape_ne hs)) (fun c hc => by have := h2.2 c hc; omega)]
  refine l2Corner_ev ?_
  have := nodup_sub_len (strict_nodup (srt_strict (tq l))) (ys := tq l) (fun c hc => srt_mem.mp hc)
  have := h2.1
  omega
/-- A list in order, with small places, is a shape. -/
theorem strict_shape {l : List S41} (h1 : 1 ≤ l.length) (h8 : l.length ≤ 8) (hb : ∀ c ∈ l, 0 ≤ c.f0 ∧ c.f0 ≤ 7 ∧ 0 ≤ c.f1 ∧ c.f1 ≤ 7) (hp : l.Pairwise (fun a b => ltB a b = true)) : isShapeB l = true := by
  rw [shape_all (l := l) fun i h0 hi => ?_]
  · simp [h1, h8]
  · have b := hb _ (rd_mem h0 hi)
    unfold okAt inB
    rw [decide_eq_true (show 0 ≤ (rd_T41 l i).f0 by omega), decide_eq_true (show (rd_T41 l i).f0 ≤ 7 by omega), decide_eq_true (show 0 ≤ (rd_T41 l i).f1 by omega), decide_eq_true (show (rd_T41 l i).f1 ≤ 7 by omega)]
    by_cases hz : i ≤ 0
    · rw [decide_eq_true hz]; rfl
    · have : ltB (rd_T41 l (i - 1)) (rd_T41 l i) = true := by
        rw [List.pairwise_iff_getElem] at hp
        have := hp (i - 1).toNat i.toNat (by omega) (by omega) (by omega)
        unfold rd_T41
        rw [List.getD_eq_getElem?_getD, List.getD_eq_getElem?_getD, List.getElem?_eq_getElem (by omega), List.getElem?_eq_getElem (by omega)]
        exact this
      rw [this, Bool.or_true]
      rfl
theorem trn_shape {l : List S41} (hs : isShapeB l = true) : isShapeB (trn l) = true := by
  have hb : ∀ c ∈ l, 0 ≤ c.f0 ∧ c.f0 ≤ 7 ∧ 0 ≤ c.f1 ∧ c.f1 ≤ 7 := by
    intro c hc
    obtain ⟨i, h0, h1, rfl⟩ := mem_rd hc
    exact shape_cell hs h0 h1
  have hne := tq_ne (shape_ne hs)
  obtain ⟨h1, h8⟩ := shape_len hs
  have hq : ∀ c ∈ tq l, -7 ≤ c.f0 ∧ c.f0 ≤ 0 ∧ 0 ≤ c.f1 ∧ c.f1 ≤ 7 := by
    intro c hc
    unfold tq at hc
    rw [List.mem_map] at hc
    obtain ⟨d, hd, rfl⟩ := hc
    have := hb d hd
    simp only
    omega
  obtain ⟨a, ha, ea⟩ := mnF_mem S41.f0 hne
  obtain ⟨b, hb', eb⟩ := mnF_mem S41.f1 hne
  have b1 := hq a ha
  have b2 := hq b hb'
  have hm : ∀ c ∈ trn l, 0 ≤ c.f0 ∧ c.f0 ≤ 7 ∧ 0 ≤ c.f1 ∧ c.f1 ≤ 7 := by
    intro c hc
    unfold trn at hc
    rw [srt_mem] at hc
    unfold crnW at hc
    rw [List.mem_map] at hc
    obtain ⟨d, hd, rfl⟩ := hc
    have m1 := mnF_le S41.f0 hd
    have m2 := mnF_le S41.f1 hd
    have b3 := hq d hd
    simp only
    rw [w64 (by omega) (by omega), w64 (by omega) (by omega)]
    omega
  have hcn : (crnW (tq l)).length = l.length := by unfold crnW tq; rw [List.length_map, List.length_map]
  refine strict_shape ?_ ?_ hm (srt_strict _)
  · have hx : ∃ c, c ∈ crnW (tq l) := List.exists_mem_of_ne_nil _ (by intro e; rw [e] at hcn; simp at hcn; omega)
    obtain ⟨c, hc⟩ := hx
    exact List.length_pos_of_mem (srt_mem.mpr hc)
  · have := nodup_sub_len (strict_nodup (srt_strict (crnW (tq l)))) (ys := crnW (tq l)) (fun c hc => srt_mem.mp hc)
    unfold trn
    omega
theorem shape_le {l : List S41} (hs : isShapeB l = true) {i j : Int} (h0 : 0 ≤ i) (h1 : i < l.length) (h2 : 0 ≤ j) (h3 : j < l.length) (h : ltB (rd_T41 l i) (rd_T41 l j) = true) : i < j := by
  apply Classical.byContradiction
  intro hh
  by_cases e : i = j
  · rw [e, srt_lt] at h
    cases h
  · have := shape_mono hs h2 (show j < i by omega) h1
    rw [ltB_iff] at *
    omega
/-- Cells of rows follow one another: told by neighbours in the list, or by all pairs. -/
theorem cf_rf {l : List S41} (hs : isShapeB l = true) : cfB l = rfB l := by
  have hiff : CF l ↔ RF l := by
    constructor
    · intro h i j i0 i1 j0 j1 hrow x hx1 hx2
      have hij : i < j := shape_le hs i0 i1 j0 j1 (by rw [ltB_iff]; omega)
      have key : ∀ n : Nat, i + n ≤ j → (rd_T41 l (i + n)).f1 = (rd_T41 l i).f1 ∧ (rd_T41 l (i + n)).f0 = (rd_T41 l i).f0 + n := by
        intro n
        induction n with
        | zero =>
          intro _
          rw [show i + ((0 : Nat) : Int) = i by omega]
          exact ⟨rfl, by omega⟩
        | succ n ih =>
          intro hn
          obtain ⟨k1, k2⟩ := ih (by omega)
          have hm := shape_mono hs (i := i + n) (j := i + (n + 1 : Nat)) (by omega) (by omega) (by omega)
          have hl : (rd_T41 l (i + (n + 1 : Nat))).f1 ≤ (rd_T41 l j).f1 := by
            by_cases e : i + (n + 1 : Nat) = j
            · rw [e]; omega
            · have := shape_mono hs (i := i + (n + 1 : Nat)) (j := j) (by omega) (by omega) j1
              rw [ltB_iff] at this
              omega
          rw [ltB_iff] at hm
          have hf1 : (rd_T41 l (i + (n + 1 : Nat))).f1 = (rd_T41 l i).f1 := by omega
          refine ⟨hf1, ?_⟩
          have := h (i + (n + 1 : Nat)) (by omega) (by omega) (by rw [show i + ((n + 1 : Nat) : Int) - 1 = i + n by omega, k1]; exact hf1)
          rw [show i + ((n + 1 : Nat) : Int) - 1 = i + n by omega, k2] at this
          omega
      obtain ⟨k1, k2⟩ := key (j - i).toNat (by omega)
      rw [show i + ((j - i).toNat : Int) = j by omega] at k2
      obtain ⟨g1, g2⟩ := key (x - (rd_T41 l i).f0).toNat (by omega)
      rw [hasB_iff]
      have hm := rd_mem (l := l) (i := i + ((x - (rd_T41 l i).f0).toNat : Int)) (by omega) (by omega)
      have e : rd_T41 l (i + ((x - (rd_T41 l i).f0).toNat : Int)) = ⟨x, (rd_T41 l i).f1⟩ := by
        rcases hc : rd_T41 l (i + ((x - (rd_T41 l i).f0).toNat : Int)) with ⟨u, v⟩
        rw [hc] at g1 g2
        simp only at g1 g2
        rw [S41.mk.injEq]
        omega
      rw [e] at hm
      exact hm
    · intro h i i1 hi hrow
      have hm := shape_mono hs (i := i - 1) (j := i) (by omega) (by omega) hi
      rw [ltB_iff] at hm
      apply Classical.byContradiction
      intro hne
      have hb := h (i - 1) i (by omega) (by omega) (by omega) hi hrow.symm ((rd_T41 l (i - 1)).f0 + 1) (by omega) (by omega)
      rw [hasB_iff] at hb
      obtain ⟨q, q0, q1, e⟩ := mem_rd hb
      have l1 := shape_le hs (i := i - 1) (j := q) (by omega) (by omega) q0 q1 (ltB_iff.mpr (by rw [e]; exact .inr ⟨rfl, Int.lt_succ _⟩))
      have l2 := shape_le hs (i := q) (j := i) q0 q1 (by omega) hi (by rw [ltB_iff, e]; simp only; omega)
      omega
  by_cases hc : CF l
  · rw [cfB_yes hs hc, rfB_yes (hiff.mp hc)]
  · rw [cfB_no (fun h => hc h.2), rfB_no (fun h => hc (hiff.mpr h))]
end Go.Proofs.Ytlohfeicfhmlmaa.PFnOutlines

namespace Go.Proofs.Ytlohfeicfhmlmaa.PFnOutlines
open Go.RowKit Go.Proofs.YtlohfeicfhmlmaaW.PrintWords Go.Proofs.YtlohfeicfhmlmaaW.PrintLast Go.Proofs.YtlohfeicfhmlmaaW.PrintMore
attribute [local go_sem] max2_int min2_int max_two min_two max_three min_three max_four min_four   -- for this text's walks alone
set_option linter.unusedVariables false
set_option linter.unusedSimpArgs false
def h_get (xa : List Bool) (y x : Int) : Bool := rdOf false xa (10 * y + x)
def h_put (xa : List Bool) (y x : Int) : List Bool := xa.set (10 * y + x).toNat true
mutual
def impl_HolesOf.l0 : Nat → List S41 → List Bool → Int → Option Int
  | 0, _, _, _ => none
  | k + 1, x0, xa, i => if i < (x0.length : Int) then (if 0 ≤ i then (if 0 ≤ wrap64 ((rd_T41 x0 i).f1 + 1) then (if wrap64 ((rd_T41 x0 i).f1 + 1) < 10 then (if 0 ≤ wrap64 ((rd_T41 x0 i).f0 + 1) then (if wrap64 ((rd_T41 x0 i).f0 + 1) < 10 then (impl_HolesOf.l0 k x0 (h_put xa (wrap64 ((rd_T41 x0 i).f1 + 1)) (wrap64 ((rd_T41 x0 i).f0 + 1))) (wrap64 (i + 1))) else none) else none) else none) else none) else none) else (impl_HolesOf.l1 k xa 0 0)
def impl_HolesOf.l1 : Nat → List Bool → Int → Int → Option Int
  | 0, _, _, _ => none
  | k + 1, xa, n, y => if y < 10 then (impl_HolesOf.l2 k xa n y 0) else some (wrap64 (n - 1))
def impl_HolesOf.l2 : Nat → List Bool → Int → Int → Int → Option Int
  | 0, _, _, _, _ => none
  | k + 1, xa, n, y, x => if x < 10 then (if 0 ≤ y then (if y < 10 then (if 0 ≤ x then (if h_get xa y x = true then (impl_HolesOf.l2 k xa n y (wrap64 (x + 1))) else (impl_HolesOf.l3 k (h_put xa y x) (wrap64 (n + 1)) y x [(⟨x, y⟩ : S41)])) else none) else none) else none) else (impl_HolesOf.l1 k xa n (wrap64 (y + 1)))
def impl_HolesOf.l3 : Nat → List Bool → Int → Int → Int → List S41 → Option Int
  | 0, _, _, _, _, _ => none
  | k + 1, xa, n, y, x, q => if (q.length : Int) > 0 then ((impl_sides.f (rd_T41 q 0).f0 (rd_T41 q 0).f1).bind fun ds => (impl_HolesOf.l4 k xa n y x (q.drop 1) ds 0)) else (impl_HolesOf.l2 k xa n y (wrap64 (x + 1)))
def impl_HolesOf.l4 : Nat → List Bool → Int → Int → Int → List S41 → List S41 → Int → Option Int
  | 0, _, _, _, _, _, _, _ => none
  | k + 1, xa, n, y, x, q, ds, j => if j < (ds.length : Int) then (if 0 ≤ j then ((impl_between.f (rd_T41 ds j).f0 0 9).bind fun t1 => (if t1 = true then ((impl_between.f (rd_T41 ds j).f1 0 9).bind fun t2 => (if t2 = true then (if h_get xa (rd_T41 ds j).f1 (rd_T41 ds j).f0 = true then (impl_HolesOf.l4 k xa n y x q ds (wrap64 (j + 1))) else (if q.length < 8796093022208 then (impl_HolesOf.l4 k (h_put xa (rd_T41 ds j).f1 (rd_T41 ds j).f0) n y x (q ++ [(⟨(rd_T41 ds j).f0, (rd_T41 ds j).f1⟩ : S41)]) ds (wrap64 (j + 1))) else none)) else (impl_HolesOf.l4 k xa n y x q ds (wrap64 (j + 1))))) else (impl_HolesOf.l4 k xa n y x q ds (wrap64 (j + 1))))) else none) else (impl_HolesOf.l3 k xa n y x q)
end
def impl_HolesOf.f (k : Nat) (l0 : List (S41)) : Option (Int) := (impl_IsShape.f l0).bind fun t => (if t = true then (impl_HolesOf.l0 k l0 (List.replicate 100 false) 0) else (some (-1)))
theorem impl_HolesOf.mono_l : ∀ k, (∀ y0 y1 y2, LeO (impl_HolesOf.l0 k y0 y1 y2) (impl_HolesOf.l0 (k + 1) y0 y1 y2)) ∧ (∀ y0 y1 y2, LeO (impl_HolesOf.l1 k y0 y1 y2) (impl_HolesOf.l1 (k + 1) y0 y1 y2)) ∧ (∀ y0 y1 y2 y3, LeO (impl_HolesOf.l2 k y0 y1 y2 y3) (impl_HolesOf.l2 (k + 1) y0 y1 y2 y3)) ∧ (∀ y0 y1 y2 y3 y4, LeO (impl_HolesOf.l3 k y0 y1 y2 y3 y4) (impl_HolesOf.l3 (k + 1) y0 y1 y2 y3 y4)) ∧ (∀ y0 y1 y2 y3 y4 y5 y6, LeO (impl_HolesOf.l4 k y0 y1 y2 y3 y4 y5 y6) (impl_HolesOf.l4 (k + 1) y0 y1 y2 y3 y4 y5 y6))
  | 0 => ⟨fun _ _ _ r h => by simp [impl_HolesOf.l0] at h, fun _ _ _ r h => by simp [impl_HolesOf.l1] at h, fun _ _ _ _ r h => by simp [impl_HolesOf.l2] at h, fun _ _ _ _ _ r h => by simp [impl_HolesOf.l3] at h, fun _ _ _ _ _ _ _ r h => by simp [impl_HolesOf.l4] at h⟩
  | k + 1 => by
    obtain ⟨ih0, ih1, ih2, ih3, ih4⟩ := impl_HolesOf.mono_l k
    refine ⟨?_, ?_, ?_, ?_, ?_⟩
    · intro y0 y1 y2
      unfold impl_HolesOf.l0
      repeat' first
      | (with_reducible exact ih0 _ _ _)
      | (with_reducible exact ih1 _ _ _)
      | (with_reducible exact ih2 _ _ _ _)
      | (with_reducible exact ih3 _ _ _ _ _)
      | (with_reducible exact ih4 _ _ _ _ _ _ _)
      | (with_reducible exact LeO.refl _)
      | (with_reducible exact LeO.none _)
      | (with_reducible refine LeO.ite ?_ ?_)
      | (with_reducible refine LeO.bind ?_ (fun _ => ?_))
      | exact ih0 _ _ _
      | exact ih1 _ _ _
      | exact ih2 _ _ _ _
      | exact ih3 _ _ _ _ _
      | exact ih4 _ _ _ _ _ _ _
      | exact LeO.none _
      | refine LeO.ite ?_ ?_
      | refine LeO.bind ?_ (fun _ => ?_)
    · intro y0 y1 y2
      unfold impl_HolesOf.l1
      repeat' first
      | (with_reducible exact ih0 _ _ _)
      | (with_reducible exact ih1 _ _ _)
      | (with_reducible exact ih2 _ _ _ _)
      | (with_reducible exact ih3 _ _ _ _ _)
      | (with_reducible exact ih4 _ _ _ _ _ _ _)
      | (with_reducible exact LeO.refl _)
      | (with_reducible exact LeO.none _)
      | (with_reducible refine LeO.ite ?_ ?_)
      | (with_reducible refine LeO.bind ?_ (fun _ => ?_))
      | exact ih0 _ _ _
      | exact ih1 _ _ _
      | exact ih2 _ _ _ _
      | exact ih3 _ _ _ _ _
      | exact ih4 _ _ _ _ _ _ _
      | exact LeO.none _
      | refine LeO.ite ?_ ?_
      | refine LeO.bind ?_ (fun _ => ?_)
    · intro y0 y1 y2 y3
      unfold impl_HolesOf.l2
      repeat' first
      | (with_reducible exact ih0 _ _ _)
      | (with_reducible exact ih1 _ _ _)
      | (with_reducible exact ih2 _ _ _ _)
      | (with_reducible exact ih3 _ _ _ _ _)
      | (with_reducible exact ih4 _ _ _ _ _ _ _)
      | (with_reducible exact LeO.refl _)
      | (with_reducible exact LeO.none _)
      | (with_reducible refine LeO.ite ?_ ?_)
      | (with_reducible refine LeO.bind ?_ (fun _ => ?_))
      | exact ih0 _ _ _
      | exact ih1 _ _ _
      | exact ih2 _ _ _ _
      | exact ih3 _ _ _ _ _
      | exact ih4 _ _ _ _ _ _ _
      | exact LeO.none _
      | refine LeO.ite ?_ ?_
      | refine LeO.bind ?_ (fun _ => ?_)
    · intro y0 y1 y2 y3 y4
      unfold impl_HolesOf.l3
      repeat' first
      | (with_reducible exact ih0 _ _ _)
      | (with_reducible exact ih1 _ _ _)
      | (with_reducible exact ih2 _ _ _ _)
      | (with_reducible exact ih3 _ _ _ _ _)
      | (with_reducible exact ih4 _ _ _ _ _ _ _)
      | (with_reducible exact LeO.refl _)
      | (with_reducible exact LeO.none _)
      | (with_reducible refine LeO.ite ?_ ?_)
      | (with_reducible refine LeO.bind ?_ (fun _ => ?_))
      | exact ih0 _ _ _
      | exact ih1 _ _ _
      | exact ih2 _ _ _ _
      | exact ih3 _ _ _ _ _
      | exact ih4 _ _ _ _ _ _ _
      | exact LeO.none _
      | refine LeO.ite ?_ ?_
      | refine LeO.bind ?_ (fun _ => ?_)
    · intro y0 y1 y2 y3 y4 y5 y6
      unfold impl_HolesOf.l4
      repeat' first
      | (with_reducible exact ih0 _ _ _)
      | (with_reducible exact ih1 _ _ _)
      | (with_reducible exact ih2 _ _ _ _)
      | (with_reducible exact ih3 _ _ _ _ _)
      | (with_reducible exact ih4 _ _ _ _ _ _ _)
      | (with_reducible exact LeO.refl _)
      | (with_reducible exact LeO.none _)
      | (with_reducible refine LeO.ite ?_ ?_)
      | (with_reducible refine LeO.bind ?_ (fun _ => ?_))
      | exact ih0 _ _ _
      | exact ih1 _ _ _
      | exact ih2 _ _ _ _
      | exact ih3 _ _ _ _ _
      | exact ih4 _ _ _ _ _ _ _
      | exact LeO.none _
      | refine LeO.ite ?_ ?_
      | refine LeO.bind ?_ (fun _ => ?_)
theorem impl_HolesOf.mono : ∀ a0 k, LeO (impl_HolesOf.f k a0) (impl_HolesOf.f (k + 1) a0) := by
  intro a0 k
  obtain ⟨ih0, ih1, ih2, ih3, ih4⟩ := impl_HolesOf.mono_l k
  unfold impl_HolesOf.f
  repeat' first
      | (with_reducible exact ih0 _ _ _)
      | (with_reducible exact ih1 _ _ _)
      | (with_reducible exact ih2 _ _ _ _)
      | (with_reducible exact ih3 _ _ _ _ _)
      | (with_reducible exact ih4 _ _ _ _ _ _ _)
      | (with_reducible exact LeO.refl _)
      | (with_reducible exact LeO.none _)
      | (with_reducible refine LeO.ite ?_ ?_)
      | (with_reducible refine LeO.bind ?_ (fun _ => ?_))
      | exact ih0 _ _ _
      | exact ih1 _ _ _
      | exact ih2 _ _ _ _
      | exact ih3 _ _ _ _ _
      | exact ih4 _ _ _ _ _ _ _
      | exact LeO.none _
      | refine LeO.ite ?_ ?_
      | refine LeO.bind ?_ (fun _ => ?_)
/-- the array of ten rows of ten places -/
def aBlk (w : World) (g : Nat) (xa : List Bool) : Prop := xa.length = 100 ∧ w.heap[g]? = some (.cells (xa.map Value.bool).toArray 39 (0, 0))
theorem aBlk.below {w w1 : World} {g : Nat} {xa : List Bool} (h : aBlk w g xa) (hb : Below w.heap.size w w1) : aBlk w1 g xa := ⟨h.1, blk_below h.2 hb⟩
theorem aBlk.cell {w : World} {g : Nat} {xa : List Bool} (h : aBlk w g xa) {y x : Int} (h0 : 0 ≤ y) (h1 : y < 10) (h2 : 0 ≤ x) (h3 : x < 10) : w.cell? ⟨g, y.toNat * 10 + x.toNat, none⟩ = some (.bool (h_get xa y x)) := by
  have e : (10 * y + x).toNat = y.toNat * 10 + x.toNat := by omega
  have hl : y.toNat * 10 + x.toNat < xa.length := by have := h.1; omega
  rw [blk_cell h.2, h_get, rdOf, e]
  simp [hl]
theorem aBlk.set {w : World} {g : Nat} {xa : List Bool} (h : aBlk w g xa) {y x : Int} (h0 : 0 ≤ y) (h1 : y < 10) (h2 : 0 ≤ x) (h3 : x < 10) : aBlk (w.setCell ⟨g, y.toNat * 10 + x.toNat, none⟩ (.bool true)) g (h_put xa y x) := by
  have e : (10 * y + x).toNat = y.toNat * 10 + x.toNat := by omega
  unfold h_put
  refine ⟨by rw [List.length_set]; exact h.1, ?_⟩
  rw [blk_set h.2, e]
  simp [List.map_set]
theorem C_far {w : World} {A : Option Addr} {n : Nat} {xs : List S41} (h : Kd.C k41 w A n xs) {p : Addr} (hne : ∀ ad, A = some ad → ad.block ≠ p.block) (u : Value) : Kd.C k41 (w.setCell p u) A n xs := by
  refine ⟨h.1, h.2.1, fun hn => ?_⟩
  obtain ⟨ad, e, hc⟩ := h.2.2 hn
  refine ⟨ad, e, fun j p' hj => ?_⟩
  obtain ⟨c, hs, hr, hcell⟩ := hc j p' hj
  refine ⟨c, hs, by rw [k41_open hr]; exact k41_mk _ _, fun i u' hu => ?_⟩
  have h1 := hcell i u' hu
  have hb : (ad.add (j * k41.sz + i)).block = ad.block := by unfold Addr.add; split <;> rfl
  rw [← h1]
  unfold World.cell?
  rw [hb, Below.heap_setCell w p u _ (hne ad e)]
theorem cc_grown {w w1 : World} {A : Option Addr} {n : Nat} {xs : List S41} {row : Option Nat} (h : Kd.C k41 w A n xs) (hg : w.grownBy w1 row) (hne : ∀ ad, A = some ad → 0 < n → some ad.block ≠ row) : Kd.C k41 w1 A n xs := by
  refine ⟨h.1, h.2.1, fun hn => ?_⟩
  obtain ⟨ad, e, hc⟩ := h.2.2 hn
  refine ⟨ad, e, fun j p hj => ?_⟩
  obtain ⟨c, hs, hr, hcell⟩ := hc j p hj
  refine ⟨c, hs, by rw [k41_open hr]; exact k41_mk _ _, fun i u hu => ?_⟩
  have h1 := hcell i u hu
  have hb : (ad.add (j * k41.sz + i)).block = ad.block := by unfold Addr.add; split <;> rfl
  have hlt : ad.block < w.heap.size := by have := World.block_lt_of_cell? w _ h1; rwa [hb] at this
  rw [← h1]
  unfold World.cell?
  rw [hb, hg.block _ hlt (hne ad e hn)]
theorem between_tells {x : Int} {t : Bool} (h : impl_between.f x 0 9 = some t) : t = decide (0 ≤ x ∧ x < 10) := by
  unfold impl_between.f at h
  split at h
  · have := Option.some.inj h; subst this; rw [Bool.eq_iff_iff]; simp; omega
  · have := Option.some.inj h; subst this; rw [Bool.eq_iff_iff]; simp; omega
theorem between_quiet {x : Int} {t : Bool} (h : impl_between.f x 0 9 = some t) (w : World) (n : Nat) : Calls Try.prog 34 #[.int .i64 x, .int .i64 0, .int .i64 9] (w.drewN n) fun e w'' => e = .returned (.bool t) ∧ ∃ m, w'' = w.drewN m :=
  Calls.quiet_of ((impl_between.calls x 0 9 t _ h).mono fun _ _ ⟨he, hd⟩ => ⟨he, hd.out⟩)
theorem zero39 : Try.zeroCells39 = ((List.replicate 100 false).map Value.bool).toArray := by kernel_rfl
theorem w64 {x : Int} (h : -9223372036854775808 ≤ x) (h2 : x ≤ 9223372036854775807) : wrap64 x = x := by unfold wrap64; omega
set_option maxHeartbeats 4000000 in
set_option maxRecDepth 100000 in
theorem HolesOf_yes (k : Nat) (A0 : Option Addr) (c0 : Nat) (l0 : List S41) (r : Int) (w : World) (hr0 : Kd.C k41 w A0 l0.length l0) (hc0 : l0.length ≤ c0) (h1 : impl_IsShape.f l0 = some true) (h2 : impl_HolesOf.l0 k l0 (List.replicate 100 false) 0 = some r) :
    Calls Try.prog 8 #[.slice A0 l0.length c0] w fun e w' => e = .returned (.int .i64 r) ∧ Below w.heap.size w w' := by
  have hu41 := Try.underlying41
  have HR0 := Aside0.mk hr0
  have H1 := Aside0.mk h1
  have H2 := Aside0.mk h2
  clear hr0 h1 h2
  have HB := Aside0.mk (Below.refl w.heap.size w)
  go_enter Try.func8, Try.ntmps8
  go_wp2_with (first
    | (go_at_call 32; (with_reducible refine (impl_IsShape.calls _ _ l0 true _ ?s1 hc0 H1.out).mono ?_); (case s1 => exact HR0.out); rintro e w1 ⟨rfl, hb⟩; have HB := Aside0.mk hb; clear hb))
  obtain ⟨gs, hgs⟩ : ∃ gs, gs = w1.heap.size := ⟨_, rfl⟩
  obtain ⟨wa, hwa⟩ : ∃ wa, wa = w1.alloc (.cells Try.zeroCells39 39) := ⟨_, rfl⟩
  have hA : aBlk wa gs (List.replicate 100 false) := ⟨by simp, by rw [hwa, zero39, hgs]; exact blk_new _ _⟩
  have hBa : Below w.heap.size w wa := by rw [hwa]; exact below_alloc HB.out _
  have GE := Aside0.mk (show w.heap.size ≤ gs by rw [hgs]; exact HB.out.size)
  rw [← hwa, ← hgs]
  have HA0 := Aside0.mk hA
  clear HB
  have HB := Aside0.mk hBa
  clear hA hBa hwa hgs
  go_loopg [18] k (fun kq v18 w' => ∃ (i : Int) (xa : List Bool), v18 = .int .i64 i ∧ Aside0 (impl_HolesOf.l0 kq l0 xa i = some r) ∧ Aside0 (kq ≤ k) ∧ Aside0 (aBlk w' gs xa) ∧ Aside0 (Below w.heap.size w w'))
  case atStart => exact ⟨0, _, rfl, H2, ⟨Nat.le_refl _⟩, HA0, HB⟩
  case round =>
    clear H2 HA0 HB
    obtain ⟨i, xa, rfl, HE, HK1, HA, HB⟩ := hrel
    cases gk with
    | zero => exact absurd HE.out (by simp [impl_HolesOf.l0])
    | succ k1 =>
      have H := HE.out
      clear HE
      simp only [impl_HolesOf.l0] at H
      by_cases hin : i < (l0.length : Int)
      · rw [if_pos hin] at H
        by_cases hi0 : 0 ≤ i
        · rw [if_pos hi0] at H
          obtain ⟨ad, e, hx0, hx1⟩ := at_T41 HR0.out i hi0 hin
          cases e
          replace hx0 := (HB.out.cell (World.block_lt_of_cell? w _ hx0)).trans hx0
          replace hx1 := (HB.out.cell (World.block_lt_of_cell? w _ hx1)).trans hx1
          have HH := Aside0.mk H
          clear H
          go_wp2_with (first
            | ((with_reducible refine gate_dst (N := 5) rfl ?_); refine box_event ?hg (N := 5) ?hd (cs := #[.int .i64 0, .int .i64 0]) (t := 41) ?hr ?_; (case hd => rfl); (case hg => rfl); (case hr => first | (go_simp; done) | (go_simp; rfl)); intro gb hg w3 hbox hb; have hcz0 : w3.cell? ⟨gb, 0, none⟩ = some (.int .i64 0) := (blk_cell hbox 0).trans rfl; have hcz1 : w3.cell? ⟨gb, 1, none⟩ = some (.int .i64 0) := (blk_cell hbox 1).trans rfl; have hfz0 := blk_frozen hbox 0; have hfz1 := blk_frozen hbox 1; have BC := Aside0.mk hbox; have HW := Aside0.mk hb; have HG := Aside0.mk hg; clear hbox hb hg))
          obtain ⟨W4, hW4⟩ : ∃ W4, W4 = (w3.setCell ⟨gb, 0, none⟩ (.int .i64 (rd_T41 l0 i).f0)).setCell ⟨gb, 1, none⟩ (.int .i64 (rd_T41 l0 i).f1) := ⟨_, rfl⟩
          have hgw : w.heap.size ≤ gb := by rw [HG.out]; exact HB.out.size
          have HB4 := Aside0.mk (show Below w.heap.size w W4 by rw [hW4]; exact below_set (below_set (below_step HB.out HW.out) hgw) hgw)
          have HW4 : Below wr.heap.size wr W4 := by rw [hW4]; exact below_set (below_set HW.out (Nat.le_of_eq HG.out.symm)) (Nat.le_of_eq HG.out.symm)
          have HA4 := Aside0.mk (HA.out.below HW4)
          have BC4 : W4.heap[gb]? = some (.cells #[.int .i64 (rd_T41 l0 i).f0, .int .i64 (rd_T41 l0 i).f1] 41 (0, 0)) := by rw [hW4]; refine blk_put (cs := #[.int .i64 (rd_T41 l0 i).f0, .int .i64 0]) ?_ 1 _ rfl; exact blk_put BC.out 0 _ rfl
          have hb0 := (blk_cell BC4 0).trans rfl
          have hb1 := (blk_cell BC4 1).trans rfl
          rw [← hW4]
          clear hW4 HW4 BC4 hcz0 hcz1 hfz0 hfz1 BC HW HG hx0 hx1 HB HA hgw
          have H := HH.out
          clear HH
          generalize (rd_T41 l0 i).f0 = cx at hb0 H ⊢
          generalize (rd_T41 l0 i).f1 = cy at hb1 H ⊢
          obtain ⟨X, hX⟩ : ∃ X, wrap64 (cx + 1) = X := ⟨_, rfl⟩
          obtain ⟨Y, hY⟩ : ∃ Y, wrap64 (cy + 1) = Y := ⟨_, rfl⟩
          rw [hX, hY] at H
          have hXw : IntKind.i64.wrap (cx + 1) = X := (i64_w _).trans hX
          have hYw : IntKind.i64.wrap (cy + 1) = Y := (i64_w _).trans hY
          by_cases hY0 : 0 ≤ Y
          · rw [if_pos hY0] at H
            by_cases hY1 : Y < 10
            · rw [if_pos hY1] at H
              by_cases hX0 : 0 ≤ X
              · rw [if_pos hX0] at H
                by_cases hX1 : X < 10
                · rw [if_pos hX1] at H
                  have H' := Aside0.mk H
                  clear H
                  have hfr : W4.frozen? ⟨gs, Y.toNat * 10 + X.toNat, none⟩ = false := blk_frozen HA4.out.2 _
                  have hce := HA4.out.cell hY0 hY1 hX0 hX1
                  go_region
                  go_wp2
                  go_roundg k1
                  case measure => have := HK1.out; omega
                  case rel => exact ⟨_, _, rfl, H', ⟨by have := HK1.out; omega⟩, ⟨(HA4.out.set hY0 hY1 hX0 hX1).below (below_drew (Below.refl _ _))⟩, ⟨below_drew (below_set HB4.out GE.out)⟩⟩
                · rw [if_neg hX1] at H
                  exact absurd H (by simp)
              · rw [if_neg hX0] at H
                exact absurd H (by simp)
            · rw [if_neg hY1] at H
              exact absurd H (by simp)
          · rw [if_neg hY0] at H
            exact absurd H (by simp)
        · rw [if_neg hi0] at H
          exact absurd H (by simp)
      · rw [if_neg hin] at H
        have H' := Aside0.mk H
        clear H
        go_wp2
        go_loopg [6, 31] k1 (fun kq v6 v31 w' => ∃ (n y : Int) (xa : List Bool), v6 = .int .i64 n ∧ v31 = .int .i64 y ∧ Aside0 (impl_HolesOf.l1 kq xa n y = some r) ∧ Aside0 (kq ≤ k1) ∧ Aside0 (aBlk w' gs xa) ∧ Aside0 (Below w.heap.size w w'))
        case atStart => exact ⟨0, 0, _, rfl, rfl, H', ⟨Nat.le_refl _⟩, HA, HB⟩
        case round =>
          clear H' HA HB
          obtain ⟨n, y, xa, rfl, rfl, HE, HK2, HA, HB⟩ := hrel
          cases gk with
          | zero => exact absurd HE.out (by simp [impl_HolesOf.l1])
          | succ k2 =>
            have H := HE.out
            clear HE
            simp only [impl_HolesOf.l1] at H
            by_cases hy : y < 10
            · rw [if_pos hy] at H
              have H' := Aside0.mk H
              clear H
              go_wp2
              go_loopg [6, 34] k2 (fun kq v6 v34 w' => ∃ (n x : Int) (xa : List Bool), v6 = .int .i64 n ∧ v34 = .int .i64 x ∧ Aside0 (impl_HolesOf.l2 kq xa n y x = some r) ∧ Aside0 (kq ≤ k2) ∧ Aside0 (aBlk w' gs xa) ∧ Aside0 (Below w.heap.size w w'))
              case atStart => exact ⟨_, 0, _, rfl, rfl, H', ⟨Nat.le_refl _⟩, HA, HB⟩
              case round =>
                clear H' HA HB
                obtain ⟨n2, x, xb, rfl, rfl, HE, HK3, HA, HB⟩ := hrel
                cases gk with
                | zero => exact absurd HE.out (by simp [impl_HolesOf.l2])
                | succ k3 =>
                  have H := HE.out
                  clear HE
                  simp only [impl_HolesOf.l2] at H
                  by_cases hx : x < 10
                  · rw [if_pos hx] at H
                    by_cases hy0 : 0 ≤ y
                    · rw [if_pos hy0, if_pos hy] at H
                      by_cases hx0 : 0 ≤ x
                      · rw [if_pos hx0] at H
                        have hce := HA.out.cell hy0 hy hx0 hx
                        have hfr : wr.frozen? ⟨gs, y.toNat * 10 + x.toNat, none⟩ = false := blk_frozen HA.out.2 _
                        by_cases hv : h_get xb y x = true
                        · rw [if_pos hv] at H
                          rw [hv] at hce
                          rw [w64 (x := x + 1) (by omega) (by omega)] at H
                          have H' := Aside0.mk H
                          clear H hv
                          go_wp2
                          go_roundg k3
                          case measure => have := HK3.out; omega
                          case rel => exact ⟨_, _, _, rfl, rfl, H', ⟨by have := HK3.out; omega⟩, HA, HB⟩
                        · rw [if_neg hv] at H
                          have hv' : h_get xb y x = false := by simpa using hv
                          rw [hv'] at hce
                          have H' := Aside0.mk H
                          clear H hv hv'
                          go_wp2_with (first
                            | ((with_reducible refine gate_dst (N := 51) rfl ?_); refine Kd.R_lit k41 _ 41 ?hg (N := 51) ?hd (xs := [(⟨x, y⟩ : S41)]) (inner := [.int .i64 x, .int .i64 y]) (ok := fun _ => True) (okp := fun _ => True) ?hr ?hp (fun _ hk => hk) trivial (Below.refl _ _) (Nat.le_refl _) (by simp) ?_; (case hd => rfl); (case hg => rfl); (case hr => first | (go_simp; done) | (go_simp; rfl)); (case hp => exact (Reps.c2 (show Kd.M k41 _ _ _ (⟨x, y⟩ : S41) [.int .i64 x, .int .i64 y] from k41_mkM _ _ _ (⟨x, y⟩ : S41)) (Reps.none _ _))); intro v51 w5 ho hb hg_ hnew_; have HQ := Aside0.mk ho; have HW := Aside0.mk hb; clear ho hb hg_ hnew_))
                          have HA5 := Aside0.mk ((HA.out.set hy0 hy hx0 hx).below HW.out)
                          have HB5 := Aside0.mk (below_step (below_set HB.out GE.out) HW.out)
                          have HQ5 := Aside0.mk (Kd.Q_mono (ok' := fun k_ => k_ ≠ gs) (Kd.Q_of_R (Kd.R_types (Kd.R_lower HQ.out (show w.heap.size ≤ _ from (below_set HB.out GE.out).size)) HA5.out.2 (by decide))) (fun _ h => h.2))
                          clear HA HB HQ HW hce hfr
                          go_loopg [9] k3 (fun kq v9 w' => ∃ (q : List S41) (xc : List Bool), Aside0 (impl_HolesOf.l3 kq xc (wrap64 (n2 + 1)) y x q = some r) ∧ Aside0 (kq ≤ k3) ∧ Aside0 (aBlk w' gs xc) ∧ Aside0 (Kd.Q k41 41 w' w.heap.size (fun k_ => k_ ≠ gs) v9 q) ∧ Aside0 (Below w.heap.size w w'))
                          case atStart => exact ⟨_, _, H', ⟨Nat.le_refl _⟩, HA5, HQ5, HB5⟩
                          case round =>
                            clear H' HA5 HQ5 HB5
                            obtain ⟨q, xc, HE, HK4, HA, HQ, HB⟩ := hrel
                            cases gk with
                            | zero => exact absurd HE.out (by simp [impl_HolesOf.l3])
                            | succ k4 =>
                              have H := HE.out
                              clear HE
                              simp only [impl_HolesOf.l3] at H
                              obtain ⟨Aq, cq, eq_, hcq⟩ := Kd.Q_slice HQ.out
                              subst eq_
                              by_cases hq : (q.length : Int) > 0
                              · rw [if_pos hq] at H
                                obtain ⟨ds, A1, H⟩ := Option.bind_eq_some_iff.mp H
                                have HC0 := (Kd.Q_reads' HQ.out).2.2
                                obtain ⟨adq, eadq, hx0', hx1'⟩ := at_T41 HC0 0 (by omega) (by omega)
                                subst eadq
                                clear HC0
                                have hqn : 0 < (q.length : Int) := hq
                                have hpos : 0 < q.length := by omega
                                have hz0 : adq.add ((0 : Int).toNat * 2) = adq := by rw [show ((0 : Int).toNat * 2) = 0 from rfl, Addr.add_zero']
                                rw [hz0] at hx0' hx1'
                                clear hz0
                                generalize hcx : (rd_T41 q 0).f0 = cx at hx0' A1
                                generalize hcy : (rd_T41 q 0).f1 = cy at hx1' A1
                                have H' := Aside0.mk H
                                have A2 := Aside0.mk A1
                                clear H A1 hcx hcy
                                go_upto_region 22 with (first
                                  | ((with_reducible refine gate_dst (N := 10) rfl ?_); refine box_event ?hg (N := 10) ?hd (cs := #[.int .i64 0, .int .i64 0]) (t := 41) ?hr ?_; (case hd => rfl); (case hg => rfl); (case hr => first | (go_simp; done) | (go_simp; rfl)); intro gb hg w3 hbox hb; have hcz0 : w3.cell? ⟨gb, 0, none⟩ = some (.int .i64 0) := (blk_cell hbox 0).trans rfl; have hcz1 : w3.cell? ⟨gb, 1, none⟩ = some (.int .i64 0) := (blk_cell hbox 1).trans rfl; have hfz0 := blk_frozen hbox 0; have hfz1 := blk_frozen hbox 1; have BC := Aside0.mk hbox; have HW := Aside0.mk hb; have HG := Aside0.mk hg; clear hbox hb hg))
                                obtain ⟨W4, hW4⟩ : ∃ W4, W4 = (w3.setCell ⟨gb, 0, none⟩ (.int .i64 cx)).setCell ⟨gb, 1, none⟩ (.int .i64 cy) := ⟨_, rfl⟩
                                have hgw : w.heap.size ≤ gb := by rw [HG.out]; exact HB.out.size
                                have HB4 := Aside0.mk (show Below w.heap.size w W4 by rw [hW4]; exact below_set (below_set (below_step HB.out HW.out) hgw) hgw)
                                have HW4 : Below wr.heap.size wr W4 := by rw [hW4]; exact below_set (below_set HW.out (Nat.le_of_eq HG.out.symm)) (Nat.le_of_eq HG.out.symm)
                                have HA4 := Aside0.mk (HA.out.below HW4)
                                have HQ4 := Aside0.mk (Kd.Q_below HQ.out HW4)
                                have BC4 : W4.heap[gb]? = some (.cells #[.int .i64 cx, .int .i64 cy] 41 (0, 0)) := by rw [hW4]; refine blk_put (cs := #[.int .i64 cx, .int .i64 0]) ?_ 1 _ rfl; exact blk_put BC.out 0 _ rfl
                                have hb0 := (blk_cell BC4 0).trans rfl
                                have hb1 := (blk_cell BC4 1).trans rfl
                                rw [← hW4]
                                clear hW4 HW4 BC4 hcz0 hcz1 hfz0 hfz1 BC HW HG hx0' hx1' HB HA HQ hgw
                                obtain ⟨i0, hi0, _, hsz, _⟩ := info_parts info41
                                have hcut := cut_from (P := Try.prog) 24 41 .i64 Try.underlying24 hi0 2 hsz (some adq) q.length cq 1 (by omega) (by omega)
                                have hr := Kd.Q_drop (k := (1 : Int).toNat) HQ4.out (by show 1 ≤ q.length; omega)
                                obtain ⟨A6, hA6⟩ : ∃ A1, A1 = (if cq = (1 : Int).toNat then some adq else (some adq : Option Addr).map (·.add ((1 : Int).toNat * 2))) := ⟨_, rfl⟩
                                obtain ⟨c6, hc6⟩ : ∃ c1, c1 = cq - (1 : Int).toNat := ⟨_, rfl⟩
                                rw [← hA6, ← hc6] at hcut
                                replace hr : Kd.Q k41 41 W4 w.heap.size (fun k_ => k_ ≠ gs) (.slice A6 (q.length - (1 : Int).toNat) c6) (q.drop 1) := by rw [hA6, hc6]; exact hr
                                have HQ5 := Aside0.mk hr
                                clear hr hi0 hsz HQ4 hA6 hc6
                                go_upto_region 24 with (first
                                  | (go_at_call 33; (with_reducible refine (impl_sides.calls _ _ _ _ A2.out).mono ?_); rintro e w6 ⟨v0, rfl, ho, hb⟩; obtain ⟨Ad, cd, rfl, _, hcd⟩ := Kd.R_reads ho; have HO := Aside0.mk ho; have HW := Aside0.mk hb; have HCD := Aside0.mk hcd; clear ho hb hcd))
                                have HA6 := Aside0.mk (HA4.out.below HW.out)
                                have HB6 := Aside0.mk (below_step HB4.out HW.out)
                                have HQ6 := Aside0.mk (Kd.Q_mono (ok' := fun k_ => k_ ≠ gs ∧ ∀ ad, Ad = some ad → k_ ≠ ad.block) (Kd.Q_elder' (v := .slice Ad ds.length cd) HQ5.out (fun k_ hk => ((Kd.R_bound HO.out).1 k_ hk).2.1) HW.out) (fun k_ hk => ⟨hk.1, fun ad e hke => hk.2 (by subst e; rw [hke]; rfl)⟩))
                                have HDB := Aside0.mk (show ∀ ad, Ad = some ad → ad.block < w6.heap.size ∧ ad.block ≠ gs from fun ad e => by subst e; exact ⟨Kd.R_lt HO.out _ rfl, fun e2 => Kd.R_ne HO.out HA6.out.2 (by decide) (by rw [← e2]; rfl)⟩)
                                clear HA4 HB4 HQ5 HO HW A2 hcut hb0 hb1
                                go_loopg [9, 63] k4 (fun kq v9 v63 w' => ∃ (q1 : List S41) (xd : List Bool) (j : Int), v63 = .int .i64 j ∧ Aside0 (impl_HolesOf.l4 kq xd (wrap64 (n2 + 1)) y x q1 ds j = some r) ∧ Aside0 (kq ≤ k4) ∧ Aside0 (aBlk w' gs xd) ∧ Aside0 (Kd.Q k41 41 w' w.heap.size (fun k_ => k_ ≠ gs ∧ ∀ ad, Ad = some ad → k_ ≠ ad.block) v9 q1) ∧ Aside0 (Kd.C k41 w' Ad ds.length ds) ∧ Aside0 (∀ ad, Ad = some ad → ad.block < w'.heap.size ∧ ad.block ≠ gs) ∧ Aside0 (Below w.heap.size w w'))
                                case atStart => exact ⟨_, _, 0, rfl, H', ⟨Nat.le_refl _⟩, HA6, HQ6, HCD, HDB, HB6⟩
                                case round =>
                                  clear H' HA6 HQ6 HCD HDB HB6
                                  obtain ⟨q1, xd, j, rfl, HE, HK5, HA, HQ, HCD, HDB, HB⟩ := hrel
                                  cases gk with
                                  | zero => exact absurd HE.out (by simp [impl_HolesOf.l4])
                                  | succ k5 =>
                                    have H := HE.out
                                    clear HE
                                    simp only [impl_HolesOf.l4] at H
                                    by_cases hj : j < (ds.length : Int)
                                    · rw [if_pos hj] at H
                                      by_cases hj0 : 0 ≤ j
                                      · rw [if_pos hj0] at H
                                        obtain ⟨t1, A1, H⟩ := Option.bind_eq_some_iff.mp H
                                        obtain ⟨add, eadd, hd0, hd1⟩ := at_T41 HCD.out j hj0 hj
                                        subst eadd
                                        generalize hcx : (rd_T41 ds j).f0 = dx at hd0 A1 H
                                        generalize hcy : (rd_T41 ds j).f1 = dy at hd1 H
                                        have H' := Aside0.mk H
                                        have A2 := Aside0.mk A1
                                        clear H A1 hcx hcy
                                        go_upto_region 26 with (first
                                          | ((with_reducible refine gate_dst (N := 12) rfl ?_); refine box_event ?hg (N := 12) ?hd (cs := #[.int .i64 0, .int .i64 0]) (t := 41) ?hr ?_; (case hd => rfl); (case hg => rfl); (case hr => first | (go_simp; done) | (go_simp; rfl)); intro gd hg w3 hbox hb; have hcz0 : w3.cell? ⟨gd, 0, none⟩ = some (.int .i64 0) := (blk_cell hbox 0).trans rfl; have hcz1 : w3.cell? ⟨gd, 1, none⟩ = some (.int .i64 0) := (blk_cell hbox 1).trans rfl; have hfz0 := blk_frozen hbox 0; have hfz1 := blk_frozen hbox 1; have BC := Aside0.mk hbox; have HW := Aside0.mk hb; have HG := Aside0.mk hg; clear hbox hb hg))
                                        obtain ⟨W4, hW4⟩ : ∃ W4, W4 = (w3.setCell ⟨gd, 0, none⟩ (.int .i64 dx)).setCell ⟨gd, 1, none⟩ (.int .i64 dy) := ⟨_, rfl⟩
                                        have hgw : w.heap.size ≤ gd := by rw [HG.out]; exact HB.out.size
                                        have HB4 := Aside0.mk (show Below w.heap.size w W4 by rw [hW4]; exact below_set (below_set (below_step HB.out HW.out) hgw) hgw)
                                        have HW4 : Below wr.heap.size wr W4 := by rw [hW4]; exact below_set (below_set HW.out (Nat.le_of_eq HG.out.symm)) (Nat.le_of_eq HG.out.symm)
                                        have HA4 := Aside0.mk (HA.out.below HW4)
                                        have HQ4 := Aside0.mk (Kd.Q_below HQ.out HW4)
                                        have HCD4 := Aside0.mk (Kd.C_below HCD.out HW4)
                                        have HDB4 := Aside0.mk (show ∀ ad, some add = some ad → ad.block < W4.heap.size ∧ ad.block ≠ gs from fun ad e => ⟨Nat.lt_of_lt_of_le (HDB.out ad e).1 HW4.size, (HDB.out ad e).2⟩)
                                        have BC4 : W4.heap[gd]? = some (.cells #[.int .i64 dx, .int .i64 dy] 41 (0, 0)) := by rw [hW4]; refine blk_put (cs := #[.int .i64 dx, .int .i64 0]) ?_ 1 _ rfl; exact blk_put BC.out 0 _ rfl
                                        have hb0 := (blk_cell BC4 0).trans rfl
                                        have hb1 := (blk_cell BC4 1).trans rfl
                                        have BC5 := Aside0.mk BC4
                                        have HGS := Aside0.mk (show gd ≠ gs from fun e => by rw [e, HA4.out.2] at BC4; injection BC4 with h1; injection h1 with _ h2; exact absurd h2 (by decide))
                                        rw [← hW4]
                                        clear hW4 HW4 BC4 hcz0 hcz1 hfz0 hfz1 BC HW HG hd0 hd1 HB HA HQ HCD HDB hgw
                                        obtain ⟨Aq1, cq1, eq_, hcq1⟩ := Kd.Q_slice HQ4.out
                                        subst eq_
                                        cases t1 with
                                        | false =>
                                          have H := H'.out
                                          clear H'
                                          rw [if_neg (by decide)] at H
                                          have H' := Aside0.mk H
                                          clear H
                                          go_quiet ((go_at_call 34; exact between_quiet A2.out _ _))
                                          go_wp2
                                          go_roundg k5
                                          case measure => have := HK5.out; omega
                                          case rel => exact ⟨_, _, _, rfl, H', ⟨by have := HK5.out; omega⟩, ⟨HA4.out.below (by repeat (first | exact Below.refl _ _ | apply below_alloc | apply pw_below_drewN | apply below_drew1))⟩, ⟨Kd.Q_below HQ4.out (by repeat (first | exact Below.refl _ _ | apply below_alloc | apply pw_below_drewN | apply below_drew1))⟩, ⟨Kd.C_below HCD4.out (by repeat (first | exact Below.refl _ _ | apply below_alloc | apply pw_below_drewN | apply below_drew1))⟩, HDB4, ⟨by repeat (first | exact HB4.out | apply below_alloc | apply pw_below_drewN | apply below_drew1)⟩⟩
                                        | true =>
                                          have H := H'.out
                                          clear H'
                                          rw [if_pos rfl] at H
                                          obtain ⟨t2, A3, H⟩ := Option.bind_eq_some_iff.mp H
                                          have hx9 := of_decide_eq_true (between_tells A2.out).symm
                                          cases t2 with
                                          | false =>
                                            rw [if_neg (by decide)] at H
                                            have H' := Aside0.mk H
                                            have A4 := Aside0.mk A3
                                            clear H A3
                                            go_quiet ((go_at_call 34; first | (with_reducible exact between_quiet A2.out _ _) | (with_reducible exact between_quiet A4.out _ _)))
                                            go_wp2
                                            go_roundg k5
                                            case measure => have := HK5.out; omega
                                            case rel => exact ⟨_, _, _, rfl, H', ⟨by have := HK5.out; omega⟩, ⟨HA4.out.below (by repeat (first | exact Below.refl _ _ | apply below_alloc | apply pw_below_drewN | apply below_drew1))⟩, ⟨Kd.Q_below HQ4.out (by repeat (first | exact Below.refl _ _ | apply below_alloc | apply pw_below_drewN | apply below_drew1))⟩, ⟨Kd.C_below HCD4.out (by repeat (first | exact Below.refl _ _ | apply below_alloc | apply pw_below_drewN | apply below_drew1))⟩, HDB4, ⟨by repeat (first | exact HB4.out | apply below_alloc | apply pw_below_drewN | apply below_drew1)⟩⟩
                                          | true =>
                                            rw [if_pos rfl] at H
                                            have hy9 := of_decide_eq_true (between_tells A3).symm
                                            have A4 := Aside0.mk A3
                                            clear A3
                                            obtain ⟨hxl, hxh⟩ := hx9
                                            obtain ⟨hyl, hyh⟩ := hy9
                                            have hce := HA4.out.cell hyl hyh hxl hxh
                                            have hfr : W4.frozen? ⟨gs, dy.toNat * 10 + dx.toNat, none⟩ = false := blk_frozen HA4.out.2 _
                                            by_cases hv : h_get xd dy dx = true
                                            · rw [if_pos hv] at H
                                              rw [hv] at hce
                                              have H' := Aside0.mk H
                                              clear H hv
                                              go_quiet ((go_at_call 34; first | (with_reducible exact between_quiet A2.out _ _) | (with_reducible exact between_quiet A4.out _ _)))
                                              go_wp2
                                              go_roundg k5
                                              case measure => have := HK5.out; omega
                                              case rel => exact ⟨_, _, _, rfl, H', ⟨by have := HK5.out; omega⟩, ⟨HA4.out.below (by repeat (first | exact Below.refl _ _ | apply below_alloc | apply pw_below_drewN | apply below_drew1))⟩, ⟨Kd.Q_below HQ4.out (by repeat (first | exact Below.refl _ _ | apply below_alloc | apply pw_below_drewN | apply below_drew1))⟩, ⟨Kd.C_below HCD4.out (by repeat (first | exact Below.refl _ _ | apply below_alloc | apply pw_below_drewN | apply below_drew1))⟩, HDB4, ⟨by repeat (first | exact HB4.out | apply below_alloc | apply pw_below_drewN | apply below_drew1)⟩⟩
                                            · rw [if_neg hv] at H
                                              have hv' : h_get xd dy dx = false := by simpa using hv
                                              rw [hv'] at hce
                                              by_cases hq8 : q1.length < 8796093022208
                                              · rw [if_pos hq8] at H
                                                have H' := Aside0.mk H
                                                clear H hv hv'
                                                go_quiet ((go_at_call 34; first | (with_reducible exact between_quiet A2.out _ _) | (with_reducible exact between_quiet A4.out _ _)))
                                                go_upto_region 28 with (fail)
                                                go_region
                                                obtain ⟨W5, hW5⟩ : ∃ W5, W5 = (W4.drewN (nq + 1)).setCell ⟨gs, dy.toNat * 10 + dx.toNat, none⟩ (.bool true) := ⟨_, rfl⟩
                                                rw [← hW5]
                                                have hD := pw_below_drewN (Below.refl W4.heap.size W4) (nq + 1)
                                                have HA5 := Aside0.mk (show aBlk W5 gs (h_put xd dy dx) by rw [hW5]; exact (HA4.out.below hD).set hyl hyh hxl hxh)
                                                have HQ5 := Aside0.mk (show Kd.Q k41 41 W5 w.heap.size _ _ q1 by rw [hW5]; exact Kd.Q_far (Kd.Q_below HQ4.out hD) (fun _ hk => hk.1) _)
                                                have HCD5 := Aside0.mk (show Kd.C k41 W5 (some add) ds.length ds by rw [hW5]; exact C_far (Kd.C_below HCD4.out hD) (fun ad e => (HDB4.out ad e).2) _)
                                                have hSz : W4.heap.size ≤ W5.heap.size := by rw [hW5]; rw [World.size_setCell]; exact hD.size
                                                have HDB5 := Aside0.mk (show ∀ ad, some add = some ad → ad.block < W5.heap.size ∧ ad.block ≠ gs from fun ad e => ⟨Nat.lt_of_lt_of_le (HDB4.out ad e).1 hSz, (HDB4.out ad e).2⟩)
                                                have HB5 := Aside0.mk (show Below w.heap.size w W5 by rw [hW5]; exact below_set (below_step HB4.out hD) GE.out)
                                                have hbd : W5.heap[gd]? = some (.cells #[.int .i64 dx, .int .i64 dy] 41 (0, 0)) := by rw [hW5]; exact (Below.heap_setCell _ _ _ _ HGS.out).trans (blk_below BC5.out hD)
                                                have hb0 := (blk_cell hbd 0).trans rfl
                                                have hb1 := (blk_cell hbd 1).trans rfl
                                                clear hbd hW5 hD hSz HA4 HQ4 HCD4 HDB4 HB4 BC5 hce hfr
                                                go_wp2_with (first
                                                  | ((with_reducible refine gate_builtin (b := .append) (xs := #[.tmp 91, .tmp 93]) rfl ?_); at_builtin; refine Kd.Q_append k41 (w0 := w) w.heap.size rfl (.tmp 91) (.tmp 93) 24 41 (.agg #[(.int .i64 0), (.int .i64 0)]) 16 rfl Try.underlying24 info41 rfl (by decide) (by omega) (.slice Aq1 q1.length cq1) q1 (⟨dx, dy⟩ : S41) [.int .i64 dx, .int .i64 dy] (fun k_ => k_ ≠ gs ∧ ∀ ad, some add = some ad → k_ ≠ ad.block) (fun _ => False) rfl (by first | (go_simp; done) | (go_simp; rfl)) ?aP (fun _ hk => hk.elim) ?aF ?aO ?aB ?aS ?aL ?_; (case aP => exact k41_mkM _ _ _ (⟨dx, dy⟩ : S41)); (case aF => exact (fun k_ hk => ⟨Kd.freshB HA5.out.2 k_ hk, fun ad e => by have := (HDB5.out ad e).1; omega⟩)); (case aO => exact HQ5.out); (case aB => exact HB5.out); (case aS => exact HB5.out.size); (case aL => omega); intro v6 w6 ho hb hg hat; have HQ6 := Aside0.mk ho; have HB6 := Aside0.mk hb; have HG6 := Aside0.mk hg; clear ho hb hg hat))
                                                go_roundg k5
                                                case measure => have := HK5.out; omega
                                                case rel => exact ⟨_, _, _, rfl, H', ⟨by have := HK5.out; omega⟩, ⟨HA5.out.1, (HG6.out.block gs (blk_lt HA5.out.2) (fun he => (HQ5.out.1 _ he.symm).1 rfl)).trans HA5.out.2⟩, HQ6, ⟨cc_grown HCD5.out HG6.out (fun ad e _ he => (HQ5.out.1 _ he.symm).2 ad e rfl)⟩, ⟨fun ad e => ⟨Nat.lt_of_lt_of_le (HDB5.out ad e).1 HG6.out.size, (HDB5.out ad e).2⟩⟩, HB6⟩
                                              · rw [if_neg hq8] at H
                                                exact absurd H (by simp)
                                      · rw [if_neg hj0] at H
                                        exact absurd H (by simp)
                                    · rw [if_neg hj] at H
                                      have H' := Aside0.mk H
                                      clear H
                                      obtain ⟨Aq1, cq1, eq_, hcq1⟩ := Kd.Q_slice HQ.out
                                      subst eq_
                                      have HQ' := Aside0.mk (Kd.Q_mono (ok' := fun k_ => k_ ≠ gs) HQ.out (fun _ h => h.1))
                                      go_wp2
                                      go_roundg k5
                                      case measure => have := HK5.out; have := HK4.out; omega
                                      case rel => exact ⟨_, _, H', ⟨by have := HK5.out; have := HK4.out; omega⟩, HA, HQ', HB⟩
                              · rw [if_neg hq] at H
                                rw [w64 (x := x + 1) (by omega) (by omega)] at H
                                have hqb : decide (0 < (q.length : Int)) = false := decide_eq_false hq
                                have hqn : decide (0 < q.length) = false := decide_eq_false (by omega)
                                have H' := Aside0.mk H
                                clear H
                                go_wp2
                                go_roundg k4
                                case measure => have := HK3.out; have := HK4.out; omega
                                case rel => exact ⟨_, _, _, rfl, rfl, H', ⟨by have := HK3.out; have := HK4.out; omega⟩, HA, HB⟩
                      · rw [if_neg hx0] at H
                        exact absurd H (by simp)
                    · rw [if_neg hy0] at H
                      exact absurd H (by simp)
                  · rw [if_neg hx] at H
                    have H' := Aside0.mk H
                    clear H
                    go_wp2
                    go_roundg k3
                    case measure => have := HK2.out; have := HK3.out; omega
                    case rel => exact ⟨_, _, _, rfl, rfl, H', ⟨by have := HK2.out; have := HK3.out; omega⟩, HA, HB⟩
            · rw [if_neg hy] at H
              obtain rfl := Option.some.inj H
              go_wp2
              go_ret
              exact ⟨rfl, HB.out⟩
set_option maxHeartbeats 4000000 in
theorem HolesOf_no (k : Nat) (A0 : Option Addr) (c0 : Nat) (l0 : List S41) (w : World) (hr0 : Kd.C k41 w A0 l0.length l0) (hc0 : l0.length ≤ c0) (h1 : impl_IsShape.f l0 = some false) :
    Calls Try.prog 8 #[.slice A0 l0.length c0] w fun e w' => e = .returned (.int .i64 (-1)) ∧ Below w.heap.size w w' := by
  have HR0 := Aside0.mk hr0
  have H1 := Aside0.mk h1
  clear hr0 h1
  go_enter Try.func8, Try.ntmps8
  go_wp2_with (first
    | (go_at_call 32; (with_reducible refine (impl_IsShape.calls _ _ l0 false _ ?s1 hc0 H1.out).mono ?_); (case s1 => exact HR0.out); rintro e w1 ⟨rfl, hb⟩; have HB := Aside0.mk hb; clear hb))
  go_ret
  exact ⟨rfl, HB.out⟩
theorem impl_HolesOf.calls (k : Nat) (A0 : Option Addr) (c0 : Nat) (l0 : List S41) (r : Int) (w : World) (hr0 : Kd.C k41 w A0 l0.length l0) (hc0 : l0.length ≤ c0) (h : impl_HolesOf.f k l0 = some r) :
    Calls Try.prog 8 #[.slice A0 l0.length c0] w fun e w' => e = .returned (.int .i64 r) ∧ Below w.heap.size w w' := by
  unfold impl_HolesOf.f at h
  obtain ⟨t, h1, h2⟩ := Option.bind_eq_some_iff.mp h
  cases t with
  | false =>
    rw [if_neg (by decide)] at h2
    obtain rfl := Option.some.inj h2
    exact HolesOf_no k A0 c0 l0 w hr0 hc0 h1
  | true =>
    rw [if_pos rfl] at h2
    exact HolesOf_yes k A0 c0 l0 r w hr0 hc0 h1 h2
end Go.Proofs.Ytlohfeicfhmlmaa.PFnOutlines

namespace Go.Proofs.Ytlohfeicfhmlmaa.PFnOutlines
open Go.RowKit Go.Proofs.YtlohfeicfhmlmaaW.PrintWords Go.Proofs.YtlohfeicfhmlmaaW.PrintLast Go.Proofs.YtlohfeicfhmlmaaW.PrintMore ETool
def mkd (xa : List Bool) (x y : Int) : Bool := h_get xa (y + 1) (x + 1)
def frm (x y : Int) : Prop := -1 ≤ x ∧ x ≤ 8 ∧ -1 ≤ y ∧ y ≤ 8
def G8 (l : List S41) (x y : Int) : Prop := Gb l 0 7 0 7 x y
def cnt (xa : List Bool) : Nat := xa.countP id
theorem G8_iff {l : List S41} {x y : Int} : G8 l x y ↔ frm x y ∧ Fr l x y := by
  unfold G8 Gb frm
  constructor
  · rintro ⟨h, k⟩; exact ⟨by omega, k⟩
  · rintro ⟨h, k⟩; exact ⟨by omega, k⟩
theorem mk_put {xa : List Bool} (hl : xa.length = 100) {x y u v : Int} (h : frm x y) (k : frm u v) : mkd (h_put xa (y + 1) (x + 1)) u v = (decide (u = x ∧ v = y) || mkd xa u v) := by
  unfold frm at h k
  have := sn_set (xs := xa) (i := 10 * (v + 1) + (u + 1)) (j := 10 * (y + 1) + (x + 1)) (by omega) (by omega) (by omega)
  unfold mkd h_get h_put
  unfold sn at this
  rw [this]
  congr 1
  rw [decide_eq_decide]
  omega
theorem cnt_put {xa : List Bool} (hl : xa.length = 100) {x y : Int} (h : frm x y) (k : mkd xa x y = false) : cnt (h_put xa (y + 1) (x + 1)) = cnt xa + 1 := by
  unfold frm at h
  exact countP_set xa _ (by omega) k
theorem len_put {xa : List Bool} (hl : xa.length = 100) (x y : Int) : (h_put xa y x).length = 100 := by unfold h_put; rw [List.length_set, hl]
theorem btw9 (z : Int) : impl_between.f z 0 9 = some (decide (0 ≤ z) && decide (z ≤ 9)) := by
  unfold impl_between.f
  by_cases h : 0 ≤ z <;> simp [h]
/-- A flood from (x, y): what lay marked ahead of it, what is marked, what waits in the queue, which steps are still to be looked at. -/
structure Fl (l : List S41) (M0 : Int → Int → Prop) (x y : Int) (xa : List Bool) (q : List S41) (P : Int → Int → Int → Int → Prop) : Prop where
  len : xa.length = 100
  sub : ∀ u v, frm u v → mkd xa u v = true → M0 u v ∨ Rch (G8 l) x y u v
  sup : ∀ u v, frm u v → M0 u v → mkd xa u v = true
  start : mkd xa x y = true
  que : ∀ u v : Int, (⟨u + 1, v + 1⟩ : S41) ∈ q → Rch (G8 l) x y u v
  cls : ∀ u v a b : Int, Rch (G8 l) x y u v → mkd xa u v = true → adj4 u v a b → G8 l a b → mkd xa a b = true ∨ (⟨u + 1, v + 1⟩ : S41) ∈ q ∨ P u v a b
section
variable {l : List S41} {M0 : Int → Int → Prop} {x y n r : Int} (hM : ∀ u v, frm u v → hasB l u v = true → M0 u v) (hxy : frm x y)
include hM hxy
theorem fl4_one {m : Nat} (hm : m ≤ 300) {u v a b : Int} (hr : Rch (G8 l) x y u v) (he : adj4 u v a b) {ds : List S41} {j : Int} (hj0 : 0 ≤ j) (hj1 : j < ds.length) (hj4 : j ≤ 10) (hd : rd_T41 ds j = ⟨a + 1, b + 1⟩) {P P' : Int → Int → Int → Int → Prop} (hP : ∀ u' v' a' b', P u' v' a' b' → P' u' v' a' b' ∨ (u' = u ∧ v' = v ∧ a' = a ∧ b' = b))
    (next : ∀ xa q, Fl l M0 x y xa q P' → 2 * (100 - cnt xa) + q.length ≤ m → Ev (fun k => impl_HolesOf.l4 k xa n (y + 1) (x + 1) q ds (j + 1)) r) {xa : List Bool} {q : List S41} (hF : Fl l M0 x y xa q P) (hq : 2 * (100 - cnt xa) + q.length ≤ m) : Ev (fun k => impl_HolesOf.l4 k xa n (y + 1) (x + 1) q ds j) r := by
  have hw : wrap64 (j + 1) = j + 1 := w64 (by omega) (by omega)
  by_cases hf : frm a b
  · have hf' := hf
    unfold frm at hf
    rcases hk : mkd xa a b with _ | _
    · refine Ev.step (f := fun k => impl_HolesOf.l4 k (h_put xa (b + 1) (a + 1)) n (y + 1) (x + 1) (q ++ [(⟨a + 1, b + 1⟩ : S41)]) ds (j + 1)) (fun k => ?_) (next _ _ ?_ ?_)
      · simp only [impl_HolesOf.l4]
        rw [if_pos hj1, if_pos hj0, hd, hw]
        simp only [btw9, Option.bind_some]
        rw [if_pos (by simp; omega), if_pos (by simp; omega)]
        have : h_get xa (b + 1) (a + 1) = false := hk
        rw [this, if_neg (by simp), if_pos (by omega)]
      · have hfree : Fr l a b := by
          unfold Fr
          rw [← Bool.not_eq_true]
          intro hh
          rw [hF.sup a b hf' (hM a b hf' hh)] at hk
          cases hk
        have hR : Rch (G8 l) x y a b := .step hr he (G8_iff.mpr ⟨hf', hfree⟩)
        refine ⟨len_put hF.len _ _, ?_, ?_, ?_, ?_, ?_⟩
        · intro u' v' h1 h2
          rw [mk_put hF.len hf' h1, Bool.or_eq_true, decide_eq_true_iff] at h2
          rcases h2 with ⟨rfl, rfl⟩ | h2
          · exact .inr hR
          · exact hF.sub u' v' h1 h2
        · intro u' v' h1 h2
          rw [mk_put hF.len hf' h1, hF.sup u' v' h1 h2, Bool.or_true]
        · rw [mk_put hF.len hf' hxy, hF.start, Bool.or_true]
        · intro u' v' h1
          rcases List.mem_append.mp h1 with h1 | h1
          · exact hF.que u' v' h1
          · rw [List.mem_singleton, S41.mk.injEq] at h1
            obtain ⟨e1, e2⟩ := h1
            rw [show u' = a by omega, show v' = b by omega]
            exact hR
        · intro u' v' a' b' h1 h2 h3 h4
          have f1 := (G8_iff.mp h1.right).1
          have f4 := (G8_iff.mp h4).1
          rw [mk_put hF.len hf' f1, Bool.or_eq_true, decide_eq_true_iff] at h2
          rw [mk_put hF.len hf' f4]
          rcases h2 with ⟨rfl, rfl⟩ | h2
          · exact .inr (.inl (by simp))
          · rcases hF.cls u' v' a' b' h1 h2 h3 h4 with h5 | h5 | h5
            · exact .inl (by rw [h5, Bool.or_true])
            · exact .inr (.inl (by simp [h5]))
            · rcases hP _ _ _ _ h5 with h6 | ⟨rfl, rfl, rfl, rfl⟩
              · exact .inr (.inr h6)
              · exact .inl (by simp)
      · have h1 := cnt_put hF.len hf' hk
        have h2 := List.countP_le_length (p := id) (l := h_put xa (b + 1) (a + 1))
        rw [len_put hF.len] at h2
        unfold cnt at *
        simp only [List.length_append, List.length_cons, List.length_nil]
        omega
    · refine Ev.step (f := fun k => impl_HolesOf.l4 k xa n (y + 1) (x + 1) q ds (j + 1)) (fun k => ?_) (next _ _ ⟨hF.len, hF.sub, hF.sup, hF.start, hF.que, fun u' v' a' b' h1 h2 h3 h4 => ?_⟩ hq)
      · simp only [impl_HolesOf.l4]
        rw [if_pos hj1, if_pos hj0, hd, hw]
        simp only [btw9, Option.bind_some]
        rw [if_pos (by simp; omega), if_pos (by simp; omega)]
        have : h_get xa (b + 1) (a + 1) = true := hk
        rw [this, if_pos rfl]
      · rcases hF.cls u' v' a' b' h1 h2 h3 h4 with h5 | h5 | h5
        · exact .inl h5
        · exact .inr (.inl h5)
        · rcases hP _ _ _ _ h5 with h6 | ⟨rfl, rfl, rfl, rfl⟩
          · exact .inr (.inr h6)
          · exact .inl hk
  · refine Ev.step (f := fun k => impl_HolesOf.l4 k xa n (y + 1) (x + 1) q ds (j + 1)) (fun k => ?_) (next _ _ ⟨hF.len, hF.sub, hF.sup, hF.start, hF.que, fun u' v' a' b' h1 h2 h3 h4 => ?_⟩ hq)
    · simp only [impl_HolesOf.l4]
      rw [if_pos hj1, if_pos hj0, hd, hw]
      simp only [btw9, Option.bind_some]
      unfold frm at hf
      by_cases h0 : 0 ≤ a + 1 ∧ a + 1 ≤ 9
      · rw [if_pos (by simp; omega), if_neg (by simp; omega)]
      · rw [if_neg (by simp; omega)]
    · rcases hF.cls u' v' a' b' h1 h2 h3 h4 with h5 | h5 | h5
      · exact .inl h5
      · exact .inr (.inl h5)
      · rcases hP _ _ _ _ h5 with h6 | ⟨rfl, rfl, rfl, rfl⟩
        · exact .inr (.inr h6)
        · exact absurd (G8_iff.mp h4).1 hf
theorem fl3 (cont : ∀ xa, xa.length = 100 → (∀ u v, frm u v → (mkd xa u v = true ↔ M0 u v ∨ Rch (G8 l) x y u v)) → Ev (fun k => impl_HolesOf.l2 k xa n (y + 1) (x + 1 + 1)) r) :
    ∀ (m : Nat), m ≤ 300 → ∀ xa q, Fl l M0 x y xa q (fun _ _ _ _ => False) → 2 * (100 - cnt xa) + q.length ≤ m → Ev (fun k => impl_HolesOf.l3 k xa n (y + 1) (x + 1) q) r
  | m, hm, xa, [], hF, _ => by
    have hw : wrap64 (x + 1 + 1) = x + 1 + 1 := w64 (by unfold frm at hxy; omega) (by unfold frm at hxy; omega)
    refine Ev.step (f := fun k => impl_HolesOf.l2 k xa n (y + 1) (x + 1 + 1)) (fun k => ?_) (cont xa hF.len fun u v huv => ⟨hF.sub u v huv, ?_⟩)
    · simp only [impl_HolesOf.l3]
      rw [if_neg (by simp), hw]
    · rintro (h | h)
      · exact hF.sup u v huv h
      · clear huv
        induction h with
        | base _ => exact hF.start
        | step h e f ih =>
          rcases hF.cls _ _ _ _ h ih e f with h1 | h1 | h1
          · exact h1
          · cases h1
          · cases h1
  | m, hm, xa, c :: q, hF, hq => by
    obtain ⟨m', rfl⟩ : ∃ m', m = m' + 1 := ⟨m - 1, by simp only [List.length_cons] at hq; omega⟩
    obtain ⟨u, hu⟩ : ∃ u, c.f0 = u + 1 := ⟨c.f0 - 1, by omega⟩
    obtain ⟨v, hv⟩ : ∃ v, c.f1 = v + 1 := ⟨c.f1 - 1, by omega⟩
    have hc : c = ⟨u + 1, v + 1⟩ := by cases c; simp only at hu hv; rw [hu, hv]
    subst hc
    clear hu hv
    have hr := hF.que u v (by simp)
    have hf := (G8_iff.mp hr.right).1
    unfold frm at hf
    have ih := fl3 cont m' (by omega)
    have e1 : wrap64 (v + 1 - 1) = v := by rw [w64 (by omega) (by omega)]; omega
    have e2 : wrap64 (u + 1 - 1) = u := by rw [w64 (by omega) (by omega)]; omega
    have e3 : wrap64 (u + 1 + 1) = u + 1 + 1 := w64 (by omega) (by omega)
    have e4 : wrap64 (v + 1 + 1) = v + 1 + 1 := w64 (by omega) (by omega)
    refine Ev.step (f := fun k => impl_HolesOf.l4 k xa n (y + 1) (x + 1) q [(⟨u + 1, v⟩ : S41), ⟨u, v + 1⟩, ⟨u + 1 + 1, v + 1⟩, ⟨u + 1, v + 1 + 1⟩] 0) (fun k => ?_) ?_
    · simp only [impl_HolesOf.l3]
      rw [if_pos (by simp only [List.length_cons]; omega)]
      show impl_HolesOf.l4 k xa n (y + 1) (x + 1) q [(⟨u + 1, wrap64 (v + 1 - 1)⟩ : S41), ⟨wrap64 (u + 1 - 1), v + 1⟩, ⟨wrap64 (u + 1 + 1), v + 1⟩, ⟨u + 1, wrap64 (v + 1 + 1)⟩] 0 = _
      rw [e1, e2, e3, e4]
    · have q4 : ∀ xa q, Fl l M0 x y xa q (fun _ _ _ _ => False) → 2 * (100 - cnt xa) + q.length ≤ m' → Ev (fun k => impl_HolesOf.l4 k xa n (y + 1) (x + 1) q [(⟨u + 1, v⟩ : S41), ⟨u, v + 1⟩, ⟨u + 1 + 1, v + 1⟩, ⟨u + 1, v + 1 + 1⟩] (3 + 1)) r := fun xa q h1 h2 =>
        Ev.step (f := fun k => impl_HolesOf.l3 k xa n (y + 1) (x + 1) q) (fun k => by simp only [impl_HolesOf.l4]; rw [if_neg (by simp)]) (ih xa q h1 h2)
      have q3 := fun xa q => fl4_one (m := m') (n := n) (r := r) (a := u) (b := v + 1) (P := fun u' v' a' b' => u' = u ∧ v' = v ∧ (a' = u ∧ b' = v + 1)) hM hxy (by omega) hr (by unfold adj4; omega) (j := 3) (by omega) (by simp) (by omega) rfl (fun u' v' a' b' h => .inr ⟨h.1, h.2.1, h.2.2.1, h.2.2.2⟩) q4 (xa := xa) (q := q)
      have q2 := fun xa q => fl4_one (m := m') (n := n) (r := r) (a := u + 1) (b := v) (P := fun u' v' a' b' => u' = u ∧ v' = v ∧ ((a' = u + 1 ∧ b' = v) ∨ (a' = u ∧ b' = v + 1))) hM hxy (by omega) hr (by unfold adj4; omega) (j := 2) (by omega) (by simp) (by omega) rfl (fun u' v' a' b' h => by rcases h.2.2 with k | k; exact .inr ⟨h.1, h.2.1, k.1, k.2⟩; exact .inl ⟨h.1, h.2.1, k⟩) q3 (xa := xa) (q := q)
      have q1 := fun xa q => fl4_one (m := m') (n := n) (r := r) (a := u - 1) (b := v) (P := fun u' v' a' b' => u' = u ∧ v' = v ∧ ((a' = u - 1 ∧ b' = v) ∨ (a' = u + 1 ∧ b' = v) ∨ (a' = u ∧ b' = v + 1))) hM hxy (by omega) hr (by unfold adj4; omega) (j := 1) (by omega) (by simp) (by omega) (by show (⟨u, v + 1⟩ : S41) = _; rw [show u - 1 + 1 = u by omega]) (fun u' v' a' b' h => by rcases h.2.2 with k | k; exact .inr ⟨h.1, h.2.1, k.1, k.2⟩; exact .inl ⟨h.1, h.2.1, k⟩) q2 (xa := xa) (q := q)
      refine fl4_one (m := m') (n := n) (r := r) (a := u) (b := v - 1) (P := fun u' v' a' b' => u' = u ∧ v' = v ∧ ((a' = u ∧ b' = v - 1) ∨ (a' = u - 1 ∧ b' = v) ∨ (a' = u + 1 ∧ b' = v) ∨ (a' = u ∧ b' = v + 1))) hM hxy (by omega) hr (by unfold adj4; omega) (j := 0) (by omega) (by simp) (by omega) (by show (⟨u + 1, v⟩ : S41) = _; rw [show v - 1 + 1 = v by omega]) (fun u' v' a' b' h => by rcases h.2.2 with k | k; exact .inr ⟨h.1, h.2.1, k.1, k.2⟩; exact .inl ⟨h.1, h.2.1, k⟩) q1 ⟨hF.len, hF.sub, hF.sup, hF.start, fun a b h => hF.que a b (by simp [h]), fun u' v' a' b' h1 h2 h3 h4 => ?_⟩ (by simp only [List.length_cons] at hq; omega)
      rcases hF.cls u' v' a' b' h1 h2 h3 h4 with h5 | h5 | h5
      · exact .inl h5
      · rcases List.mem_cons.mp h5 with h6 | h6
        · rw [S41.mk.injEq] at h6
          obtain ⟨g1, g2⟩ := h6
          obtain rfl : u' = u := by omega
          obtain rfl : v' = v := by omega
          refine .inr (.inr ⟨rfl, rfl, ?_⟩)
          unfold adj4 at h3
          omega
        · exact .inr (.inl h6)
      · cases h5
end
def bef (u v x y : Int) : Prop := v < y ∨ (v = y ∧ u < x)
/-- The scan ahead of (x, y). -/
structure Sc (l : List S41) (xa : List Bool) (n : Int) (L : List S41) (x y : Int) : Prop where
  len : xa.length = 100
  marks : ∀ u v, frm u v → (mkd xa u v = true ↔ hasB l u v = true ∨ ∃ a b, bef a b x y ∧ Rch (G8 l) a b u v)
  nd : L.Nodup
  mem : ∀ u v : Int, (⟨u, v⟩ : S41) ∈ L ↔ (G8 l u v ∧ bef u v x y ∧ ∀ a b, bef a b u v → ¬ Rch (G8 l) a b u v)
  num : n = L.length
  le : n ≤ 10 * (y + 1) + (x + 1)
theorem Sc.next {l : List S41} {xa : List Bool} {n : Int} {L : List S41} {y : Int} (h : Sc l xa n L 9 y) : Sc l xa n L (-1) (y + 1) := by
  refine ⟨h.len, fun u v huv => (h.marks u v huv).trans ?_, h.nd, fun u v => (h.mem u v).trans ?_, h.num, by have := h.le; omega⟩
  · refine or_congr Iff.rfl ⟨?_, ?_⟩
    · rintro ⟨a, b, h1, h2⟩
      have := (G8_iff.mp h2.left).1
      exact ⟨a, b, by unfold bef frm at *; omega, h2⟩
    · rintro ⟨a, b, h1, h2⟩
      have := (G8_iff.mp h2.left).1
      exact ⟨a, b, by unfold bef frm at *; omega, h2⟩
  · refine and_congr_right fun hG => and_congr_left fun _ => ?_
    have := (G8_iff.mp hG).1
    unfold bef frm at *
    omega
theorem Sc.skip {l : List S41} {xa : List Bool} {n : Int} {L : List S41} {x y : Int} (h : Sc l xa n L x y) (hxy : frm x y) (hm : mkd xa x y = true) : Sc l xa n L (x + 1) y := by
  have hp : ∀ u v, Rch (G8 l) x y u v → ∃ a b, bef a b x y ∧ Rch (G8 l) a b u v := by
    intro u v hr
    rcases (h.marks x y hxy).mp hm with h1 | ⟨a, b, h1, h2⟩
    · have := (G8_iff.mp hr.left).2
      unfold Fr at this
      rw [this] at h1
      cases h1
    · exact ⟨a, b, h1, h2.trans hr⟩
  refine ⟨h.len, fun u v huv => (h.marks u v huv).trans (or_congr Iff.rfl ⟨?_, ?_⟩), h.nd, fun u v => (h.mem u v).trans ⟨?_, ?_⟩, h.num, by have := h.le; omega⟩
  · rintro ⟨a, b, h1, h2⟩
    exact ⟨a, b, by unfold bef at *; omega, h2⟩
  · rintro ⟨a, b, h1, h2⟩
    by_cases e : a = x ∧ b = y
    · obtain ⟨rfl, rfl⟩ := e
      exact hp u v h2
    · exact ⟨a, b, by unfold bef at *; omega, h2⟩
  · rintro ⟨h1, h2, h3⟩
    exact ⟨h1, by unfold bef at *; omega, h3⟩
  · rintro ⟨h1, h2, h3⟩
    by_cases e : u = x ∧ v = y
    · obtain ⟨rfl, rfl⟩ := e
      obtain ⟨a, b, k1, k2⟩ := hp u v (.base h1)
      exact absurd k2 (h3 a b k1)
    · exact ⟨h1, by unfold bef at *; omega, h3⟩
theorem Sc.count {l : List S41} {xa xb : List Bool} {n : Int} {L : List S41} {x y : Int} (h : Sc l xa n L x y) (hxy : frm x y) (hm : mkd xa x y = false) (hl : xb.length = 100) (hb : ∀ u v, frm u v → (mkd xb u v = true ↔ mkd xa u v = true ∨ Rch (G8 l) x y u v)) : Sc l xb (n + 1) (⟨x, y⟩ :: L) (x + 1) y := by
  have hno : ¬(hasB l x y = true ∨ ∃ a b, bef a b x y ∧ Rch (G8 l) a b x y) := fun hh => by
    rw [(h.marks x y hxy).mpr hh] at hm
    cases hm
  obtain ⟨hn1, hn2⟩ := not_or.mp hno
  have hG : G8 l x y := G8_iff.mpr ⟨hxy, by unfold Fr; simpa using hn1⟩
  refine ⟨hl, fun u v huv => ?_, ?_, fun u v => ?_, by rw [h.num]; simp, by have := h.le; omega⟩
  · rw [hb u v huv, h.marks u v huv]
    constructor
    · rintro ((h1 | ⟨a, b, h1, h2⟩) | h1)
      · exact .inl h1
      · exact .inr ⟨a, b, by unfold bef at *; omega, h2⟩
      · exact .inr ⟨x, y, by unfold bef; omega, h1⟩
    · rintro (h1 | ⟨a, b, h1, h2⟩)
      · exact .inl (.inl h1)
      · by_cases e : a = x ∧ b = y
        · obtain ⟨rfl, rfl⟩ := e
          exact .inr h2
        · exact .inl (.inr ⟨a, b, by unfold bef at *; omega, h2⟩)
  · rw [List.nodup_cons]
    refine ⟨fun hh => ?_, h.nd⟩
    have := ((h.mem x y).mp hh).2.1
    unfold bef at this
    omega
  · rw [List.mem_cons, S41.mk.injEq, h.mem]
    constructor
    · rintro (⟨rfl, rfl⟩ | ⟨h1, h2, h3⟩)
      · exact ⟨hG, by unfold bef; omega, fun a b k1 k2 => hn2 ⟨a, b, k1, k2⟩⟩
      · exact ⟨h1, by unfold bef at *; omega, h3⟩
    · rintro ⟨h1, h2, h3⟩
      by_cases e : u = x ∧ v = y
      · exact .inl e
      · exact .inr ⟨h1, by unfold bef at *; omega, h3⟩
theorem scan {l : List S41} {r : Int} (fin : ∀ xa n L, Sc l xa n L (-1) 9 → r = n - 1) : ∀ (m : Nat) (xa : List Bool) (n : Int) (L : List S41) (x y : Int), Sc l xa n L x y → -1 ≤ x → x ≤ 9 → -1 ≤ y → y ≤ 8 → 200 ≤ m + (11 * (y + 1) + (x + 1)) → Ev (fun k => impl_HolesOf.l2 k xa n (y + 1) (x + 1)) r
  | 0, xa, n, L, x, y, _, _, _, _, _, h => by omega
  | m + 1, xa, n, L, x, y, hS, hx0, hx1, hy0, hy1, hm => by
    have hn := hS.le
    have hn0 : 0 ≤ n := by rw [hS.num]; omega
    have w1 : wrap64 (x + 1 + 1) = x + 1 + 1 := w64 (by omega) (by omega)
    have w2 : wrap64 (y + 1 + 1) = y + 1 + 1 := w64 (by omega) (by omega)
    have w3 : wrap64 (n + 1) = n + 1 := w64 (by omega) (by omega)
    have w4 : wrap64 (n - 1) = n - 1 := w64 (by omega) (by omega)
    by_cases hx : x ≤ 8
    · have hxy : frm x y := ⟨hx0, hx, hy0, hy1⟩
      rcases hk : mkd xa x y with _ | _
      · have hk' : h_get xa (y + 1) (x + 1) = false := hk
        have hF : Fl l (fun u v => mkd xa u v = true) x y (h_put xa (y + 1) (x + 1)) [⟨x + 1, y + 1⟩] (fun _ _ _ _ => False) := by
          have hno : ¬(hasB l x y = true ∨ ∃ a b, bef a b x y ∧ Rch (G8 l) a b x y) := fun hh => by
            rw [(hS.marks x y hxy).mpr hh] at hk
            cases hk
          have hG : G8 l x y := G8_iff.mpr ⟨hxy, by unfold Fr; simpa using (not_or.mp hno).1⟩
          refine ⟨len_put hS.len _ _, ?_, ?_, ?_, ?_, ?_⟩
          · intro u v h1 h2
            rw [mk_put hS.len hxy h1, Bool.or_eq_true, decide_eq_true_iff] at h2
            rcases h2 with ⟨rfl, rfl⟩ | h2
            · exact .inr (.base hG)
            · exact .inl h2
          · intro u v h1 h2
            rw [mk_put hS.len hxy h1, h2, Bool.or_true]
          · rw [mk_put hS.len hxy hxy]; simp
          · intro u v h1
            rw [List.mem_singleton, S41.mk.injEq] at h1
            rw [show u = x by omega, show v = y by omega]
            exact .base hG
          · intro u v a b h1 h2 h3 h4
            have f1 := (G8_iff.mp h1.right).1
            rw [mk_put hS.len hxy f1, Bool.or_eq_true, decide_eq_true_iff] at h2
            rcases h2 with ⟨rfl, rfl⟩ | h2
            · exact .inr (.inl (by simp))
            · exfalso
              rcases (hS.marks u v f1).mp h2 with k1 | ⟨c, d, k1, k2⟩
              · have := (G8_iff.mp h1.right).2
                unfold Fr at this
                rw [this] at k1
                cases k1
              · exact hno (.inr ⟨c, d, k1, k2.trans h1.symm⟩)
        refine Ev.step (f := fun k => impl_HolesOf.l3 k (h_put xa (y + 1) (x + 1)) (n + 1) (y + 1) (x + 1) [(⟨x + 1, y + 1⟩ : S41)]) (fun k => ?_) (fl3 (M0 := fun u v => mkd xa u v = true) (fun u v h1 h2 => (hS.marks u v h1).mpr (.inl h2)) hxy (fun xb hl hb => ?_) 300 (by omega) _ _ hF (by simp; omega))
        · simp only [impl_HolesOf.l2]
          rw [if_pos (by omega), if_pos (by omega), if_pos (by omega), if_pos (by omega), hk', if_neg (by simp), w3]
        · exact scan fin m xb (n + 1) _ (x + 1) y (hS.count hxy hk hl hb) (by omega) (by omega) hy0 hy1 (by omega)
      · have hk' : h_get xa (y + 1) (x + 1) = true := hk
        refine Ev.step (f := fun k => impl_HolesOf.l2 k xa n (y + 1) (x + 1 + 1)) (fun k => ?_) (scan fin m xa n L (x + 1) y (hS.skip hxy hk) (by omega) (by omega) hy0 hy1 (by omega))
        simp only [impl_HolesOf.l2]
        rw [if_pos (by omega), if_pos (by omega), if_pos (by omega), if_pos (by omega), hk', if_pos rfl, w1]
    · obtain rfl : x = 9 := by omega
      refine Ev.step (f := fun k => impl_HolesOf.l1 k xa n (y + 1 + 1)) (fun k => ?_) ?_
      · simp only [impl_HolesOf.l2]
        rw [if_neg (by omega), w2]
      · by_cases hy : y < 8
        · refine Ev.step (f := fun k => impl_HolesOf.l2 k xa n (y + 1 + 1) 0) (fun k => ?_) (scan fin m xa n L (-1) (y + 1) hS.next (by omega) (by omega) (by omega) (by omega) (by omega))
          simp only [impl_HolesOf.l1]
          rw [if_pos (by omega)]
        · obtain rfl : y = 8 := by omega
          refine Ev.step (f := fun _ => some r) (fun k => ?_) (Ev.now r)
          simp only [impl_HolesOf.l1]
          rw [if_neg (by omega), w4, fin xa n L hS.next]
theorem Sc.holes {l : List S41} {xa : List Bool} {n : Int} {L : List S41} (B : Bxd l 0 7 0 7) (h : Sc l xa n L (-1) 9) : HolN l (n - 1) := by
  have hcorner : (⟨-1, -1⟩ : S41) ∈ L := by
    refine (h.mem (-1) (-1)).mpr ⟨G8_iff.mpr ⟨by unfold frm; omega, B.free (by unfold inB4; omega)⟩, by unfold bef; omega, fun a b h1 h2 => ?_⟩
    have := (G8_iff.mp h2.left).1
    unfold bef frm at *
    omega
  obtain ⟨a, b, e⟩ := List.append_of_mem hcorner
  subst e
  have hnd := (List.perm_middle.nodup_iff).mp h.nd
  rw [List.nodup_cons] at hnd
  refine ⟨a ++ b, hnd.2, fun x y => ?_, ?_⟩
  · have hm := h.mem x y
    rw [List.perm_middle.mem_iff, List.mem_cons, S41.mk.injEq] at hm
    have hFr : ∀ u v, Rch (G8 l) u v x y → Rch (Fr l) u v x y := fun u v k => k.mono fun _ _ q => (G8_iff.mp q).2
    constructor
    · intro hx
      obtain ⟨h1, h2, h3⟩ := hm.mp (.inr hx)
      have hf := (G8_iff.mp h1).1
      have hne : ¬(x = -1 ∧ y = -1) := fun e => hnd.1 (by rw [e.1, e.2] at hx; exact hx)
      have hE : ¬ Esc l x y := by
        intro hE
        have := (B.frame_iff (x := x) (y := y) (by unfold frm at hf; omega)).mpr hE
        rw [show (0 : Int) - 1 = -1 from rfl] at this
        exact h3 (-1) (-1) (by unfold frm bef at *; omega) this
      refine ⟨(G8_iff.mp h1).2, hE, fun u v huv hr => ?_⟩
      have hr' := (B.hole_rch hE hr.symm).1.symm
      exact h3 u v huv hr'
    · rintro ⟨h1, h2, h3⟩
      have hin := B.hole_in h1 h2
      unfold inB4 at hin
      have := hm.mpr ⟨G8_iff.mpr ⟨by unfold frm; omega, h1⟩, by unfold bef; omega, fun u v huv hr => h3 u v huv (hFr u v hr)⟩
      rcases this with k | k
      · omega
      · exact k
  · rw [h.num]
    simp only [List.length_append, List.length_cons]
    omega
theorem shape_Bxd {l : List S41} (hs : isShapeB l = true) : Bxd l 0 7 0 7 := by
  refine ⟨by omega, by omega, fun c hc => ?_⟩
  obtain ⟨i, h0, h1, rfl⟩ := mem_rd hc
  have := shape_cell hs h0 h1
  omega
theorem marks0 {l : List S41} (hs : isShapeB l = true) {r : Int} (cont : ∀ xa, xa.length = 100 → (∀ u v, frm u v → mkd xa u v = hasB l u v) → Ev (fun k => impl_HolesOf.l1 k xa 0 0) r) : ∀ (m : Nat) (i : Int) (xa : List Bool), 0 ≤ i → (l.length : Int) ≤ i + m → i ≤ l.length → xa.length = 100 → (∀ u v, frm u v → mkd xa u v = hasB (l.take i.toNat) u v) → Ev (fun k => impl_HolesOf.l0 k l xa i) r
  | 0, i, xa, h0, h1, h2, hl, hm => by
    refine Ev.step (f := fun k => impl_HolesOf.l1 k xa 0 0) (fun k => ?_) (cont xa hl ?_)
    · simp only [impl_HolesOf.l0]
      rw [if_neg (by omega)]
    · intro u v huv
      rw [hm u v huv, show i.toNat = l.length by omega, List.take_length]
  | m + 1, i, xa, h0, h1, h2, hl, hm => by
    by_cases hlt : i < (l.length : Int)
    · obtain ⟨c1, c2, c3, c4⟩ := shape_cell hs h0 hlt
      have hl8 := (shape_len hs).2
      have e1 : wrap64 ((rd_T41 l i).f1 + 1) = (rd_T41 l i).f1 + 1 := w64 (by omega) (by omega)
      have e2 : wrap64 ((rd_T41 l i).f0 + 1) = (rd_T41 l i).f0 + 1 := w64 (by omega) (by omega)
      have e3 : wrap64 (i + 1) = i + 1 := w64 (by omega) (by omega)
      refine Ev.step (f := fun k => impl_HolesOf.l0 k l (h_put xa ((rd_T41 l i).f1 + 1) ((rd_T41 l i).f0 + 1)) (i + 1)) (fun k => ?_) (marks0 hs cont m (i + 1) _ (by omega) (by omega) (by omega) (len_put hl _ _) ?_)
      · simp only [impl_HolesOf.l0]
        rw [if_pos hlt, if_pos h0, e1, e2, e3, if_pos (by omega), if_pos (by omega), if_pos (by omega), if_pos (by omega)]
      · intro u v huv
        have ha : hasB (l.take i.toNat ++ [rd_T41 l i]) u v = (hasB (l.take i.toNat) u v || hasB [rd_T41 l i] u v) := by unfold hasB; rw [List.any_append]
        rw [mk_put hl (by unfold frm; omega) huv, hm u v huv, take_succ_rd h0 hlt, ha]
        rw [Bool.or_comm]
        congr 1
        unfold hasB
        rw [List.any_cons, List.any_nil, Bool.or_false, Bool.eq_iff_iff, decide_eq_true_iff, Bool.and_eq_true, beq_iff_eq, beq_iff_eq]
        omega
    · refine Ev.step (f := fun k => impl_HolesOf.l1 k xa 0 0) (fun k => ?_) (cont xa hl ?_)
      · simp only [impl_HolesOf.l0]
        rw [if_neg (by omega)]
      · intro u v huv
        rw [hm u v huv, show i.toNat = l.length by omega, List.take_length]
theorem iHoles_plain {l : List S41} (hs : isShapeB l = true) {r : Int} (hr : HolN l r) : Ev (fun k => impl_HolesOf.f k l) r := by
  have B := shape_Bxd hs
  have h0 : Ev (fun k => impl_HolesOf.l0 k l (List.replicate 100 false) 0) r := by
    refine marks0 hs (fun xa hl hm => ?_) l.length 0 _ (by omega) (by omega) (by omega) (by simp) (fun u v huv => ?_)
    · refine Ev.step (f := fun k => impl_HolesOf.l2 k xa 0 0 0) (fun k => ?_) ?_
      · simp only [impl_HolesOf.l1]
        rw [if_pos (by omega)]
      · refine scan (l := l) (fun xb n L hS => ?_) 200 xa 0 [] (-1) (-1) ⟨hl, ?_, by simp, ?_, by simp, by omega⟩ (by omega) (by omega) (by omega) (by omega) (by omega)
        · exact hr.uniq (hS.holes B)
        · intro u v huv
          rw [hm u v huv]
          constructor
          · exact .inl
          · rintro (h | ⟨a, b, h1, h2⟩)
            · exact h
            · have := (G8_iff.mp h2.left).1
              unfold bef frm at *
              omega
        · intro u v
          constructor
          · intro h; cases h
          · rintro ⟨h1, h2, h3⟩
            have := (G8_iff.mp h1).1
            unfold bef frm at *
            omega
    · have e : hasB (l.take (0 : Int).toNat) u v = false := rfl
      rw [e]
      unfold mkd h_get rdOf
      rw [List.getD_eq_getElem?_getD, List.getElem?_replicate]
      split <;> rfl
  refine Ev.congr (f := fun k => impl_HolesOf.l0 k l (List.replicate 100 false) 0) (fun k => ?_) h0
  unfold impl_HolesOf.f impl_IsShape.f
  rw [hs]
  rfl
end Go.Proofs.Ytlohfeicfhmlmaa.PFnOutlines

namespace Go.Proofs.Ytlohfeicfhmlmaa.PFnOutlines
open Go.RowKit Go.Proofs.YtlohfeicfhmlmaaW.PrintWords Go.Proofs.YtlohfeicfhmlmaaW.PrintLast Go.Proofs.YtlohfeicfhmlmaaW.PrintMore
attribute [local go_sem] max2_int min2_int max_two min_two max_three min_three max_four min_four   -- for this text's walks alone
set_option linter.unusedVariables false
set_option linter.unusedSimpArgs false
mutual
def spec_l5Outside.l0 : Nat → Int → Int → List (S41) → List (S41) → Int → Option ((List (S41)))
  | 0, _, _, _, _, _ => none
  | k + 1, x3, x4, x5, x6, x7 => if x7 < (x6.length : Int) then (spec_l5Outside.l1 k x3 x4 x5 x6 x7 0) else (some x6)
def spec_l5Outside.l1 : Nat → Int → Int → List (S41) → List (S41) → Int → Int → Option ((List (S41)))
  | 0, _, _, _, _, _, _ => none
  | k + 1, x3, x4, x5, x6, x7, x8 => if x8 < 4 then (if 0 ≤ x7 then (if x7 < (x6.length : Int) then ((spec_l1In.f (wrap64 (((rd_T41 x6 x7).f0) + (Int.tmod (wrap64 (1 - x8)) 2))) (-1) x3).bind fun t316 => (if t316 = true then ((spec_l1In.f (wrap64 (((rd_T41 x6 x7).f1) + (Int.tmod (wrap64 (2 - x8)) 2))) (-1) x4).bind fun t317 => (if t317 = true then ((spec_HasCell.f x5 (wrap64 (((rd_T41 x6 x7).f0) + (Int.tmod (wrap64 (1 - x8)) 2))) (wrap64 (((rd_T41 x6 x7).f1) + (Int.tmod (wrap64 (2 - x8)) 2)))).bind fun t318 => (if t318 = true then (spec_l5Outside.l1 k x3 x4 x5 x6 x7 (wrap64 (x8 + 1))) else ((spec_HasCell.f x6 (wrap64 (((rd_T41 x6 x7).f0) + (Int.tmod (wrap64 (1 - x8)) 2))) (wrap64 (((rd_T41 x6 x7).f1) + (Int.tmod (wrap64 (2 - x8)) 2)))).bind fun t319 => (if t319 = true then (spec_l5Outside.l1 k x3 x4 x5 x6 x7 (wrap64 (x8 + 1))) else (if x6.length < 8796093022208 then (spec_l5Outside.l1 k x3 x4 x5 (x6 ++ [(⟨wrap64 (((rd_T41 x6 x7).f0) + (Int.tmod (wrap64 (1 - x8)) 2)), wrap64 (((rd_T41 x6 x7).f1) + (Int.tmod (wrap64 (2 - x8)) 2))⟩ : S41)]) x7 (wrap64 (x8 + 1))) else (none)))))) else (spec_l5Outside.l1 k x3 x4 x5 x6 x7 (wrap64 (x8 + 1))))) else (spec_l5Outside.l1 k x3 x4 x5 x6 x7 (wrap64 (x8 + 1))))) else (none)) else (none)) else (spec_l5Outside.l0 k x3 x4 x5 x6 (wrap64 (x7 + 1)))
end
def spec_l5Outside.f (k : Nat) (l0 : List (S41)) : Option ((List (S41))) := (spec_SizeOf.f k l0).bind fun bt306 => ((spec_CornerShape.f k l0).bind fun t308 => (spec_l5Outside.l0 k bt306.1 bt306.2 t308 (([(⟨(-1), (-1)⟩ : S41)] : List (S41))) 0))
theorem spec_l5Outside.mono_l : ∀ k, (∀ y0 y1 y2 y3 y4, LeO (spec_l5Outside.l0 k y0 y1 y2 y3 y4) (spec_l5Outside.l0 (k + 1) y0 y1 y2 y3 y4)) ∧ (∀ y0 y1 y2 y3 y4 y5, LeO (spec_l5Outside.l1 k y0 y1 y2 y3 y4 y5) (spec_l5Outside.l1 (k + 1) y0 y1 y2 y3 y4 y5))
  | 0 => ⟨fun _ _ _ _ _ r h => by simp [spec_l5Outside.l0] at h, fun _ _ _ _ _ _ r h => by simp [spec_l5Outside.l1] at h⟩
  | k + 1 => by
    obtain ⟨ih0, ih1⟩ := spec_l5Outside.mono_l k
    refine ⟨?_, ?_⟩
    · intro y0 y1 y2 y3 y4
      unfold spec_l5Outside.l0
      repeat' first
      | (with_reducible exact ih0 _ _ _ _ _)
      | (with_reducible exact ih1 _ _ _ _ _ _)
      | (with_reducible exact spec_CornerShape.mono _ _)
      | (with_reducible exact spec_SizeOf.mono _ _)
      | (with_reducible exact LeO.refl _)
      | (with_reducible exact LeO.none _)
      | (with_reducible refine LeO.ite ?_ ?_)
      | (with_reducible refine LeO.bind ?_ (fun _ => ?_))
      | exact ih0 _ _ _ _ _
      | exact ih1 _ _ _ _ _ _
      | exact spec_CornerShape.mono _ _
      | exact spec_SizeOf.mono _ _
      | exact LeO.none _
      | refine LeO.ite ?_ ?_
      | refine LeO.bind ?_ (fun _ => ?_)
    · intro y0 y1 y2 y3 y4 y5
      unfold spec_l5Outside.l1
      repeat' first
      | (with_reducible exact ih0 _ _ _ _ _)
      | (with_reducible exact ih1 _ _ _ _ _ _)
      | (with_reducible exact spec_CornerShape.mono _ _)
      | (with_reducible exact spec_SizeOf.mono _ _)
      | (with_reducible exact LeO.refl _)
      | (with_reducible exact LeO.none _)
      | (with_reducible refine LeO.ite ?_ ?_)
      | (with_reducible refine LeO.bind ?_ (fun _ => ?_))
      | exact ih0 _ _ _ _ _
      | exact ih1 _ _ _ _ _ _
      | exact spec_CornerShape.mono _ _
      | exact spec_SizeOf.mono _ _
      | exact LeO.none _
      | refine LeO.ite ?_ ?_
      | refine LeO.bind ?_ (fun _ => ?_)
theorem spec_l5Outside.mono : ∀ a0 k, LeO (spec_l5Outside.f k a0) (spec_l5Outside.f (k + 1) a0) := by
  intro a0 k
  obtain ⟨ih0, ih1⟩ := spec_l5Outside.mono_l k
  unfold spec_l5Outside.f
  repeat' first
      | (with_reducible exact ih0 _ _ _ _ _)
      | (with_reducible exact ih1 _ _ _ _ _ _)
      | (with_reducible exact spec_CornerShape.mono _ _)
      | (with_reducible exact spec_SizeOf.mono _ _)
      | (with_reducible exact LeO.refl _)
      | (with_reducible exact LeO.none _)
      | (with_reducible refine LeO.ite ?_ ?_)
      | (with_reducible refine LeO.bind ?_ (fun _ => ?_))
      | exact ih0 _ _ _ _ _
      | exact ih1 _ _ _ _ _ _
      | exact spec_CornerShape.mono _ _
      | exact spec_SizeOf.mono _ _
      | exact LeO.none _
      | refine LeO.ite ?_ ?_
      | refine LeO.bind ?_ (fun _ => ?_)
set_option maxHeartbeats 8000000 in
set_option maxRecDepth 100000 in
theorem spec_l5Outside.calls (k : Nat) (A0 : Option Addr) (c0 : Nat) (l0 : List (S41)) (r : List (S41)) (w : World) (hr0 : Kd.C k41 w A0 l0.length l0) (hc0 : l0.length ≤ c0) (h : spec_l5Outside.f k l0 = some r) :
    Calls Try.prog 39 #[.slice A0 l0.length c0] w fun e w' => ∃ v0_ : Value, e = .returned (v0_) ∧ Kd.R k41 41 w' w.heap.size (fun _ => True) v0_ r ∧ Below w.heap.size w w' := by
  have hu41 := Try.underlying41
  have HR0 := Aside0.mk hr0
  have HC0 := Aside0.mk hc0
  clear hr0 hc0
  have HB := Aside0.mk (Below.refl w.heap.size w)
  have H : ((spec_SizeOf.f k l0).bind fun bt306 => ((spec_CornerShape.f k l0).bind fun t308 => (spec_l5Outside.l0 k bt306.1 bt306.2 t308 (([(⟨(-1), (-1)⟩ : S41)] : List (S41))) 0))) = some r := h
  clear h
  replace H := Option.bind_eq_some_iff.mp H
  obtain ⟨⟨t306, t307⟩, A20, H⟩ := H
  replace H : ((spec_CornerShape.f k l0).bind fun t308 => (spec_l5Outside.l0 k t306 t307 t308 (([(⟨(-1), (-1)⟩ : S41)] : List (S41))) 0)) = some r := H
  have A2 := Aside0.mk A20
  clear A20
  replace H := Option.bind_eq_some_iff.mp H
  obtain ⟨t308, A30, H⟩ := H
  replace H : (spec_l5Outside.l0 k t306 t307 t308 (([(⟨(-1), (-1)⟩ : S41)] : List (S41))) 0) = some r := H
  have A3 := Aside0.mk A30
  clear A30
  obtain ⟨y311, hy311⟩ : ∃ y_ : List (S41), y_ = (([(⟨(-1), (-1)⟩ : S41)] : List (S41))) := ⟨_, rfl⟩
  replace H : (spec_l5Outside.l0 k t306 t307 t308 y311 0) = some r := by first | (rw [hy311]; with_reducible exact H) | (have H2_ := (Option.bind_some _ _).symm.trans H; rw [hy311]; with_reducible exact H2_) | (have H2_ := (Option.bind_some _ _).symm.trans H; with_reducible exact H2_) | with_reducible exact H | (rw [hy311]; exact H) | exact H
  have Ny311 := Aside0.mk hy311
  clear hy311
  have H' := Aside0.mk H
  clear H
  go_enter Try.func39, Try.ntmps39
  go_wp2_with (first | ((with_reducible refine gate_callee (f := 37) rfl ?_); refine goesL_ (some 13) rfl rfl Try.func37 (by kernel_rfl) rfl #[.slice A0 l0.length c0] rfl (by (try simp only [List.map_toArray, List.map_cons, List.map_nil]); first | done | rfl | (simp only [List.length_drop, List.length_take]; rfl)) ?_; (with_reducible refine (spec_SizeOf.calls k _ _ l0 t306 t307 _ ?side1 ?side2 A2.out).mono ?_); (case side1 => repeat (first | exact HR0.out | (with_reducible refine Kd.C_alloc ?_ _) | (with_reducible refine Kd.C_drewN ?_ _) | (with_reducible refine Kd.C_drew ?_))); (case side2 => exact HC0.out); rintro e w4 ⟨rfl, hb⟩; refine ⟨_, rfl, ?_⟩; have n0_ := Aside0.mk (below_step (by repeat (first | (with_reducible first | exact HB.out | apply below_alloc | apply pw_below_drewN | apply below_drew1) | exact HB.out)) hb); clear HB; have HB := n0_; clear n0_; (try clear hb); (try clear hb2); (try clear hk); (try clear hi)) | ((with_reducible refine gate_callee (f := 38) rfl ?_); refine goesL_ (some 17) rfl rfl Try.func38 (by kernel_rfl) rfl #[.slice A0 l0.length c0] rfl (by (try simp only [List.map_toArray, List.map_cons, List.map_nil]); first | done | rfl | (simp only [List.length_drop, List.length_take]; rfl)) ?_; (with_reducible refine (spec_CornerShape.calls k _ _ l0 t308 _ ?side1 ?side2 A3.out).mono ?_); (case side1 => repeat (first | exact (Kd.C_below HR0.out HB.out) | (with_reducible refine Kd.C_alloc ?_ _) | (with_reducible refine Kd.C_drewN ?_ _) | (with_reducible refine Kd.C_drew ?_))); (case side2 => exact HC0.out); rintro e w5 ⟨v309, rfl, ho0, hb⟩; refine ⟨_, rfl, ?_⟩; have n0_ := Aside0.mk (Kd.R_lower ho0 (below_size (by repeat (first | (with_reducible first | exact HB.out | apply below_alloc | apply pw_below_drewN | apply below_drew1) | exact HB.out)))); have n1_ := Aside0.mk (below_step (by repeat (first | (with_reducible first | exact HB.out | apply below_alloc | apply pw_below_drewN | apply below_drew1) | exact HB.out)) hb); clear HB; have HO310 := n0_; have HB := n1_; clear n0_ n1_; (try clear hb); (try clear hb2); (try clear hk); (try clear hi); (try clear ho0)) | ((with_reducible refine gate_dst (N := 19) rfl ?_); refine Kd.R_lit k41 _ 41 ?hg (N := 19) ?hd (xs := ([(⟨(-1), (-1)⟩ : S41)] : List (S41))) (inner := [.int .i64 (-1), .int .i64 (-1)]) (ok := fun _ => True) (okp := fun _ => True) ?hr ?hp (fun _ hk => hk) trivial (Below.refl _ _) (Nat.le_refl _) (by simp) ?_; (case hd => rfl); (case hg => rfl); (case hr => first | (go_simp; done) | (go_simp; rfl)); (case hp => exact (Reps.c2 (show Kd.M k41 _ _ _ (⟨(-1), (-1)⟩ : S41) [.int .i64 (-1), .int .i64 (-1)] from (k41_mkM _ _ _ (⟨(-1), (-1)⟩ : S41) )) (Reps.none _ _))); intro v312 w6 ho7 hb hg_ hnew_; clear hg_ hnew_; (first | rw [← Ny311.out] at ho7 | (simp only [Int.reduceToNat] at ho7; rw [← Ny311.out] at ho7)); have n0_ := Aside0.mk (Kd.R_elder' (by (with_reducible repeat (first | apply Kd.R_alloc | apply Kd.R_drewN | apply Kd.R_drew)); exact HO310.out) (Kd.R_base ho7) hb); have n1_ := Aside0.mk (Kd.R_lower (Kd.R_new' ho7 (Kd.R_lt (by (with_reducible repeat (first | apply Kd.R_alloc | apply Kd.R_drewN | apply Kd.R_drew)); exact HO310.out))) (below_size (by repeat (first | (with_reducible first | exact HB.out | apply below_alloc | apply pw_below_drewN | apply below_drew1) | exact HB.out)))); have n2_ := Aside0.mk (below_step (by repeat (first | (with_reducible first | exact HB.out | apply below_alloc | apply pw_below_drewN | apply below_drew1) | exact HB.out)) hb); clear HO310; clear HB; have HO310 := n0_; have HO313 := n1_; have HB := n2_; clear n0_ n1_ n2_; clear hb ho7))
  go_loopg [6, 7] k (fun kq v6 v7 w' => ∃ (x6_1 : List (S41)) (x7_1 : Int), v7 = .int .i64 x7_1 ∧ Aside0 (spec_l5Outside.l0 kq t306 t307 t308 x6_1 x7_1 = some r) ∧ Aside0 (kq ≤ k) ∧ Aside0 (Kd.R k41 41 w' w.heap.size (fun k_ => some k_ ≠ (v6 : Value).ownBlock) v309 t308) ∧ Aside0 (Kd.R k41 41 w' w.heap.size (fun k_ => some k_ ≠ (v309 : Value).ownBlock) v6 x6_1) ∧ Aside0 (Below w.heap.size w w'))
  case atStart => exact ⟨(y311), (0), (by first | rfl | (simp; done) | (simp [*]; done)), H', ⟨Nat.le_refl _⟩, ⟨by (with_reducible repeat (first | apply Kd.R_alloc | apply Kd.R_drewN | apply Kd.R_drew)); exact Kd.R_mono HO310.out (fun _ hk => hk.2)⟩, ⟨by (with_reducible repeat (first | apply Kd.R_alloc | apply Kd.R_drewN | apply Kd.R_drew)); exact Kd.R_mono HO313.out (fun _ hk => hk.2)⟩, ⟨by repeat (first | (with_reducible first | exact HB.out | apply below_alloc | apply pw_below_drewN | apply below_drew1) | exact HB.out)⟩⟩
  case round =>
    clear H'
    try clear c2
    try clear p2
    try clear c3
    obtain ⟨x6_1, x7_1, rfl, HA, HK1, HO_5, HO_6, HB⟩ := hrel
    cases gk with
    | zero => exact absurd HA.out (by simp [spec_l5Outside.l0])
    | succ k1 =>
      have H := HA.out
      clear HA
      simp only [spec_l5Outside.l0] at H
      by_cases c8 : x7_1 < (x6_1.length : Int)
      · rw [if_pos c8] at H
        have c8b0 : decide (x7_1 < (x6_1.length : Int)) = true := decide_eq_true c8
        clear c8
        have H' := Aside0.mk H
        clear H
        obtain ⟨Ao9, co9, eo9⟩ := Kd.R_slice HO_6.out
        subst eo9
        go_wp2
        go_loopg [6, 8] k1 (fun kq v6 v8 w' => ∃ (x6_2 : List (S41)) (x8_2 : Int), v8 = .int .i64 x8_2 ∧ Aside0 (spec_l5Outside.l1 kq t306 t307 t308 x6_2 x7_1 x8_2 = some r) ∧ Aside0 (kq ≤ k1) ∧ Aside0 (Kd.R k41 41 w' w.heap.size (fun k_ => some k_ ≠ (v6 : Value).ownBlock) v309 t308) ∧ Aside0 (Kd.R k41 41 w' w.heap.size (fun k_ => some k_ ≠ (v309 : Value).ownBlock) v6 x6_2) ∧ Aside0 (Below w.heap.size w w'))
        case atStart => exact ⟨(x6_1), (0), (by first | rfl | (simp; done) | (simp [*]; done)), H', ⟨Nat.le_refl _⟩, ⟨by (with_reducible repeat (first | apply Kd.R_alloc | apply Kd.R_drewN | apply Kd.R_drew)); exact HO_5.out⟩, ⟨by (with_reducible repeat (first | apply Kd.R_alloc | apply Kd.R_drewN | apply Kd.R_drew)); exact HO_6.out⟩, ⟨by repeat (first | (with_reducible first | exact HB.out | apply below_alloc | apply pw_below_drewN | apply below_drew1) | exact HB.out)⟩⟩
        case round =>
          clear H'
          try clear c2
          try clear p2
          try clear c3
          try clear c8
          try clear c8b0
          try clear p2
          obtain ⟨x6_2, x8_2, rfl, HA, HK2, HO_5, HO_6, HB⟩ := hrel
          cases gk with
          | zero => exact absurd HA.out (by simp [spec_l5Outside.l1])
          | succ k2 =>
            have H := HA.out
            clear HA
            simp only [spec_l5Outside.l1] at H
            by_cases c10 : x8_2 < 4
            · rw [if_pos c10] at H
              have c10b0 : decide (x8_2 < 4) = true := decide_eq_true c10
              clear c10
              by_cases c11 : 0 ≤ x7_1
              · rw [if_pos c11] at H
                have c11b0 : decide (0 ≤ x7_1) = true := decide_eq_true c11
                clear c11
                by_cases c12 : x7_1 < (x6_2.length : Int)
                · rw [if_pos c12] at H
                  have c12b0 : decide (x7_1 < (x6_2.length : Int)) = true := decide_eq_true c12
                  clear c12
                  replace H := Option.bind_eq_some_iff.mp H
                  obtain ⟨t316, A130, H⟩ := H
                  replace H : (if t316 = true then ((spec_l1In.f (wrap64 (((rd_T41 x6_2 x7_1).f1) + (Int.tmod (wrap64 (2 - x8_2)) 2))) (-1) t307).bind fun t317 => (if t317 = true then ((spec_HasCell.f t308 (wrap64 (((rd_T41 x6_2 x7_1).f0) + (Int.tmod (wrap64 (1 - x8_2)) 2))) (wrap64 (((rd_T41 x6_2 x7_1).f1) + (Int.tmod (wrap64 (2 - x8_2)) 2)))).bind fun t318 => (if t318 = true then (spec_l5Outside.l1 k2 t306 t307 t308 x6_2 x7_1 (wrap64 (x8_2 + 1))) else ((spec_HasCell.f x6_2 (wrap64 (((rd_T41 x6_2 x7_1).f0) + (Int.tmod (wrap64 (1 - x8_2)) 2))) (wrap64 (((rd_T41 x6_2 x7_1).f1) + (Int.tmod (wrap64 (2 - x8_2)) 2)))).bind fun t319 => (if t319 = true then (spec_l5Outside.l1 k2 t306 t307 t308 x6_2 x7_1 (wrap64 (x8_2 + 1))) else (if x6_2.length < 8796093022208 then (spec_l5Outside.l1 k2 t306 t307 t308 (x6_2 ++ [(⟨wrap64 (((rd_T41 x6_2 x7_1).f0) + (Int.tmod (wrap64 (1 - x8_2)) 2)), wrap64 (((rd_T41 x6_2 x7_1).f1) + (Int.tmod (wrap64 (2 - x8_2)) 2))⟩ : S41)]) x7_1 (wrap64 (x8_2 + 1))) else (none)))))) else (spec_l5Outside.l1 k2 t306 t307 t308 x6_2 x7_1 (wrap64 (x8_2 + 1))))) else (spec_l5Outside.l1 k2 t306 t307 t308 x6_2 x7_1 (wrap64 (x8_2 + 1)))) = some r := H
                  have A13 := Aside0.mk A130
                  clear A130
                  by_cases c14 : t316 = true
                  · subst c14
                    have H1 : ((spec_l1In.f (wrap64 (((rd_T41 x6_2 x7_1).f1) + (Int.tmod (wrap64 (2 - x8_2)) 2))) (-1) t307).bind fun t317 => (if t317 = true then ((spec_HasCell.f t308 (wrap64 (((rd_T41 x6_2 x7_1).f0) + (Int.tmod (wrap64 (1 - x8_2)) 2))) (wrap64 (((rd_T41 x6_2 x7_1).f1) + (Int.tmod (wrap64 (2 - x8_2)) 2)))).bind fun t318 => (if t318 = true then (spec_l5Outside.l1 k2 t306 t307 t308 x6_2 x7_1 (wrap64 (x8_2 + 1))) else ((spec_HasCell.f x6_2 (wrap64 (((rd_T41 x6_2 x7_1).f0) + (Int.tmod (wrap64 (1 - x8_2)) 2))) (wrap64 (((rd_T41 x6_2 x7_1).f1) + (Int.tmod (wrap64 (2 - x8_2)) 2)))).bind fun t319 => (if t319 = true then (spec_l5Outside.l1 k2 t306 t307 t308 x6_2 x7_1 (wrap64 (x8_2 + 1))) else (if x6_2.length < 8796093022208 then (spec_l5Outside.l1 k2 t306 t307 t308 (x6_2 ++ [(⟨wrap64 (((rd_T41 x6_2 x7_1).f0) + (Int.tmod (wrap64 (1 - x8_2)) 2)), wrap64 (((rd_T41 x6_2 x7_1).f1) + (Int.tmod (wrap64 (2 - x8_2)) 2))⟩ : S41)]) x7_1 (wrap64 (x8_2 + 1))) else (none)))))) else (spec_l5Outside.l1 k2 t306 t307 t308 x6_2 x7_1 (wrap64 (x8_2 + 1))))) = some r := by rw [if_pos rfl] at H; exact H
                    clear H
                    have H := H1
                    clear H1
                    replace H := Option.bind_eq_some_iff.mp H
                    obtain ⟨t317, A150, H⟩ := H
                    replace H : (if t317 = true then ((spec_HasCell.f t308 (wrap64 (((rd_T41 x6_2 x7_1).f0) + (Int.tmod (wrap64 (1 - x8_2)) 2))) (wrap64 (((rd_T41 x6_2 x7_1).f1) + (Int.tmod (wrap64 (2 - x8_2)) 2)))).bind fun t318 => (if t318 = true then (spec_l5Outside.l1 k2 t306 t307 t308 x6_2 x7_1 (wrap64 (x8_2 + 1))) else ((spec_HasCell.f x6_2 (wrap64 (((rd_T41 x6_2 x7_1).f0) + (Int.tmod (wrap64 (1 - x8_2)) 2))) (wrap64 (((rd_T41 x6_2 x7_1).f1) + (Int.tmod (wrap64 (2 - x8_2)) 2)))).bind fun t319 => (if t319 = true then (spec_l5Outside.l1 k2 t306 t307 t308 x6_2 x7_1 (wrap64 (x8_2 + 1))) else (if x6_2.length < 8796093022208 then (spec_l5Outside.l1 k2 t306 t307 t308 (x6_2 ++ [(⟨wrap64 (((rd_T41 x6_2 x7_1).f0) + (Int.tmod (wrap64 (1 - x8_2)) 2)), wrap64 (((rd_T41 x6_2 x7_1).f1) + (Int.tmod (wrap64 (2 - x8_2)) 2))⟩ : S41)]) x7_1 (wrap64 (x8_2 + 1))) else (none)))))) else (spec_l5Outside.l1 k2 t306 t307 t308 x6_2 x7_1 (wrap64 (x8_2 + 1)))) = some r := H
                    have A15 := Aside0.mk A150
                    clear A150
                    by_cases c16 : t317 = true
                    · subst c16
                      have H1 : ((spec_HasCell.f t308 (wrap64 (((rd_T41 x6_2 x7_1).f0) + (Int.tmod (wrap64 (1 - x8_2)) 2))) (wrap64 (((rd_T41 x6_2 x7_1).f1) + (Int.tmod (wrap64 (2 - x8_2)) 2)))).bind fun t318 => (if t318 = true then (spec_l5Outside.l1 k2 t306 t307 t308 x6_2 x7_1 (wrap64 (x8_2 + 1))) else ((spec_HasCell.f x6_2 (wrap64 (((rd_T41 x6_2 x7_1).f0) + (Int.tmod (wrap64 (1 - x8_2)) 2))) (wrap64 (((rd_T41 x6_2 x7_1).f1) + (Int.tmod (wrap64 (2 - x8_2)) 2)))).bind fun t319 => (if t319 = true then (spec_l5Outside.l1 k2 t306 t307 t308 x6_2 x7_1 (wrap64 (x8_2 + 1))) else (if x6_2.length < 8796093022208 then (spec_l5Outside.l1 k2 t306 t307 t308 (x6_2 ++ [(⟨wrap64 (((rd_T41 x6_2 x7_1).f0) + (Int.tmod (wrap64 (1 - x8_2)) 2)), wrap64 (((rd_T41 x6_2 x7_1).f1) + (Int.tmod (wrap64 (2 - x8_2)) 2))⟩ : S41)]) x7_1 (wrap64 (x8_2 + 1))) else (none)))))) = some r := by rw [if_pos rfl] at H; exact H
                      clear H
                      have H := H1
                      clear H1
                      replace H := Option.bind_eq_some_iff.mp H
                      obtain ⟨t318, A170, H⟩ := H
                      replace H : (if t318 = true then (spec_l5Outside.l1 k2 t306 t307 t308 x6_2 x7_1 (wrap64 (x8_2 + 1))) else ((spec_HasCell.f x6_2 (wrap64 (((rd_T41 x6_2 x7_1).f0) + (Int.tmod (wrap64 (1 - x8_2)) 2))) (wrap64 (((rd_T41 x6_2 x7_1).f1) + (Int.tmod (wrap64 (2 - x8_2)) 2)))).bind fun t319 => (if t319 = true then (spec_l5Outside.l1 k2 t306 t307 t308 x6_2 x7_1 (wrap64 (x8_2 + 1))) else (if x6_2.length < 8796093022208 then (spec_l5Outside.l1 k2 t306 t307 t308 (x6_2 ++ [(⟨wrap64 (((rd_T41 x6_2 x7_1).f0) + (Int.tmod (wrap64 (1 - x8_2)) 2)), wrap64 (((rd_T41 x6_2 x7_1).f1) + (Int.tmod (wrap64 (2 - x8_2)) 2))⟩ : S41)]) x7_1 (wrap64 (x8_2 + 1))) else (none))))) = some r := H
                      have A17 := Aside0.mk A170
                      clear A170
                      by_cases c18 : t318 = true
                      · subst c18
                        have H1 : (spec_l5Outside.l1 k2 t306 t307 t308 x6_2 x7_1 (wrap64 (x8_2 + 1))) = some r := by rw [if_pos rfl] at H; exact H
                        clear H
                        have H := H1
                        clear H1
                        have H' := Aside0.mk H
                        clear H
                        obtain ⟨Ao19, co19, eo19⟩ := Kd.R_slice HO_6.out
                        subst eo19
                        have p314 : 0 ≤ (x7_1 : Int) := of_decide_eq_true (by first | (with_reducible assumption) | assumption)
                        have q314 : x7_1 < (x6_2.length : Int) := of_decide_eq_true (by first | (with_reducible assumption) | assumption)
                        obtain ⟨ad314, e314, hx314_0, hx314_1⟩ := at_T41 (Kd.R_reads' HO_6.out).2.2 x7_1 p314 q314
                        cases e314
                        replace p314 := eq_true p314
                        replace q314 := eq_true q314
                        have p315 : 0 ≤ (x7_1 : Int) := of_decide_eq_true (by first | (with_reducible assumption) | assumption)
                        have q315 : x7_1 < (x6_2.length : Int) := of_decide_eq_true (by first | (with_reducible assumption) | assumption)
                        obtain ⟨ad315, e315, hx315_0, hx315_1⟩ := at_T41 (Kd.R_reads' HO_6.out).2.2 x7_1 p315 q315
                        obtain rfl : ad314 = ad315 := (by injection e315)
                        replace p315 := eq_true p315
                        replace q315 := eq_true q315
                        go_wp2_with (first | ((with_reducible refine gate_callee (f := 47) rfl ?_); refine goesL_ (some 50) rfl rfl Try.func47 (by kernel_rfl) rfl #[.int .i64 (wrap64 (((rd_T41 x6_2 x7_1).f0) + (Int.tmod (wrap64 (1 - x8_2)) 2))), .int .i64 (-1), .int .i64 t306] rfl (by (try simp only [List.map_toArray, List.map_cons, List.map_nil]); first | done | rfl | (simp only [List.length_drop, List.length_take]; rfl)) ?_; (with_reducible refine (spec_l1In.calls (wrap64 (((rd_T41 x6_2 x7_1).f0) + (Int.tmod (wrap64 (1 - x8_2)) 2))) (-1) t306 true _ A13.out).mono ?_); rintro e w' ⟨rfl, ⟨nd, rfl⟩⟩; refine ⟨_, rfl, ?_⟩) | (go_at_call 47; (with_reducible refine (spec_l1In.calls (wrap64 (((rd_T41 x6_2 x7_1).f1) + (Int.tmod (wrap64 (2 - x8_2)) 2))) (-1) t307 true _ A15.out).mono ?_); rintro e w' ⟨rfl, ⟨nd, rfl⟩⟩; obtain ⟨Ao20, co20, eo20⟩ := Kd.R_slice HO_5.out; subst eo20) | (go_at_call 40; (with_reducible refine (spec_HasCell.calls _ _ t308 (wrap64 (((rd_T41 x6_2 x7_1).f0) + (Int.tmod (wrap64 (1 - x8_2)) 2))) (wrap64 (((rd_T41 x6_2 x7_1).f1) + (Int.tmod (wrap64 (2 - x8_2)) 2))) true _ ?side1 ?side2 A17.out).mono ?_); (case side1 => repeat (first | exact (Kd.R_reads' HO_5.out).2.2 | (with_reducible refine Kd.C_alloc ?_ _) | (with_reducible refine Kd.C_drewN ?_ _) | (with_reducible refine Kd.C_drew ?_))); (case side2 => exact (Kd.R_reads' HO_5.out).2.1); rintro e w' ⟨rfl, ⟨nd, rfl⟩⟩))
                        go_roundg k2
                        case measure => have := HK1.out; have := HK2.out; omega
                        case rel => exact ⟨(x6_2), (wrap64 (x8_2 + 1)), (by first | rfl | (simp; done) | (simp [*]; done)), H', ⟨by have := HK1.out; have := HK2.out; omega⟩, ⟨by (with_reducible repeat (first | apply Kd.R_alloc | apply Kd.R_drewN | apply Kd.R_drew)); exact HO_5.out⟩, ⟨by (with_reducible repeat (first | apply Kd.R_alloc | apply Kd.R_drewN | apply Kd.R_drew)); exact HO_6.out⟩, ⟨by repeat (first | (with_reducible first | exact HB.out | apply below_alloc | apply pw_below_drewN | apply below_drew1) | exact HB.out)⟩⟩
                      · replace c18 := Bool.eq_false_iff.mpr c18
                        subst c18
                        have H1 : ((spec_HasCell.f x6_2 (wrap64 (((rd_T41 x6_2 x7_1).f0) + (Int.tmod (wrap64 (1 - x8_2)) 2))) (wrap64 (((rd_T41 x6_2 x7_1).f1) + (Int.tmod (wrap64 (2 - x8_2)) 2)))).bind fun t319 => (if t319 = true then (spec_l5Outside.l1 k2 t306 t307 t308 x6_2 x7_1 (wrap64 (x8_2 + 1))) else (if x6_2.length < 8796093022208 then (spec_l5Outside.l1 k2 t306 t307 t308 (x6_2 ++ [(⟨wrap64 (((rd_T41 x6_2 x7_1).f0) + (Int.tmod (wrap64 (1 - x8_2)) 2)), wrap64 (((rd_T41 x6_2 x7_1).f1) + (Int.tmod (wrap64 (2 - x8_2)) 2))⟩ : S41)]) x7_1 (wrap64 (x8_2 + 1))) else (none)))) = some r := by rw [if_neg (show ¬ (false = true) by decide)] at H; exact H
                        clear H
                        have H := H1
                        clear H1
                        replace H := Option.bind_eq_some_iff.mp H
                        obtain ⟨t319, A210, H⟩ := H
                        replace H : (if t319 = true then (spec_l5Outside.l1 k2 t306 t307 t308 x6_2 x7_1 (wrap64 (x8_2 + 1))) else (if x6_2.length < 8796093022208 then (spec_l5Outside.l1 k2 t306 t307 t308 (x6_2 ++ [(⟨wrap64 (((rd_T41 x6_2 x7_1).f0) + (Int.tmod (wrap64 (1 - x8_2)) 2)), wrap64 (((rd_T41 x6_2 x7_1).f1) + (Int.tmod (wrap64 (2 - x8_2)) 2))⟩ : S41)]) x7_1 (wrap64 (x8_2 + 1))) else (none))) = some r := H
                        have A21 := Aside0.mk A210
                        clear A210
                        by_cases c22 : t319 = true
                        · subst c22
                          have H1 : (spec_l5Outside.l1 k2 t306 t307 t308 x6_2 x7_1 (wrap64 (x8_2 + 1))) = some r := by rw [if_pos rfl] at H; exact H
                          clear H
                          have H := H1
                          clear H1
                          have H' := Aside0.mk H
                          clear H
                          obtain ⟨Ao23, co23, eo23⟩ := Kd.R_slice HO_6.out
                          subst eo23
                          have p314 : 0 ≤ (x7_1 : Int) := of_decide_eq_true (by first | (with_reducible assumption) | assumption)
                          have q314 : x7_1 < (x6_2.length : Int) := of_decide_eq_true (by first | (with_reducible assumption) | assumption)
                          obtain ⟨ad314, e314, hx314_0, hx314_1⟩ := at_T41 (Kd.R_reads' HO_6.out).2.2 x7_1 p314 q314
                          cases e314
                          replace p314 := eq_true p314
                          replace q314 := eq_true q314
                          have p315 : 0 ≤ (x7_1 : Int) := of_decide_eq_true (by first | (with_reducible assumption) | assumption)
                          have q315 : x7_1 < (x6_2.length : Int) := of_decide_eq_true (by first | (with_reducible assumption) | assumption)
                          obtain ⟨ad315, e315, hx315_0, hx315_1⟩ := at_T41 (Kd.R_reads' HO_6.out).2.2 x7_1 p315 q315
                          obtain rfl : ad314 = ad315 := (by injection e315)
                          replace p315 := eq_true p315
                          replace q315 := eq_true q315
                          go_wp2_with (first | ((with_reducible refine gate_callee (f := 47) rfl ?_); refine goesL_ (some 50) rfl rfl Try.func47 (by kernel_rfl) rfl #[.int .i64 (wrap64 (((rd_T41 x6_2 x7_1).f0) + (Int.tmod (wrap64 (1 - x8_2)) 2))), .int .i64 (-1), .int .i64 t306] rfl (by (try simp only [List.map_toArray, List.map_cons, List.map_nil]); first | done | rfl | (simp only [List.length_drop, List.length_take]; rfl)) ?_; (with_reducible refine (spec_l1In.calls (wrap64 (((rd_T41 x6_2 x7_1).f0) + (Int.tmod (wrap64 (1 - x8_2)) 2))) (-1) t306 true _ A13.out).mono ?_); rintro e w' ⟨rfl, ⟨nd, rfl⟩⟩; refine ⟨_, rfl, ?_⟩) | (go_at_call 47; (with_reducible refine (spec_l1In.calls (wrap64 (((rd_T41 x6_2 x7_1).f1) + (Int.tmod (wrap64 (2 - x8_2)) 2))) (-1) t307 true _ A15.out).mono ?_); rintro e w' ⟨rfl, ⟨nd, rfl⟩⟩; obtain ⟨Ao24, co24, eo24⟩ := Kd.R_slice HO_5.out; subst eo24) | (go_at_call 40; (with_reducible refine (spec_HasCell.calls _ _ t308 (wrap64 (((rd_T41 x6_2 x7_1).f0) + (Int.tmod (wrap64 (1 - x8_2)) 2))) (wrap64 (((rd_T41 x6_2 x7_1).f1) + (Int.tmod (wrap64 (2 - x8_2)) 2))) false _ ?side1 ?side2 A17.out).mono ?_); (case side1 => repeat (first | exact (Kd.R_reads' HO_5.out).2.2 | (with_reducible refine Kd.C_alloc ?_ _) | (with_reducible refine Kd.C_drewN ?_ _) | (with_reducible refine Kd.C_drew ?_))); (case side2 => exact (Kd.R_reads' HO_5.out).2.1); rintro e w' ⟨rfl, ⟨nd, rfl⟩⟩) | (go_at_call 40; (with_reducible refine (spec_HasCell.calls _ _ x6_2 (wrap64 (((rd_T41 x6_2 x7_1).f0) + (Int.tmod (wrap64 (1 - x8_2)) 2))) (wrap64 (((rd_T41 x6_2 x7_1).f1) + (Int.tmod (wrap64 (2 - x8_2)) 2))) true _ ?side1 ?side2 A21.out).mono ?_); (case side1 => repeat (first | exact (Kd.R_reads' HO_6.out).2.2 | (with_reducible refine Kd.C_alloc ?_ _) | (with_reducible refine Kd.C_drewN ?_ _) | (with_reducible refine Kd.C_drew ?_))); (case side2 => exact (Kd.R_reads' HO_6.out).2.1); rintro e w' ⟨rfl, ⟨nd, rfl⟩⟩))
                          go_roundg k2
                          case measure => have := HK1.out; have := HK2.out; omega
                          case rel => exact ⟨(x6_2), (wrap64 (x8_2 + 1)), (by first | rfl | (simp; done) | (simp [*]; done)), H', ⟨by have := HK1.out; have := HK2.out; omega⟩, ⟨by (with_reducible repeat (first | apply Kd.R_alloc | apply Kd.R_drewN | apply Kd.R_drew)); exact HO_5.out⟩, ⟨by (with_reducible repeat (first | apply Kd.R_alloc | apply Kd.R_drewN | apply Kd.R_drew)); exact HO_6.out⟩, ⟨by repeat (first | (with_reducible first | exact HB.out | apply below_alloc | apply pw_below_drewN | apply below_drew1) | exact HB.out)⟩⟩
                        · replace c22 := Bool.eq_false_iff.mpr c22
                          subst c22
                          have H1 : (if x6_2.length < 8796093022208 then (spec_l5Outside.l1 k2 t306 t307 t308 (x6_2 ++ [(⟨wrap64 (((rd_T41 x6_2 x7_1).f0) + (Int.tmod (wrap64 (1 - x8_2)) 2)), wrap64 (((rd_T41 x6_2 x7_1).f1) + (Int.tmod (wrap64 (2 - x8_2)) 2))⟩ : S41)]) x7_1 (wrap64 (x8_2 + 1))) else (none)) = some r := by rw [if_neg (show ¬ (false = true) by decide)] at H; exact H
                          clear H
                          have H := H1
                          clear H1
                          by_cases c25 : x6_2.length < 8796093022208
                          · rw [if_pos c25] at H
                            have LMc25 := Aside0.mk c25
                            clear c25
                            obtain ⟨y320, hy320⟩ : ∃ y_ : List (S41), y_ = (x6_2 ++ [(⟨wrap64 (((rd_T41 x6_2 x7_1).f0) + (Int.tmod (wrap64 (1 - x8_2)) 2)), wrap64 (((rd_T41 x6_2 x7_1).f1) + (Int.tmod (wrap64 (2 - x8_2)) 2))⟩ : S41)]) := ⟨_, rfl⟩
                            replace H : (spec_l5Outside.l1 k2 t306 t307 t308 y320 x7_1 (wrap64 (x8_2 + 1))) = some r := by first | (rw [hy320]; with_reducible exact H) | (have H2_ := (Option.bind_some _ _).symm.trans H; rw [hy320]; with_reducible exact H2_) | (have H2_ := (Option.bind_some _ _).symm.trans H; with_reducible exact H2_) | with_reducible exact H | (rw [hy320]; exact H) | exact H
                            have Ny320 := Aside0.mk hy320
                            clear hy320
                            have H' := Aside0.mk H
                            clear H
                            obtain ⟨Ao26, co26, eo26⟩ := Kd.R_slice HO_6.out
                            subst eo26
                            have p314 : 0 ≤ (x7_1 : Int) := of_decide_eq_true (by first | (with_reducible assumption) | assumption)
                            have q314 : x7_1 < (x6_2.length : Int) := of_decide_eq_true (by first | (with_reducible assumption) | assumption)
                            obtain ⟨ad314, e314, hx314_0, hx314_1⟩ := at_T41 (Kd.R_reads' HO_6.out).2.2 x7_1 p314 q314
                            cases e314
                            replace p314 := eq_true p314
                            replace q314 := eq_true q314
                            have p315 : 0 ≤ (x7_1 : Int) := of_decide_eq_true (by first | (with_reducible assumption) | assumption)
                            have q315 : x7_1 < (x6_2.length : Int) := of_decide_eq_true (by first | (with_reducible assumption) | assumption)
                            obtain ⟨ad315, e315, hx315_0, hx315_1⟩ := at_T41 (Kd.R_reads' HO_6.out).2.2 x7_1 p315 q315
                            obtain rfl : ad314 = ad315 := (by injection e315)
                            replace p315 := eq_true p315
                            replace q315 := eq_true q315
                            go_wp2_with (first | ((with_reducible refine gate_callee (f := 47) rfl ?_); refine goesL_ (some 50) rfl rfl Try.func47 (by kernel_rfl) rfl #[.int .i64 (wrap64 (((rd_T41 x6_2 x7_1).f0) + (Int.tmod (wrap64 (1 - x8_2)) 2))), .int .i64 (-1), .int .i64 t306] rfl (by (try simp only [List.map_toArray, List.map_cons, List.map_nil]); first | done | rfl | (simp only [List.length_drop, List.length_take]; rfl)) ?_; (with_reducible refine (spec_l1In.calls (wrap64 (((rd_T41 x6_2 x7_1).f0) + (Int.tmod (wrap64 (1 - x8_2)) 2))) (-1) t306 true _ A13.out).mono ?_); rintro e w' ⟨rfl, ⟨nd, rfl⟩⟩; refine ⟨_, rfl, ?_⟩) | (go_at_call 47; (with_reducible refine (spec_l1In.calls (wrap64 (((rd_T41 x6_2 x7_1).f1) + (Int.tmod (wrap64 (2 - x8_2)) 2))) (-1) t307 true _ A15.out).mono ?_); rintro e w' ⟨rfl, ⟨nd, rfl⟩⟩; obtain ⟨Ao27, co27, eo27⟩ := Kd.R_slice HO_5.out; subst eo27) | (go_at_call 40; (with_reducible refine (spec_HasCell.calls _ _ t308 (wrap64 (((rd_T41 x6_2 x7_1).f0) + (Int.tmod (wrap64 (1 - x8_2)) 2))) (wrap64 (((rd_T41 x6_2 x7_1).f1) + (Int.tmod (wrap64 (2 - x8_2)) 2))) false _ ?side1 ?side2 A17.out).mono ?_); (case side1 => repeat (first | exact (Kd.R_reads' HO_5.out).2.2 | (with_reducible refine Kd.C_alloc ?_ _) | (with_reducible refine Kd.C_drewN ?_ _) | (with_reducible refine Kd.C_drew ?_))); (case side2 => exact (Kd.R_reads' HO_5.out).2.1); rintro e w' ⟨rfl, ⟨nd, rfl⟩⟩) | (go_at_call 40; (with_reducible refine (spec_HasCell.calls _ _ x6_2 (wrap64 (((rd_T41 x6_2 x7_1).f0) + (Int.tmod (wrap64 (1 - x8_2)) 2))) (wrap64 (((rd_T41 x6_2 x7_1).f1) + (Int.tmod (wrap64 (2 - x8_2)) 2))) false _ ?side1 ?side2 A21.out).mono ?_); (case side1 => repeat (first | exact (Kd.R_reads' HO_6.out).2.2 | (with_reducible refine Kd.C_alloc ?_ _) | (with_reducible refine Kd.C_drewN ?_ _) | (with_reducible refine Kd.C_drew ?_))); (case side2 => exact (Kd.R_reads' HO_6.out).2.1); rintro e w' ⟨rfl, ⟨nd, rfl⟩⟩) | ((with_reducible refine gate_builtin (b := .append) (xs := #[.tmp 70, .tmp 74]) rfl ?_); at_builtin; refine Kd.R_append k41 (w0 := w) w.heap.size rfl (.tmp 70) (.tmp 74) 24 41 (.agg #[(.int .i64 0), (.int .i64 0)]) 16 rfl Try.underlying24 info41 rfl (by decide) (by omega) (.slice (some ad314) x6_2.length co26) x6_2 (⟨wrap64 (((rd_T41 x6_2 x7_1).f0) + (Int.tmod (wrap64 (1 - x8_2)) 2)), wrap64 (((rd_T41 x6_2 x7_1).f1) + (Int.tmod (wrap64 (2 - x8_2)) 2))⟩ : S41) [.int .i64 (wrap64 (((rd_T41 x6_2 x7_1).f0) + (Int.tmod (wrap64 (1 - x8_2)) 2))), .int .i64 (wrap64 (((rd_T41 x6_2 x7_1).f1) + (Int.tmod (wrap64 (2 - x8_2)) 2)))] (fun k_ => some k_ ≠ (.slice Ao27 t308.length co27 : Value).ownBlock) (fun _ => False) rfl rfl ?aP (fun _ hk => hk.elim) ?aF ?aO ?aB ?aS ?aL ?_; (case aP => exact k41_mkM _ _ _ (⟨wrap64 (((rd_T41 x6_2 x7_1).f0) + (Int.tmod (wrap64 (1 - x8_2)) 2)), wrap64 (((rd_T41 x6_2 x7_1).f1) + (Int.tmod (wrap64 (2 - x8_2)) 2))⟩ : S41)); (case aB => exact (by repeat (first | (with_reducible first | exact HB.out | apply below_alloc | apply pw_below_drewN | apply below_drew1) | exact HB.out))); (case aF => exact (fun k_ hk => Kd.fresh' (Kd.R_lt (by (with_reducible repeat (first | apply Kd.R_alloc | apply Kd.R_drewN | apply Kd.R_drew)); exact HO_5.out)) k_ hk)); (case aO => exact (by (with_reducible repeat (first | apply Kd.R_alloc | apply Kd.R_drewN | apply Kd.R_drew)); exact HO_6.out)); (case aS => exact (below_size (by repeat (first | (with_reducible first | exact HB.out | apply below_alloc | apply pw_below_drewN | apply below_drew1) | exact HB.out)))); (case aL => have := LMc25.out; omega); intro v321 w28 ho hb hg hat; rw [← Ny320.out] at ho; have n0_ := Aside0.mk (Kd.R_after (ok := (fun _ => True)) (by (with_reducible repeat (first | apply Kd.R_alloc | apply Kd.R_drewN | apply Kd.R_drew)); exact Kd.R_mono HO_5.out (fun _ hk => ⟨trivial, hk⟩)) hg hat); have n1_ := Aside0.mk (hb); have n2_ := Aside0.mk (ho); clear HO_5; clear HB; clear HO_6; have HO_5 := n0_; have HB := n1_; have HO322 := n2_; clear n0_ n1_ n2_; clear ho hb hg hat))
                            go_roundg k2
                            case measure => have := HK1.out; have := HK2.out; omega
                            case rel => exact ⟨(y320), (wrap64 (x8_2 + 1)), (by first | rfl | (simp; done) | (simp [*]; done)), H', ⟨by have := HK1.out; have := HK2.out; omega⟩, ⟨by (with_reducible repeat (first | apply Kd.R_alloc | apply Kd.R_drewN | apply Kd.R_drew)); exact Kd.R_mono HO_5.out (fun _ hk => hk.2)⟩, ⟨by (with_reducible repeat (first | apply Kd.R_alloc | apply Kd.R_drewN | apply Kd.R_drew)); exact HO322.out⟩, ⟨by repeat (first | (with_reducible first | exact HB.out | apply below_alloc | apply pw_below_drewN | apply below_drew1) | exact HB.out)⟩⟩
                          · rw [if_neg c25] at H
                            exact absurd H (by simp)
                    · replace c16 := Bool.eq_false_iff.mpr c16
                      subst c16
                      have H1 : (spec_l5Outside.l1 k2 t306 t307 t308 x6_2 x7_1 (wrap64 (x8_2 + 1))) = some r := by rw [if_neg (show ¬ (false = true) by decide)] at H; exact H
                      clear H
                      have H := H1
                      clear H1
                      have H' := Aside0.mk H
                      clear H
                      obtain ⟨Ao29, co29, eo29⟩ := Kd.R_slice HO_6.out
                      subst eo29
                      have p314 : 0 ≤ (x7_1 : Int) := of_decide_eq_true (by first | (with_reducible assumption) | assumption)
                      have q314 : x7_1 < (x6_2.length : Int) := of_decide_eq_true (by first | (with_reducible assumption) | assumption)
                      obtain ⟨ad314, e314, hx314_0, hx314_1⟩ := at_T41 (Kd.R_reads' HO_6.out).2.2 x7_1 p314 q314
                      cases e314
                      replace p314 := eq_true p314
                      replace q314 := eq_true q314
                      have p315 : 0 ≤ (x7_1 : Int) := of_decide_eq_true (by first | (with_reducible assumption) | assumption)
                      have q315 : x7_1 < (x6_2.length : Int) := of_decide_eq_true (by first | (with_reducible assumption) | assumption)
                      obtain ⟨ad315, e315, hx315_0, hx315_1⟩ := at_T41 (Kd.R_reads' HO_6.out).2.2 x7_1 p315 q315
                      obtain rfl : ad314 = ad315 := (by injection e315)
                      replace p315 := eq_true p315
                      replace q315 := eq_true q315
                      go_wp2_with (first | ((with_reducible refine gate_callee (f := 47) rfl ?_); refine goesL_ (some 50) rfl rfl Try.func47 (by kernel_rfl) rfl #[.int .i64 (wrap64 (((rd_T41 x6_2 x7_1).f0) + (Int.tmod (wrap64 (1 - x8_2)) 2))), .int .i64 (-1), .int .i64 t306] rfl (by (try simp only [List.map_toArray, List.map_cons, List.map_nil]); first | done | rfl | (simp only [List.length_drop, List.length_take]; rfl)) ?_; (with_reducible refine (spec_l1In.calls (wrap64 (((rd_T41 x6_2 x7_1).f0) + (Int.tmod (wrap64 (1 - x8_2)) 2))) (-1) t306 true _ A13.out).mono ?_); rintro e w' ⟨rfl, ⟨nd, rfl⟩⟩; refine ⟨_, rfl, ?_⟩) | (go_at_call 47; (with_reducible refine (spec_l1In.calls (wrap64 (((rd_T41 x6_2 x7_1).f1) + (Int.tmod (wrap64 (2 - x8_2)) 2))) (-1) t307 false _ A15.out).mono ?_); rintro e w' ⟨rfl, ⟨nd, rfl⟩⟩))
                      go_roundg k2
                      case measure => have := HK1.out; have := HK2.out; omega
                      case rel => exact ⟨(x6_2), (wrap64 (x8_2 + 1)), (by first | rfl | (simp; done) | (simp [*]; done)), H', ⟨by have := HK1.out; have := HK2.out; omega⟩, ⟨by (with_reducible repeat (first | apply Kd.R_alloc | apply Kd.R_drewN | apply Kd.R_drew)); exact HO_5.out⟩, ⟨by (with_reducible repeat (first | apply Kd.R_alloc | apply Kd.R_drewN | apply Kd.R_drew)); exact HO_6.out⟩, ⟨by repeat (first | (with_reducible first | exact HB.out | apply below_alloc | apply pw_below_drewN | apply below_drew1) | exact HB.out)⟩⟩
                  · replace c14 := Bool.eq_false_iff.mpr c14
                    subst c14
                    have H1 : (spec_l5Outside.l1 k2 t306 t307 t308 x6_2 x7_1 (wrap64 (x8_2 + 1))) = some r := by rw [if_neg (show ¬ (false = true) by decide)] at H; exact H
                    clear H
                    have H := H1
                    clear H1
                    have H' := Aside0.mk H
                    clear H
                    obtain ⟨Ao30, co30, eo30⟩ := Kd.R_slice HO_6.out
                    subst eo30
                    have p314 : 0 ≤ (x7_1 : Int) := of_decide_eq_true (by first | (with_reducible assumption) | assumption)
                    have q314 : x7_1 < (x6_2.length : Int) := of_decide_eq_true (by first | (with_reducible assumption) | assumption)
                    obtain ⟨ad314, e314, hx314_0, hx314_1⟩ := at_T41 (Kd.R_reads' HO_6.out).2.2 x7_1 p314 q314
                    cases e314
                    replace p314 := eq_true p314
                    replace q314 := eq_true q314
                    have p315 : 0 ≤ (x7_1 : Int) := of_decide_eq_true (by first | (with_reducible assumption) | assumption)
                    have q315 : x7_1 < (x6_2.length : Int) := of_decide_eq_true (by first | (with_reducible assumption) | assumption)
                    obtain ⟨ad315, e315, hx315_0, hx315_1⟩ := at_T41 (Kd.R_reads' HO_6.out).2.2 x7_1 p315 q315
                    obtain rfl : ad314 = ad315 := (by injection e315)
                    replace p315 := eq_true p315
                    replace q315 := eq_true q315
                    go_wp2_with (first | ((with_reducible refine gate_callee (f := 47) rfl ?_); refine goesL_ (some 50) rfl rfl Try.func47 (by kernel_rfl) rfl #[.int .i64 (wrap64 (((rd_T41 x6_2 x7_1).f0) + (Int.tmod (wrap64 (1 - x8_2)) 2))), .int .i64 (-1), .int .i64 t306] rfl (by (try simp only [List.map_toArray, List.map_cons, List.map_nil]); first | done | rfl | (simp only [List.length_drop, List.length_take]; rfl)) ?_; (with_reducible refine (spec_l1In.calls (wrap64 (((rd_T41 x6_2 x7_1).f0) + (Int.tmod (wrap64 (1 - x8_2)) 2))) (-1) t306 false _ A13.out).mono ?_); rintro e w' ⟨rfl, ⟨nd, rfl⟩⟩; refine ⟨_, rfl, ?_⟩))
                    go_roundg k2
                    case measure => have := HK1.out; have := HK2.out; omega
                    case rel => exact ⟨(x6_2), (wrap64 (x8_2 + 1)), (by first | rfl | (simp; done) | (simp [*]; done)), H', ⟨by have := HK1.out; have := HK2.out; omega⟩, ⟨by (with_reducible repeat (first | apply Kd.R_alloc | apply Kd.R_drewN | apply Kd.R_drew)); exact HO_5.out⟩, ⟨by (with_reducible repeat (first | apply Kd.R_alloc | apply Kd.R_drewN | apply Kd.R_drew)); exact HO_6.out⟩, ⟨by repeat (first | (with_reducible first | exact HB.out | apply below_alloc | apply pw_below_drewN | apply below_drew1) | exact HB.out)⟩⟩
                · rw [if_neg c12] at H
                  exact absurd H (by simp)
              · rw [if_neg c11] at H
                exact absurd H (by simp)
            · rw [if_neg c10] at H
              have c10b0 : decide (x8_2 < 4) = false := decide_eq_false c10
              clear c10
              have H' := Aside0.mk H
              clear H
              go_wp2
              go_roundg k2
              case measure => have := HK1.out; have := HK2.out; omega
              case rel => exact ⟨(x6_2), (wrap64 (x7_1 + 1)), (by first | rfl | (simp; done) | (simp [*]; done)), H', ⟨by have := HK1.out; have := HK2.out; omega⟩, ⟨by (with_reducible repeat (first | apply Kd.R_alloc | apply Kd.R_drewN | apply Kd.R_drew)); exact HO_5.out⟩, ⟨by (with_reducible repeat (first | apply Kd.R_alloc | apply Kd.R_drewN | apply Kd.R_drew)); exact HO_6.out⟩, ⟨by repeat (first | (with_reducible first | exact HB.out | apply below_alloc | apply pw_below_drewN | apply below_drew1) | exact HB.out)⟩⟩
      · rw [if_neg c8] at H
        have c8b0 : decide (x7_1 < (x6_1.length : Int)) = false := decide_eq_false c8
        clear c8
        obtain rfl := Option.some.inj H
        obtain ⟨Ao31, co31, eo31⟩ := Kd.R_slice HO_6.out
        subst eo31
        go_wp2
        go_ret
        exact ⟨_, by first | rfl | (simp [errW_none, errW_some] <;> rfl) | (simp [*, errW_none, errW_some] <;> rfl), by (with_reducible repeat (first | apply Kd.R_alloc | apply Kd.R_drewN | apply Kd.R_drew)); exact Kd.R_mono HO_6.out (fun _ hk => trivial), by repeat (first | (with_reducible first | exact HB.out | apply below_alloc | apply pw_below_drewN | apply below_drew1) | exact HB.out)⟩
end Go.Proofs.Ytlohfeicfhmlmaa.PFnOutlines
