/- A part of the proof that the law answers true for every input; this part bears lemmas that hold with no condition beyond those that each of them names. -/
import Derived.Test.YtlohfeicfhmlmaaZ3
set_option linter.unusedVariables false
set_option linter.unusedSimpArgs false
namespace Go.Proofs.Ytlohfeicfhmlmaa.PFnOutlines
open Go.RowKit Go.Proofs.YtlohfeicfhmlmaaW.PrintWords Go.Proofs.YtlohfeicfhmlmaaW.PrintLast Go.Proofs.YtlohfeicfhmlmaaW.PrintMore ETool
def adj4 (u v a b : Int) : Prop := (a = u + 1 ∧ b = v) ∨ (a = u - 1 ∧ b = v) ∨ (a = u ∧ b = v + 1) ∨ (a = u ∧ b = v - 1)
inductive Rch (F : Int → Int → Prop) (x y : Int) : Int → Int → Prop
  | base : F x y → Rch F x y x y
  | step {u v a b : Int} : Rch F x y u v → adj4 u v a b → F a b → Rch F x y a b
theorem adj4_symm {u v a b : Int} (h : adj4 u v a b) : adj4 a b u v := by unfold adj4 at *; omega
section
variable {F G : Int → Int → Prop} {x y u v a b : Int}
theorem Rch.left (h : Rch F x y u v) : F x y := by induction h with
  | base h => exact h
  | step _ _ _ ih => exact ih
theorem Rch.right (h : Rch F x y u v) : F u v := by cases h with
  | base h => exact h
  | step _ _ h => exact h
theorem Rch.trans (h : Rch F x y u v) (k : Rch F u v a b) : Rch F x y a b := by induction k with
  | base _ => exact h
  | step _ e f ih => exact .step ih e f
theorem Rch.symm (h : Rch F x y u v) : Rch F u v x y := by induction h with
  | base h => exact .base h
  | step h e f ih => exact (Rch.step (.base f) (adj4_symm e) h.right).trans ih
theorem Rch.mono (hFG : ∀ u v, F u v → G u v) (h : Rch F x y u v) : Rch G x y u v := by induction h with
  | base h => exact .base (hFG _ _ h)
  | step _ e f ih => exact .step ih e (hFG _ _ f)
theorem Rch.goR : ∀ n : Nat, (∀ t : Int, x ≤ t → t ≤ x + n → F t y) → Rch F x y (x + n) y
  | 0, h => by rw [show x + ((0 : Nat) : Int) = x by omega]; exact .base (h x (by omega) (by omega))
  | n + 1, h => .step (Rch.goR n fun t h1 h2 => h t h1 (by omega)) (by unfold adj4; omega) (h _ (by omega) (by omega))
theorem Rch.goD : ∀ n : Nat, (∀ t : Int, y ≤ t → t ≤ y + n → F x t) → Rch F x y x (y + n)
  | 0, h => by rw [show y + ((0 : Nat) : Int) = y by omega]; exact .base (h y (by omega) (by omega))
  | n + 1, h => .step (Rch.goD n fun t h1 h2 => h t h1 (by omega)) (by unfold adj4; omega) (h _ (by omega) (by omega))
theorem Rch.row (h1 : x ≤ u) (h : ∀ t : Int, x ≤ t → t ≤ u → F t y) : Rch F x y u y := by
  have := Rch.goR (F := F) (x := x) (y := y) (u - x).toNat fun t a b => h t a (by omega)
  rwa [show x + ((u - x).toNat : Int) = u by omega] at this
theorem Rch.col (h1 : y ≤ v) (h : ∀ t : Int, y ≤ t → t ≤ v → F x t) : Rch F x y x v := by
  have := Rch.goD (F := F) (x := x) (y := y) (v - y).toNat fun t a b => h t a (by omega)
  rwa [show y + ((v - y).toNat : Int) = v by omega] at this
end
def Fr (l : List S41) (x y : Int) : Prop := hasB l x y = false
theorem Fr_iff {l : List S41} {x y : Int} : Fr l x y ↔ (⟨x, y⟩ : S41) ∉ l := by
  unfold Fr
  rw [← hasB_iff, Bool.not_eq_true]
def outI (l : List S41) (u v : Int) : Prop := (∀ c ∈ l, u < c.f0) ∨ (∀ c ∈ l, c.f0 < u) ∨ (∀ c ∈ l, v < c.f1) ∨ (∀ c ∈ l, c.f1 < v)
def Esc (l : List S41) (x y : Int) : Prop := ∃ u v, Rch (Fr l) x y u v ∧ outI l u v
theorem Esc.left {l : List S41} {x y : Int} (h : Esc l x y) : Fr l x y := by obtain ⟨u, v, h, _⟩ := h; exact h.left
theorem Esc.of {l : List S41} {x y u v : Int} (h : Rch (Fr l) x y u v) (k : Esc l u v) : Esc l x y := by
  obtain ⟨a, b, k1, k2⟩ := k
  exact ⟨a, b, h.trans k1, k2⟩
/-- A box around all cells. -/
structure Bxd (l : List S41) (p0 p1 q0 q1 : Int) : Prop where
  hp : p0 ≤ p1
  hq : q0 ≤ q1
  all : ∀ c ∈ l, p0 ≤ c.f0 ∧ c.f0 ≤ p1 ∧ q0 ≤ c.f1 ∧ c.f1 ≤ q1
def inB4 (p0 p1 q0 q1 x y : Int) : Prop := p0 ≤ x ∧ x ≤ p1 ∧ q0 ≤ y ∧ y ≤ q1
def Gb (l : List S41) (p0 p1 q0 q1 x y : Int) : Prop := (p0 - 1 ≤ x ∧ x ≤ p1 + 1 ∧ q0 - 1 ≤ y ∧ y ≤ q1 + 1) ∧ Fr l x y
def rim (p0 p1 q0 q1 x y : Int) : Prop := (p0 - 1 ≤ x ∧ x ≤ p1 + 1 ∧ q0 - 1 ≤ y ∧ y ≤ q1 + 1) ∧ ¬ inB4 p0 p1 q0 q1 x y
section
variable {l : List S41} {p0 p1 q0 q1 : Int} (B : Bxd l p0 p1 q0 q1)
include B
theorem Bxd.free {x y : Int} (h : ¬ inB4 p0 p1 q0 q1 x y) : Fr l x y := Fr_iff.mpr fun hc => h (B.all _ hc)
theorem Bxd.out {x y : Int} (h : ¬ inB4 p0 p1 q0 q1 x y) : outI l x y := by
  unfold inB4 at h
  by_cases h1 : p0 ≤ x
  · by_cases h2 : x ≤ p1
    · by_cases h3 : q0 ≤ y
      · exact .inr (.inr (.inr fun c hc => by have := B.all c hc; omega))
      · exact .inr (.inr (.inl fun c hc => by have := B.all c hc; omega))
    · exact .inr (.inl fun c hc => by have := B.all c hc; omega)
  · exact .inl fun c hc => by have := B.all c hc; omega
theorem Bxd.rim_free {x y : Int} (h1 : p0 - 1 ≤ x ∧ x ≤ p1 + 1 ∧ q0 - 1 ≤ y ∧ y ≤ q1 + 1) (h2 : ¬ inB4 p0 p1 q0 q1 x y) : Gb l p0 p1 q0 q1 x y := ⟨h1, B.free h2⟩
theorem Bxd.ring {x y : Int} (h : rim p0 p1 q0 q1 x y) : Rch (Gb l p0 p1 q0 q1) (p0 - 1) (q0 - 1) x y := by
  obtain ⟨h1, h2⟩ := h
  have hp := B.hp
  have hq := B.hq
  have top : ∀ u, p0 - 1 ≤ u → u ≤ p1 + 1 → Rch (Gb l p0 p1 q0 q1) (p0 - 1) (q0 - 1) u (q0 - 1) := fun u a b => Rch.row a fun t c d => B.rim_free (by omega) (by unfold inB4; omega)
  have lef : ∀ u, q0 - 1 ≤ u → u ≤ q1 + 1 → Rch (Gb l p0 p1 q0 q1) (p0 - 1) (q0 - 1) (p0 - 1) u := fun u a b => Rch.col a fun t c d => B.rim_free (by omega) (by unfold inB4; omega)
  have hc : x = p0 - 1 ∨ x = p1 + 1 ∨ y = q0 - 1 ∨ y = q1 + 1 := by unfold inB4 at h2; omega
  rcases hc with rfl | rfl | rfl | rfl
  · exact lef y (by omega) (by omega)
  · exact (top (p1 + 1) (by omega) (by omega)).trans (Rch.col (by omega) fun t c d => B.rim_free (by omega) (by unfold inB4; omega))
  · exact top x (by omega) (by omega)
  · exact (lef (q1 + 1) (by omega) (by omega)).trans (Rch.row (by omega) fun t c d => B.rim_free (by omega) (by unfold inB4; omega))
theorem Bxd.exit {x y u v : Int} (hx : p0 - 1 ≤ x ∧ x ≤ p1 + 1 ∧ q0 - 1 ≤ y ∧ y ≤ q1 + 1) (h : Rch (Fr l) x y u v) : (Rch (Gb l p0 p1 q0 q1) x y u v ∧ inB4 p0 p1 q0 q1 u v) ∨ ∃ a b, rim p0 p1 q0 q1 a b ∧ Rch (Gb l p0 p1 q0 q1) x y a b := by
  have _ := B
  induction h with
  | base h =>
    by_cases hi : inB4 p0 p1 q0 q1 x y
    · exact .inl ⟨.base ⟨hx, h⟩, hi⟩
    · exact .inr ⟨x, y, ⟨hx, hi⟩, .base ⟨hx, h⟩⟩
  | step h e f ih =>
    rename_i u v a b
    rcases ih with ⟨k, hi⟩ | k
    · have hf : p0 - 1 ≤ a ∧ a ≤ p1 + 1 ∧ q0 - 1 ≤ b ∧ b ≤ q1 + 1 := by unfold adj4 at e; unfold inB4 at hi; omega
      by_cases hb : inB4 p0 p1 q0 q1 a b
      · exact .inl ⟨.step k e ⟨hf, f⟩, hb⟩
      · exact .inr ⟨a, b, ⟨hf, hb⟩, .step k e ⟨hf, f⟩⟩
    · exact .inr k
theorem Bxd.far {u v : Int} (h : outI l u v) : ∃ u' v', Rch (Fr l) u v u' v' ∧ ¬ inB4 p0 p1 q0 q1 u' v' := by
  rcases h with h | h | h | h
  · by_cases hi : u < p0
    · exact ⟨u, v, .base (B.free (by unfold inB4; omega)), by unfold inB4; omega⟩
    · refine ⟨p0 - 1, v, (Rch.row (by omega) fun t c d => Fr_iff.mpr fun hc => ?_).symm, by unfold inB4; omega⟩
      have := h _ hc
      simp only at this
      omega
  · by_cases hi : p1 < u
    · exact ⟨u, v, .base (B.free (by unfold inB4; omega)), by unfold inB4; omega⟩
    · refine ⟨p1 + 1, v, Rch.row (by omega) fun t c d => Fr_iff.mpr fun hc => ?_, by unfold inB4; omega⟩
      have := h _ hc
      simp only at this
      omega
  · by_cases hi : v < q0
    · exact ⟨u, v, .base (B.free (by unfold inB4; omega)), by unfold inB4; omega⟩
    · refine ⟨u, q0 - 1, (Rch.col (by omega) fun t c d => Fr_iff.mpr fun hc => ?_).symm, by unfold inB4; omega⟩
      have := h _ hc
      simp only at this
      omega
  · by_cases hi : q1 < v
    · exact ⟨u, v, .base (B.free (by unfold inB4; omega)), by unfold inB4; omega⟩
    · refine ⟨u, q1 + 1, Rch.col (by omega) fun t c d => Fr_iff.mpr fun hc => ?_, by unfold inB4; omega⟩
      have := h _ hc
      simp only at this
      omega
theorem Bxd.frame_iff {x y : Int} (hx : p0 - 1 ≤ x ∧ x ≤ p1 + 1 ∧ q0 - 1 ≤ y ∧ y ≤ q1 + 1) : Rch (Gb l p0 p1 q0 q1) (p0 - 1) (q0 - 1) x y ↔ Esc l x y := by
  constructor
  · intro h
    exact ⟨_, _, (h.mono fun _ _ k => k.2).symm, B.out (by unfold inB4; omega)⟩
  · rintro ⟨u, v, h1, h2⟩
    obtain ⟨u', v', h3, h4⟩ := B.far h2
    rcases B.exit hx (h1.trans h3) with ⟨_, k⟩ | ⟨a, b, k1, k2⟩
    · exact absurd k h4
    · exact (B.ring k1).trans k2.symm
theorem Bxd.hole_in {x y : Int} (h1 : Fr l x y) (h2 : ¬ Esc l x y) : inB4 p0 p1 q0 q1 x y := by
  apply Classical.byContradiction
  intro h
  exact h2 ⟨x, y, .base h1, B.out h⟩
theorem Bxd.hole_rch {x y u v : Int} (h2 : ¬ Esc l x y) (h : Rch (Fr l) x y u v) : Rch (Gb l p0 p1 q0 q1) x y u v ∧ ¬ Esc l u v := by
  induction h with
  | base h => exact ⟨.base ⟨by have := B.hole_in h h2; unfold inB4 at this; omega, h⟩, h2⟩
  | step h e f ih =>
    rename_i u v a b
    have hne : ¬ Esc l a b := fun k => h2 (Esc.of (Rch.step h e f) k)
    exact ⟨.step ih.1 e ⟨by have := B.hole_in f hne; unfold inB4 at this; omega, f⟩, hne⟩
end
/-- The first place of a hole, by rows. -/
def Lead (l : List S41) (x y : Int) : Prop := Fr l x y ∧ ¬ Esc l x y ∧ ∀ u v : Int, (v < y ∨ (v = y ∧ u < x)) → ¬ Rch (Fr l) u v x y
def HolN (l : List S41) (n : Int) : Prop := ∃ L : List S41, L.Nodup ∧ (∀ x y : Int, (⟨x, y⟩ : S41) ∈ L ↔ Lead l x y) ∧ (L.length : Int) = n
theorem HolN.uniq {l : List S41} {n m : Int} (h : HolN l n) (k : HolN l m) : n = m := by
  obtain ⟨L, h1, h2, h3⟩ := h
  obtain ⟨M, k1, k2, k3⟩ := k
  have := (nodup_perm h1 k1 (fun c hc => (k2 c.f0 c.f1).mpr ((h2 c.f0 c.f1).mp hc)) (fun c hc => (h2 c.f0 c.f1).mpr ((k2 c.f0 c.f1).mp hc))).length_eq
  omega
/-- A place all of whose neighbours are cells is a hole. -/
theorem holeAt_lead {l : List S41} {x y : Int} (h0 : Fr l x y) (h1 : hasB l (x + 1) y = true) (h2 : hasB l (x - 1) y = true) (h3 : hasB l x (y + 1) = true) (h4 : hasB l x (y - 1) = true) : Lead l x y := by
  have key : ∀ u v, Rch (Fr l) x y u v → u = x ∧ v = y := by
    intro u v h
    induction h with
    | base _ => exact ⟨rfl, rfl⟩
    | step h e f ih =>
      obtain ⟨rfl, rfl⟩ := ih
      exfalso
      unfold Fr at f
      rcases e with ⟨rfl, rfl⟩ | ⟨rfl, rfl⟩ | ⟨rfl, rfl⟩ | ⟨rfl, rfl⟩
      · rw [f] at h1; cases h1
      · rw [f] at h2; cases h2
      · rw [f] at h3; cases h3
      · rw [f] at h4; cases h4
  refine ⟨h0, ?_, ?_⟩
  · rintro ⟨u, v, h, ho⟩
    obtain ⟨rfl, rfl⟩ := key u v h
    rw [hasB_iff] at h1 h2 h3 h4
    rcases ho with ho | ho | ho | ho
    · have := ho _ h2; simp only at this; omega
    · have := ho _ h1; simp only at this; omega
    · have := ho _ h4; simp only at this; omega
    · have := ho _ h3; simp only at this; omega
  · intro u v huv h
    obtain ⟨rfl, rfl⟩ := key u v h.symm
    omega
theorem HolN.pos {l : List S41} {n : Int} (h : HolN l n) {x y : Int} (k : Lead l x y) : 0 < n := by
  obtain ⟨L, h1, h2, h3⟩ := h
  have := List.length_pos_of_mem ((h2 x y).mpr k)
  omega
/-- Where rows have no gaps there are no holes. -/
theorem row_escape {l : List S41} (h : RF l) {x y : Int} (hf : Fr l x y) : Esc l x y := by
  have key : (∀ c ∈ l, c.f1 = y → x < c.f0) ∨ (∀ c ∈ l, c.f1 = y → c.f0 < x) := by
    apply Classical.byContradiction
    intro hno
    obtain ⟨h1, h2⟩ := not_or.mp hno
    have h1' : ∃ a, a ∈ l ∧ a.f1 = y ∧ a.f0 ≤ x := by
      apply Classical.byContradiction
      intro hh
      exact h1 fun c hc e => by
        apply Classical.byContradiction
        intro hlt
        exact hh ⟨c, hc, e, by omega⟩
    have h2' : ∃ a, a ∈ l ∧ a.f1 = y ∧ x ≤ a.f0 := by
      apply Classical.byContradiction
      intro hh
      exact h2 fun c hc e => by
        apply Classical.byContradiction
        intro hlt
        exact hh ⟨c, hc, e, by omega⟩
    obtain ⟨a, ha, ha1, ha2⟩ := h1'
    obtain ⟨b, hb, hb1, hb2⟩ := h2'
    obtain ⟨i, i0, i1, rfl⟩ := mem_rd ha
    obtain ⟨j, j0, j1, rfl⟩ := mem_rd hb
    have hxa : (rd_T41 l i).f0 ≠ x := by
      intro e
      rw [Fr_iff] at hf
      refine hf ?_
      have := rd_mem i0 i1
      rwa [show rd_T41 l i = ⟨x, y⟩ by cases hh : rd_T41 l i; rw [hh] at e ha1; simp only at e ha1; rw [e, ha1]] at this
    have hxb : (rd_T41 l j).f0 ≠ x := by
      intro e
      rw [Fr_iff] at hf
      refine hf ?_
      have := rd_mem j0 j1
      rwa [show rd_T41 l j = ⟨x, y⟩ by cases hh : rd_T41 l j; rw [hh] at e hb1; simp only at e hb1; rw [e, hb1]] at this
    have := h i j i0 i1 j0 j1 (by rw [ha1, hb1]) x (by omega) (by omega)
    rw [ha1] at this
    unfold Fr at hf
    rw [hf] at this
    cases this
  have hbd : ∃ m : Int, ∀ c ∈ l, -m < c.f0 ∧ c.f0 < m := by
    clear h hf key
    induction l with
    | nil => exact ⟨0, fun c hc => by cases hc⟩
    | cons d l ih =>
      obtain ⟨m, hm⟩ := ih
      refine ⟨max m (max (d.f0 + 1) (1 - d.f0)), fun c hc => ?_⟩
      rcases List.mem_cons.mp hc with rfl | hc
      · omega
      · have := hm c hc
        omega
  obtain ⟨m, hm⟩ := hbd
  rcases key with k | k
  · by_cases hx : x < -m
    · exact ⟨x, y, .base hf, .inl fun c hc => by have := hm c hc; omega⟩
    · refine ⟨-m, y, (Rch.row (by omega) fun t a b => Fr_iff.mpr fun hc => ?_).symm, .inl fun c hc => by have := hm c hc; omega⟩
      have := k _ hc rfl
      simp only at this
      omega
  · by_cases hx : m < x
    · exact ⟨x, y, .base hf, .inr (.inl fun c hc => by have := hm c hc; omega)⟩
    · refine ⟨m, y, Rch.row (by omega) fun t a b => Fr_iff.mpr fun hc => ?_, .inr (.inl fun c hc => by have := hm c hc; omega)⟩
      have := k _ hc rfl
      simp only at this
      omega
theorem HolN.row {l : List S41} {n : Int} (h : RF l) (hn : HolN l n) : n = 0 := by
  obtain ⟨L, h1, h2, h3⟩ := hn
  cases L with
  | nil => rw [← h3]; rfl
  | cons c L =>
    have := (h2 c.f0 c.f1).mp (by simp)
    exact absurd (row_escape h this.1) this.2.1
end Go.Proofs.Ytlohfeicfhmlmaa.PFnOutlines

namespace Go.Proofs.Ytlohfeicfhmlmaa.PFnOutlines
open Go.RowKit Go.Proofs.YtlohfeicfhmlmaaW.PrintWords Go.Proofs.YtlohfeicfhmlmaaW.PrintLast Go.Proofs.YtlohfeicfhmlmaaW.PrintMore ETool
def mnF (f : S41 → Int) : List S41 → Int
  | [] => 0
  | c :: zs => zs.foldl (fun m d => if f d < m then f d else m) (f c)
theorem mnF_snoc (f : S41 → Int) {zs : List S41} (h : zs ≠ []) (c : S41) : mnF f (zs ++ [c]) = if f c < mnF f zs then f c else mnF f zs := by
  cases zs with
  | nil => exact absurd rfl h
  | cons d zs =>
    simp only [List.cons_append, mnF, List.foldl_append, List.foldl_cons, List.foldl_nil]
    rfl
theorem foldl_min (f : S41 → Int) : ∀ (zs : List S41) (m : Int), (zs.foldl (fun m d => if f d < m then f d else m) m ≤ m ∧ ∀ c ∈ zs, zs.foldl (fun m d => if f d < m then f d else m) m ≤ f c) ∧ (zs.foldl (fun m d => if f d < m then f d else m) m = m ∨ ∃ c ∈ zs, zs.foldl (fun m d => if f d < m then f d else m) m = f c)
  | [], m => ⟨⟨Int.le_refl _, fun c hc => by cases hc⟩, .inl rfl⟩
  | d :: zs, m => by
    rw [List.foldl_cons]
    obtain ⟨m', hm'⟩ : ∃ m', m' = if f d < m then f d else m := ⟨_, rfl⟩
    have hm : m' ≤ m ∧ m' ≤ f d ∧ (m' = m ∨ m' = f d) := by
      by_cases hd : f d < m
      · rw [if_pos hd] at hm'
        omega
      · rw [if_neg hd] at hm'
        omega
    rw [← hm']
    obtain ⟨⟨h1, h2⟩, h3⟩ := foldl_min f zs m'
    refine ⟨⟨by omega, ?_⟩, ?_⟩
    · intro c hc
      rcases List.mem_cons.mp hc with rfl | hc
      · omega
      · exact h2 c hc
    · rcases h3 with h3 | ⟨c, hc, h3⟩
      · rcases hm.2.2 with e | e
        · exact .inl (h3.trans e)
        · exact .inr ⟨d, by simp, h3.trans e⟩
      · exact .inr ⟨c, by simp [hc], h3⟩
theorem mnF_le (f : S41 → Int) {zs : List S41} {c : S41} (h : c ∈ zs) : mnF f zs ≤ f c := by
  cases zs with
  | nil => cases h
  | cons d zs =>
    obtain ⟨⟨h1, h2⟩, h3⟩ := foldl_min f zs (f d)
    rcases List.mem_cons.mp h with rfl | h
    · exact h1
    · exact h2 c h
theorem mnF_mem (f : S41 → Int) {zs : List S41} (h : zs ≠ []) : ∃ c ∈ zs, mnF f zs = f c := by
  cases zs with
  | nil => exact absurd rfl h
  | cons d zs =>
    obtain ⟨⟨h1, h2⟩, h3⟩ := foldl_min f zs (f d)
    rcases h3 with h3 | ⟨c, hc, h3⟩
    · exact ⟨d, by simp, h3⟩
    · exact ⟨c, by simp [hc], h3⟩
def crnW (l : List S41) : List S41 := l.map fun c => ⟨wrap64 (c.f0 - mnF S41.f0 l), wrap64 (c.f1 - mnF S41.f1 l)⟩
theorem crn1 {l : List S41} (hl : l.length ≤ 1000000) {x y : Int} : ∀ (m : Nat) (i : Int) (out : List S41), 0 ≤ i → i ≤ l.length → l.length ≤ i + m → out = (l.take i.toNat).map (fun c => (⟨wrap64 (c.f0 - x), wrap64 (c.f1 - y)⟩ : S41)) → Ev (fun k => spec_l2Corner.l1 k l out x y i) (l.map fun c => ⟨wrap64 (c.f0 - x), wrap64 (c.f1 - y)⟩)
  | 0, i, out, h0, h1, h2, ho => by
    refine Ev.step (f := fun _ => some out) (fun k => ?_) ?_
    · simp only [spec_l2Corner.l1]
      rw [if_neg (by omega)]
    · rw [ho, show i.toNat = l.length by omega, List.take_length]
      exact Ev.now _
  | m + 1, i, out, h0, h1, h2, ho => by
    by_cases hlt : i < (l.length : Int)
    · have hw : wrap64 (i + 1) = i + 1 := w64 (by omega) (by omega)
      have hol : out.length = i.toNat := by rw [ho, List.length_map, List.length_take]; omega
      refine Ev.step (f := fun k => spec_l2Corner.l1 k l (out ++ [⟨wrap64 ((rd_T41 l i).f0 - x), wrap64 ((rd_T41 l i).f1 - y)⟩]) x y (i + 1)) (fun k => ?_) (crn1 hl m (i + 1) _ (by omega) (by omega) (by omega) ?_)
      · simp only [spec_l2Corner.l1]
        rw [if_pos hlt, if_pos h0, if_pos (by omega), hw]
      · rw [take_succ_rd h0 hlt, List.map_append, ho]
        rfl
    · refine Ev.step (f := fun _ => some out) (fun k => ?_) ?_
      · simp only [spec_l2Corner.l1]
        rw [if_neg hlt]
      · rw [ho, show i.toNat = l.length by omega, List.take_length]
        exact Ev.now _
theorem crn0 {l : List S41} (hl : l.length ≤ 1000000) : ∀ (m : Nat) (i x y : Int), 0 ≤ i → i ≤ l.length → l.length ≤ i + m → x = mnF S41.f0 (l.take i.toNat) → y = mnF S41.f1 (l.take i.toNat) → Ev (fun k => spec_l2Corner.l0 k l [] x y i) (crnW l)
  | m, i, x, y, h0, h1, h2, hx, hy => by
    by_cases hlt : i < (l.length : Int)
    · obtain ⟨m', rfl⟩ : ∃ m', m = m' + 1 := ⟨m - 1, by omega⟩
      have hw : wrap64 (i + 1) = i + 1 := w64 (by omega) (by omega)
      have ht := take_succ_rd h0 hlt
      have ih := fun x y => crn0 hl m' (i + 1) x y (by omega) (by omega) (by omega)
      by_cases hi : i = 0
      · subst hi
        have ht' : l.take ((0 : Int) + 1).toNat = [rd_T41 l 0] := by rw [ht]; rfl
        refine Ev.step (f := fun k => spec_l2Corner.j1 k l [] x y 0 true) (fun k => ?_) ?_
        · simp only [spec_l2Corner.l0]
          rw [if_pos hlt, if_pos trivial]
        · refine Ev.step (f := fun k => spec_l2Corner.l0 k l [] (rd_T41 l 0).f0 (rd_T41 l 0).f1 (0 + 1)) (fun k => ?_) (ih _ _ (by rw [ht']; rfl) (by rw [ht']; rfl))
          simp only [spec_l2Corner.j1]
          rw [if_pos trivial, if_pos h0, if_pos hlt, if_pos trivial, hw]
      · have hne : l.take i.toNat ≠ [] := by
          intro h
          have := congrArg List.length h
          simp only [List.length_take, List.length_nil] at this
          omega
        have ex := mnF_snoc S41.f0 hne (rd_T41 l i)
        have ey := mnF_snoc S41.f1 hne (rd_T41 l i)
        rw [← ht, ← hx] at ex
        rw [← ht, ← hy] at ey
        refine Ev.step (f := fun k => spec_l2Corner.j1 k l [] x y i (decide ((rd_T41 l i).f0 < x))) (fun k => ?_) ?_
        · simp only [spec_l2Corner.l0]
          rw [if_pos hlt, if_neg hi, if_pos h0]
        · by_cases c1 : (rd_T41 l i).f0 < x
          · rw [if_pos c1] at ex
            rw [decide_eq_true c1]
            by_cases c2 : (rd_T41 l i).f1 < y
            · rw [if_pos c2] at ey
              refine Ev.step (f := fun k => spec_l2Corner.l0 k l [] (rd_T41 l i).f0 (rd_T41 l i).f1 (i + 1)) (fun k => ?_) (ih _ _ ex.symm ey.symm)
              simp only [spec_l2Corner.j1]
              rw [if_pos trivial, if_pos h0, if_pos hlt, if_neg hi, if_pos c2, hw]
            · rw [if_neg c2] at ey
              refine Ev.step (f := fun k => spec_l2Corner.l0 k l [] (rd_T41 l i).f0 y (i + 1)) (fun k => ?_) (ih _ _ ex.symm ey.symm)
              simp only [spec_l2Corner.j1]
              rw [if_pos trivial, if_pos h0, if_pos hlt, if_neg hi, if_neg c2, hw]
          · rw [if_neg c1] at ex
            rw [decide_eq_false c1]
            by_cases c2 : (rd_T41 l i).f1 < y
            · rw [if_pos c2] at ey
              refine Ev.step (f := fun k => spec_l2Corner.l0 k l [] x (rd_T41 l i).f1 (i + 1)) (fun k => ?_) (ih _ _ ex.symm ey.symm)
              simp only [spec_l2Corner.j1]
              rw [if_neg (by simp), if_neg hi, if_pos h0, if_pos hlt, if_pos c2, hw]
            · rw [if_neg c2] at ey
              refine Ev.step (f := fun k => spec_l2Corner.l0 k l [] x y (i + 1)) (fun k => ?_) (ih _ _ ex.symm ey.symm)
              simp only [spec_l2Corner.j1]
              rw [if_neg (by simp), if_neg hi, if_pos h0, if_pos hlt, if_neg c2, hw]
    · have e : l.take i.toNat = l := by rw [show i.toNat = l.length by omega, List.take_length]
      rw [e] at hx hy
      refine Ev.step (f := fun k => spec_l2Corner.l1 k l [] x y 0) (fun k => ?_) ?_
      · simp only [spec_l2Corner.l0]
        rw [if_neg hlt]
      · rw [hx, hy]
        exact crn1 hl l.length 0 [] (by omega) (by omega) (by omega) rfl
theorem l2Corner_ev {l : List S41} (hl : l.length ≤ 1000000) : Ev (fun k => spec_l2Corner.f k l) (crnW l) :=
  crn0 hl l.length 0 0 0 (by omega) (by omega) (by omega) rfl rfl
theorem corner_ev {l : List S41} (hs : isShapeB l = true) : Ev (fun k => spec_CornerShape.f k l) (crnW l) := by
  refine Ev.congr (f := fun k => (spec_l2Corner.f k l).bind fun t => some t) (fun k => ?_) (Ev.bind (l2Corner_ev (by have := shape_len hs; omega)) (Ev.now _))
  unfold spec_CornerShape.f spec_IsShape.f
  rw [hs]
  rfl
/-- A shape moved to its corner, and its size. -/
structure Crn (l c : List S41) (dx dy w h : Int) : Prop where
  eq : c = l.map fun a => ⟨a.f0 - dx, a.f1 - dy⟩
  hx : 0 ≤ dx ∧ dx ≤ 7
  hy : 0 ≤ dy ∧ dy ≤ 7
  hw : 1 ≤ w ∧ w ≤ 8
  hh : 1 ≤ h ∧ h ≤ 8
  box : ∀ a ∈ c, 0 ≤ a.f0 ∧ a.f0 < w ∧ 0 ≤ a.f1 ∧ a.f1 < h
theorem crnW_shape {l : List S41} (hs : isShapeB l = true) : crnW l = (l.map fun a => ⟨a.f0 - mnF S41.f0 l, a.f1 - mnF S41.f1 l⟩) ∧ (0 ≤ mnF S41.f0 l ∧ mnF S41.f0 l ≤ 7) ∧ (0 ≤ mnF S41.f1 l ∧ mnF S41.f1 l ≤ 7) := by
  have hne : l ≠ [] := by
    intro h
    have := (shape_len hs).1
    rw [h] at this
    simp at this
  have hb : ∀ c ∈ l, 0 ≤ c.f0 ∧ c.f0 ≤ 7 ∧ 0 ≤ c.f1 ∧ c.f1 ≤ 7 := by
    intro c hc
    obtain ⟨i, h0, h1, rfl⟩ := mem_rd hc
    exact shape_cell hs h0 h1
  obtain ⟨c, hc, e1⟩ := mnF_mem S41.f0 hne
  obtain ⟨d, hd, e2⟩ := mnF_mem S41.f1 hne
  have b1 := hb c hc
  have b2 := hb d hd
  refine ⟨?_, by omega, by omega⟩
  unfold crnW
  apply List.map_congr_left
  intro a ha
  have b3 := hb a ha
  rw [w64 (by omega) (by omega), w64 (by omega) (by omega)]
theorem size0 {c : List S41} (hc : ∀ a ∈ c, 0 ≤ a.f0 ∧ a.f0 ≤ 7 ∧ 0 ≤ a.f1 ∧ a.f1 ≤ 7) (hl : c.length ≤ 100) : ∀ (m : Nat) (i w h : Int), 0 ≤ i → i ≤ c.length → c.length ≤ i + m → (0 ≤ w ∧ w ≤ 8 ∧ 0 ≤ h ∧ h ≤ 8) → (∀ j : Int, 0 ≤ j → j < i → (rd_T41 c j).f0 < w ∧ (rd_T41 c j).f1 < h) → ∃ w' h', (0 ≤ w' ∧ w' ≤ 8 ∧ 0 ≤ h' ∧ h' ≤ 8) ∧ (∀ j : Int, 0 ≤ j → j < c.length → (rd_T41 c j).f0 < w' ∧ (rd_T41 c j).f1 < h') ∧ Ev (fun k => spec_SizeOf.l0 k c w h i) (w', h')
  | m, i, w, h, h0, h1, h2, hw, hj => by
    by_cases hlt : i < (c.length : Int)
    · obtain ⟨m', rfl⟩ : ∃ m', m = m' + 1 := ⟨m - 1, by omega⟩
      have b := hc _ (rd_mem h0 hlt)
      have e1 : wrap64 (i + 1) = i + 1 := w64 (by omega) (by omega)
      have e2 : wrap64 ((rd_T41 c i).f0 + 1) = (rd_T41 c i).f0 + 1 := w64 (by omega) (by omega)
      have e3 : wrap64 ((rd_T41 c i).f1 + 1) = (rd_T41 c i).f1 + 1 := w64 (by omega) (by omega)
      obtain ⟨w', h', q1, q2, q3⟩ := size0 hc hl m' (i + 1) (mx w ((rd_T41 c i).f0 + 1)) (mx h ((rd_T41 c i).f1 + 1)) (by omega) (by omega) (by omega) (by unfold mx; split <;> split <;> omega) (by
        intro j j0 j1
        by_cases e : j = i
        · subst e
          unfold mx
          split <;> split <;> omega
        · have := hj j j0 (by omega)
          unfold mx
          split <;> split <;> omega)
      refine ⟨w', h', q1, q2, Ev.step (fun k => ?_) q3⟩
      simp only [spec_SizeOf.l0]
      rw [if_pos hlt, if_pos h0, e1, e2, e3]
    · refine ⟨w, h, hw, fun j j0 j1 => hj j j0 (by omega), Ev.step (f := fun _ => some (w, h)) (fun k => ?_) (Ev.now _)⟩
      simp only [spec_SizeOf.l0]
      rw [if_neg hlt]
theorem size_ev {l : List S41} (hs : isShapeB l = true) : ∃ dx dy w h : Int, Crn l (crnW l) dx dy w h ∧ Ev (fun k => spec_SizeOf.f k l) (w, h) := by
  obtain ⟨e, h1, h2⟩ := crnW_shape hs
  obtain ⟨l1, l8⟩ := shape_len hs
  have hlen : (crnW l).length = l.length := by rw [e, List.length_map]
  have hb : ∀ a ∈ crnW l, 0 ≤ a.f0 ∧ a.f0 ≤ 7 ∧ 0 ≤ a.f1 ∧ a.f1 ≤ 7 := by
    intro a ha
    rw [e, List.mem_map] at ha
    obtain ⟨b, hb, rfl⟩ := ha
    have m1 := mnF_le S41.f0 hb
    have m2 := mnF_le S41.f1 hb
    obtain ⟨i, i0, i1, rfl⟩ := mem_rd hb
    have := shape_cell hs i0 i1
    simp only
    omega
  obtain ⟨w, h, q1, q2, q3⟩ := size0 hb (by omega) (crnW l).length 0 0 0 (by omega) (by omega) (by omega) (by omega) (fun j j0 j1 => by omega)
  have hf := q2 0 (by omega) (by omega)
  have hf0 := hb _ (rd_mem (l := crnW l) (i := 0) (by omega) (by omega))
  refine ⟨mnF S41.f0 l, mnF S41.f1 l, w, h, ⟨e, h1, h2, by omega, by omega, fun a ha => ?_⟩, Ev.bind (corner_ev hs) q3⟩
  have b1 := hb a ha
  obtain ⟨j, j0, j1, rfl⟩ := mem_rd ha
  have := q2 j j0 j1
  omega
theorem Crn.has {l c : List S41} {dx dy w h : Int} (C : Crn l c dx dy w h) (x y : Int) : hasB c x y = hasB l (x + dx) (y + dy) := by
  rw [Bool.eq_iff_iff, hasB_iff, hasB_iff, C.eq, List.mem_map]
  constructor
  · rintro ⟨⟨a, b⟩, h1, h2⟩
    rw [S41.mk.injEq] at h2
    simp only at h2
    rw [← h2.1, ← h2.2]
    rwa [show a - dx + dx = a by omega, show b - dy + dy = b by omega]
  · intro h1
    exact ⟨_, h1, by rw [S41.mk.injEq]; simp only; omega⟩
theorem Crn.bxd {l c : List S41} {dx dy w h : Int} (C : Crn l c dx dy w h) : Bxd c 0 (w - 1) 0 (h - 1) :=
  ⟨by have := C.hw; omega, by have := C.hh; omega, fun a ha => by have := C.box a ha; omega⟩
section
variable {l c : List S41} {dx dy : Int} (hh : ∀ x y, hasB c x y = hasB l (x + dx) (y + dy))
include hh
theorem rch_move {x y u v : Int} (h : Rch (Fr c) x y u v) : Rch (Fr l) (x + dx) (y + dy) (u + dx) (v + dy) := by
  induction h with
  | base h => exact .base (by unfold Fr at *; rw [← hh]; exact h)
  | step h e f ih => exact .step ih (by unfold adj4 at *; omega) (by unfold Fr at *; rw [← hh]; exact f)
theorem rch_back {x y u v : Int} (h : Rch (Fr l) x y u v) : Rch (Fr c) (x - dx) (y - dy) (u - dx) (v - dy) := by
  have hh' : ∀ x y, hasB l x y = hasB c (x - dx) (y - dy) := fun x y => by rw [hh, show x - dx + dx = x by omega, show y - dy + dy = y by omega]
  induction h with
  | base h => exact .base (by unfold Fr at *; rw [← hh']; exact h)
  | step h e f ih => exact .step ih (by unfold adj4 at *; omega) (by unfold Fr at *; rw [← hh']; exact f)
theorem out_move {u v : Int} : outI c u v ↔ outI l (u + dx) (v + dy) := by
  have m1 : ∀ a, a ∈ c → (⟨a.f0 + dx, a.f1 + dy⟩ : S41) ∈ l := fun a ha => by rw [← hasB_iff, ← hh, hasB_iff]; exact ha
  have m2 : ∀ a, a ∈ l → (⟨a.f0 - dx, a.f1 - dy⟩ : S41) ∈ c := fun a ha => by rw [← hasB_iff, hh, hasB_iff, show a.f0 - dx + dx = a.f0 by omega, show a.f1 - dy + dy = a.f1 by omega]; exact ha
  unfold outI
  refine or_congr ⟨fun h a ha => ?_, fun h a ha => ?_⟩ (or_congr ⟨fun h a ha => ?_, fun h a ha => ?_⟩ (or_congr ⟨fun h a ha => ?_, fun h a ha => ?_⟩ ⟨fun h a ha => ?_, fun h a ha => ?_⟩))
  · have := h _ (m2 a ha); simp only at this; omega
  · have := h _ (m1 a ha); simp only at this; omega
  · have := h _ (m2 a ha); simp only at this; omega
  · have := h _ (m1 a ha); simp only at this; omega
  · have := h _ (m2 a ha); simp only at this; omega
  · have := h _ (m1 a ha); simp only at this; omega
  · have := h _ (m2 a ha); simp only at this; omega
  · have := h _ (m1 a ha); simp only at this; omega
theorem esc_move {x y : Int} : Esc c x y ↔ Esc l (x + dx) (y + dy) := by
  constructor
  · rintro ⟨u, v, h1, h2⟩
    exact ⟨_, _, rch_move hh h1, (out_move hh).mp h2⟩
  · rintro ⟨u, v, h1, h2⟩
    have := rch_back hh h1
    rw [show x + dx - dx = x by omega, show y + dy - dy = y by omega] at this
    exact ⟨_, _, this, (out_move hh).mpr (by rw [show u - dx + dx = u by omega, show v - dy + dy = v by omega]; exact h2)⟩
theorem lead_move {x y : Int} : Lead c x y ↔ Lead l (x + dx) (y + dy) := by
  unfold Lead
  refine and_congr (by unfold Fr; rw [hh]) (and_congr (not_congr (esc_move hh)) ⟨fun h u v huv hr => ?_, fun h u v huv hr => ?_⟩)
  · have := rch_back hh hr
    rw [show x + dx - dx = x by omega, show y + dy - dy = y by omega] at this
    exact h _ _ (by omega) this
  · exact h _ _ (by omega) (rch_move hh hr)
theorem HolN.move {n : Int} (h : HolN c n) : HolN l n := by
  obtain ⟨L, h1, h2, h3⟩ := h
  refine ⟨L.map fun a => ⟨a.f0 + dx, a.f1 + dy⟩, ?_, fun x y => ?_, by rw [List.length_map]; exact h3⟩
  · rw [List.Nodup, List.pairwise_map]
    exact h1.imp fun {a b} hab e => hab (by
      rw [S41.mk.injEq] at e
      cases a
      cases b
      simp only at e
      rw [S41.mk.injEq]
      omega)
  · rw [List.mem_map]
    constructor
    · rintro ⟨⟨a, b⟩, k1, k2⟩
      rw [S41.mk.injEq] at k2
      simp only at k2
      rw [← k2.1, ← k2.2]
      exact (lead_move hh).mp ((h2 a b).mp k1)
    · intro k
      refine ⟨⟨x - dx, y - dy⟩, (h2 _ _).mpr ((lead_move hh).mpr (by rw [show x - dx + dx = x by omega, show y - dy + dy = y by omega]; exact k)), by rw [S41.mk.injEq]; simp only; omega⟩
end
/-- A finite set of places. -/
theorem some_places (p : S41 → Prop) : ∀ g : List S41, ∃ L : List S41, L.Nodup ∧ ∀ c, c ∈ L ↔ c ∈ g ∧ p c
  | [] => ⟨[], by simp, fun c => by simp⟩
  | d :: g => by
    obtain ⟨L, h1, h2⟩ := some_places p g
    by_cases hd : p d ∧ d ∉ L
    · refine ⟨d :: L, List.nodup_cons.mpr ⟨hd.2, h1⟩, fun c => ?_⟩
      rw [List.mem_cons, List.mem_cons, h2]
      constructor
      · rintro (rfl | h)
        · exact ⟨.inl rfl, hd.1⟩
        · exact ⟨.inr h.1, h.2⟩
      · rintro ⟨rfl | h, k⟩
        · exact .inl rfl
        · exact .inr ⟨h, k⟩
    · refine ⟨L, h1, fun c => ?_⟩
      rw [List.mem_cons, h2]
      constructor
      · rintro ⟨h, k⟩; exact ⟨.inr h, k⟩
      · rintro ⟨rfl | h, k⟩
        · by_cases hL : c ∈ L
          · exact (h2 c).mp hL
          · exact absurd ⟨k, hL⟩ hd
        · exact ⟨h, k⟩
def grid (n : Nat) : List S41 := (List.range n).flatMap fun (y : Nat) => (List.range n).map fun (x : Nat) => ⟨(x : Int) - 1, (y : Int) - 1⟩
theorem grid_mem {n : Nat} {x y : Int} (h1 : -1 ≤ x) (h2 : x + 1 < n) (h3 : -1 ≤ y) (h4 : y + 1 < n) : (⟨x, y⟩ : S41) ∈ grid n := by
  unfold grid
  rw [List.mem_flatMap]
  refine ⟨(y + 1).toNat, by rw [List.mem_range]; omega, ?_⟩
  rw [List.mem_map]
  exact ⟨(x + 1).toNat, by rw [List.mem_range]; omega, by rw [S41.mk.injEq]; omega⟩
theorem grid10_len : (grid 10).length = 100 := by decide +kernel
theorem HolN.ex {l : List S41} (B : Bxd l 0 7 0 7) : ∃ n, HolN l n := by
  obtain ⟨L, h1, h2⟩ := some_places (fun c => Lead l c.f0 c.f1) (grid 10)
  refine ⟨_, L, h1, fun x y => (h2 _).trans ⟨fun h => h.2, fun h => ⟨?_, h⟩⟩, rfl⟩
  have := B.hole_in h.1 h.2.1
  unfold inB4 at this
  exact grid_mem (by omega) (by omega) (by omega) (by omega)
end Go.Proofs.Ytlohfeicfhmlmaa.PFnOutlines

namespace Go.Proofs.Ytlohfeicfhmlmaa.PFnOutlines
open Go.RowKit Go.Proofs.YtlohfeicfhmlmaaW.PrintWords Go.Proofs.YtlohfeicfhmlmaaW.PrintLast Go.Proofs.YtlohfeicfhmlmaaW.PrintMore ETool
/-- Block g is a reader of bytes that lay in w0, with its place in range. -/
def Cu (w0 W : World) (g : Nat) : Prop := ∃ s i h, 0 ≤ i ∧ i ≤ (s.length : Int) ∧ IsS60 w0 W g s i h
/-- From w to W: the reader at g has gone on, all else that lay in w stands. -/
structure Dr (w0 w W : World) (g : Nat) : Prop where
  cu : Cu w0 W g
  bel : Below w0.heap.size w0 W
  keep : KeepBut w W g none
theorem Dr.start {w0 w : World} {g : Nat} (h : Cu w0 w g) (hb : Below w0.heap.size w0 w) : Dr w0 w w g := ⟨h, hb, KeepBut.refl _ _ _⟩
theorem Dr.trans {w0 w W X : World} {g : Nat} (h : Dr w0 w W g) (k : Dr w0 W X g) : Dr w0 w X g := ⟨k.cu, k.bel, h.keep.trans k.keep (.inl rfl)⟩
theorem Dr.below {w0 w W X : World} {g : Nat} (h : Dr w0 w W g) (hb : Below W.heap.size W X) : Dr w0 w X g := by
  obtain ⟨s, i, y, h0, h1, h2⟩ := h.cu
  exact ⟨⟨s, i, y, h0, h1, h2.below hb⟩, below_step h.bel hb, h.keep.trans (KeepBut.of_below hb g none) (.inl rfl)⟩
theorem Cu.lt {w0 w : World} {g : Nat} (h : Cu w0 w g) : g < w.heap.size := by
  obtain ⟨s, i, y, _, _, h2⟩ := h
  exact h2.lt
theorem Cu.ge {w0 w : World} {g : Nat} (h : Cu w0 w g) : w0.heap.size ≤ g := by
  obtain ⟨s, i, y, _, _, h2⟩ := h
  exact h2.ge
theorem Dr.grown {w0 w W X : World} {g : Nat} {row : Option Nat} (h : Dr w0 w W g) (hg : W.grownBy X row) (hr : ∀ k, row = some k → w.heap.size ≤ k ∧ k ≠ g) (hw : w0.heap.size ≤ w.heap.size) : Dr w0 w X g := by
  have hgw := h.cu.lt
  obtain ⟨s, i, y, h0, h1, h2⟩ := h.cu
  refine ⟨⟨s, i, y, h0, h1, h2.grown hg (fun e => (hr g e.symm).2 rfl)⟩, h.bel.grown hg h.bel.size (fun k hk => Nat.le_trans hw (hr k hk).1), h.keep.trans (KeepBut.of_grown hg g) ?_⟩
  rcases row with _ | b
  · exact .inl rfl
  · exact .inr ⟨b, rfl, (hr b rfl).1⟩
theorem R_dr {w0 W X : World} {g base : Nat} {v : Value} {zs : List S41} (h : Kd.R k41 41 W base (fun _ => True) v zs) (hc : Cu w0 W g) (hk : KeepBut W X g none) : Kd.R k41 41 X base (fun _ => True) v zs := by
  obtain ⟨s, i, y, _, _, h2⟩ := hc
  exact Kd.R_mono (Kd.R_keep (h2.apart h (by decide)) hk (fun _ h => h.2)) (fun _ _ => trivial)
theorem R_ne_g {w0 W : World} {g base : Nat} {v : Value} {zs : List S41} (h : Kd.R k41 41 W base (fun _ => True) v zs) (hc : Cu w0 W g) : ∀ k, v.ownBlock = some k → base ≤ k ∧ k ≠ g := by
  obtain ⟨s, i, y, _, _, h2⟩ := hc
  intro k hk
  have h3 := (Kd.R_bound (h2.apart h (by decide))).1 k hk
  exact ⟨h3.2.1, h3.1.2⟩
theorem and255 (x : Int) : 0 ≤ Go.bits .and .i64 x 255 ∧ Go.bits .and .i64 x 255 ≤ 255 := by
  have h : ((BitVec.ofInt IntKind.i64.bits x) &&& (BitVec.ofInt IntKind.i64.bits 255)).toNat ≤ 255 := by
    rw [BitVec.toNat_and]
    refine Nat.le_trans Nat.and_le_right ?_
    decide
  unfold Go.bits
  simp only
  rw [show ∀ n, IntKind.i64.wrap n = wrap64 n from i64_w, w64 (by omega) (by omega)]
  omega
theorem byte_some {s : List Int} {i h : Int} (h0 : 0 ≤ i) (h1 : i ≤ s.length) (hs : s.length ≤ 9223372036854775807) : ∃ b i' h', spec_l1Byte.f s i h = some (b, i', h') ∧ 0 ≤ b ∧ 0 ≤ i' ∧ i' ≤ s.length := by
  unfold spec_l1Byte.f
  by_cases hlt : i < (s.length : Int)
  · rw [if_pos hlt, if_pos h0]
    refine ⟨_, _, _, rfl, (and255 _).1, ?_, ?_⟩ <;> (rw [w64 (by omega) (by omega)]; omega)
  · rw [if_neg hlt]
    exact ⟨_, _, _, rfl, (and255 _).1, h0, h1⟩
theorem tmod_lt {b n : Int} (h0 : 0 ≤ b) (hn : 0 < n) : 0 ≤ Int.tmod b n ∧ Int.tmod b n < n := by
  rw [Int.tmod_eq_emod_of_nonneg h0]
  exact ⟨Int.emod_nonneg _ (by omega), Int.emod_lt_of_pos _ hn⟩
theorem below_some {s : List Int} {i h n : Int} (hn : n ≤ 256) (h0 : 0 ≤ i) (h1 : i ≤ s.length) (hs : s.length ≤ 9223372036854775807) : ∃ t i' h', spec_l1Below.f s i h n = some (t, i', h') ∧ (0 < n → 0 ≤ t ∧ t < n) ∧ (n ≤ 0 → t = 0) ∧ 0 ≤ i' ∧ i' ≤ s.length := by
  unfold spec_l1Below.f
  by_cases hz : n ≤ 0
  · rw [if_pos hz]
    exact ⟨_, _, _, rfl, fun h => absurd h (by omega), fun _ => rfl, h0, h1⟩
  · rw [if_neg hz, if_pos hn]
    obtain ⟨b, i', h', e, hb, k0, k1⟩ := byte_some (h := h) h0 h1 hs
    rw [e]
    simp only [Option.bind_some]
    rw [if_neg (by omega)]
    exact ⟨_, _, _, rfl, fun h => tmod_lt hb h, fun h => absurd h hz, k0, k1⟩
theorem Cu.size {w0 W : World} {g : Nat} {s : List Int} {i h : Int} (hI : IsS60 w0 W g s i h) : s.length ≤ 9223372036854775807 := by
  obtain ⟨A, c, _, _, hc⟩ := hI
  exact hc.2.1
theorem sBelow {w0 w : World} {g : Nat} {n : Int} (hn : n ≤ 256) (hC : Cu w0 w g) (hB : Below w0.heap.size w0 w) :
    Calls Try.prog 75 #[.pointer (some ⟨g, 0, none⟩), .int .i64 n] w fun e w' => ∃ t, e = .returned (.int .i64 t) ∧ (0 < n → 0 ≤ t ∧ t < n) ∧ (n ≤ 0 → t = 0) ∧ Dr w0 w w' g := by
  obtain ⟨s, i, h, h0, h1, hI⟩ := hC
  obtain ⟨t, i', h', e, k1, k2, k3, k4⟩ := below_some (h := h) hn h0 h1 (Cu.size hI)
  refine (spec_l1Below.calls g s i h n t i' h' w0 w hI hB e).mono ?_
  rintro e' w' ⟨rfl, hi, hb, hk⟩
  exact ⟨t, rfl, k1, k2, ⟨s, i', h', k3, k4, hi⟩, hb, hk⟩
theorem sNew (A0 : Option Addr) (c0 : Nat) (l0 : List Int) (w : World) (hr0 : Kd.C (Kd.int .u8) w A0 l0.length l0) (hc0 : l0.length ≤ c0) :
    Calls Try.prog 31 #[.slice A0 l0.length c0] w fun e w' => ∃ g : Nat, e = .returned (.pointer (some ⟨g, 0, none⟩)) ∧ Cu w w' g ∧ Below w.heap.size w w' := by
  have hsz := hr0.2.1
  have key : ∀ (m : Nat) (x i : Int), 0 ≤ i → i ≤ 4000 → 4000 ≤ i + m → ∃ h, Ev (fun k => spec_l1New.l0 k l0 x i) (l0, 0, h) := by
    intro m
    induction m with
    | zero =>
      intro x i h0 h1 h2
      refine ⟨x, Ev.step (f := fun _ => some (l0, 0, x)) (fun k => ?_) (Ev.now _)⟩
      simp only [spec_l1New.l0]
      by_cases hl : i < (l0.length : Int)
      · rw [if_pos hl, if_neg (by omega)]
      · rw [if_neg hl]
    | succ m ih =>
      intro x i h0 h1 h2
      by_cases hl : i < (l0.length : Int)
      · by_cases h4 : i < 4000
        · obtain ⟨h, hh⟩ := ih (Go.bits .and .i64 (wrap64 ((wrap64 ((wrap64 (x * 131)) + (wrap64 (rd l0 i)))) + 7)) 1073741823) (i + 1) (by omega) (by omega) (by omega)
          refine ⟨h, Ev.step (fun k => ?_) hh⟩
          simp only [spec_l1New.l0]
          rw [if_pos hl, if_pos h4, if_pos h0, w64 (x := i + 1) (by omega) (by omega)]
        · refine ⟨x, Ev.step (f := fun _ => some (l0, 0, x)) (fun k => ?_) (Ev.now _)⟩
          simp only [spec_l1New.l0]
          rw [if_pos hl, if_neg h4]
      · refine ⟨x, Ev.step (f := fun _ => some (l0, 0, x)) (fun k => ?_) (Ev.now _)⟩
        simp only [spec_l1New.l0]
        rw [if_neg hl]
  obtain ⟨h, hh⟩ := key 4000 (wrap64 (10101 + (l0.length : Int))) 0 (by omega) (by omega) (by omega)
  obtain ⟨k, hk⟩ := hh.rounds
  refine (spec_l1New.calls k A0 c0 l0 l0 0 h w w (Below.refl _ _) hr0 hc0 hk).mono ?_
  rintro e w' ⟨g, rfl, hi, hb, _⟩
  exact ⟨g, rfl, ⟨l0, 0, h, by omega, by omega, hi⟩, hb⟩
theorem sCrn (A0 : Option Addr) (c0 : Nat) (l0 : List S41) (w : World) (hr0 : Kd.C k41 w A0 l0.length l0) (hc0 : l0.length ≤ c0) (hl : l0.length ≤ 1000) :
    Calls Try.prog 53 #[.slice A0 l0.length c0] w fun e w' => ∃ v0_ : Value, e = .returned v0_ ∧ Kd.R k41 41 w' w.heap.size (fun _ => True) v0_ (crnW l0) ∧ Below w.heap.size w w' := by
  obtain ⟨k, hk⟩ := (l2Corner_ev (l := l0) (by omega)).rounds
  exact spec_l2Corner.calls k A0 c0 l0 (crnW l0) w hr0 hc0 hk
theorem srt_pos {zs : List S41} (h : 1 ≤ zs.length) : 1 ≤ (srt zs).length := by
  have h1 : rd_T41 zs 0 ∈ zs := rd_mem (by omega) (by omega)
  exact List.length_pos_of_mem (srt_mem.mpr h1)
theorem srt_len (zs : List S41) : (srt zs).length ≤ zs.length := nodup_sub_len (strict_nodup (srt_strict zs)) (fun c hc => srt_mem.mp hc)
end Go.Proofs.Ytlohfeicfhmlmaa.PFnOutlines

namespace Go.Proofs.Ytlohfeicfhmlmaa.PFnOutlines
open Go.RowKit Go.Proofs.YtlohfeicfhmlmaaW.PrintWords Go.Proofs.YtlohfeicfhmlmaaW.PrintLast Go.Proofs.YtlohfeicfhmlmaaW.PrintMore ETool
theorem cell_keep {w w1 : World} {b o g : Nat} {v : Value} (h : w.cell? ⟨b, o, none⟩ = some v) (hk : KeepBut w w1 g none) (hne : b ≠ g) : w1.cell? ⟨b, o, none⟩ = some v := by
  have hlt := World.block_lt_of_cell? w _ h
  have e := hk.2 b hlt hne (by simp)
  rw [← h]
  unfold World.cell?
  rw [e]
theorem in_w {x : Int} {t : Bool} {w W : World} (hb : Below w.heap.size w W) (h : inB x = t) : Calls Try.prog 47 #[.int .i64 x, .int .i64 0, .int .i64 7] W fun e w' => e = .returned (.bool t) ∧ Below w.heap.size w w' := by
  refine (spec_l1In.calls x 0 7 t _ (by subst h; unfold spec_l1In.f inB; by_cases hx : 0 ≤ x <;> simp [hx])).mono ?_
  rintro e w' ⟨he, hd⟩
  obtain ⟨m, rfl⟩ := hd.out
  exact ⟨he, pw_below_drewN hb m⟩
set_option maxHeartbeats 4000000 in
set_option maxRecDepth 100000 in
theorem sGrow (w0 w : World) (g : Nat) (n : Int) (hC : Cu w0 w g) (hB : Below w0.heap.size w0 w) (hn1 : 1 ≤ n) (hn : n ≤ 100) :
    Calls Try.prog 82 #[.pointer (some ⟨g, 0, none⟩), .int .i64 n] w fun e w' => ∃ (v : Value) (zs : List S41), e = .returned v ∧ Kd.R k41 41 w' w.heap.size (fun _ => True) v zs ∧ 1 ≤ zs.length ∧ zs.length ≤ 100 ∧ Dr w0 w w' g := by
  have hu41 := Try.underlying41
  have HD0 := Aside0.mk (Dr.start hC hB)
  have HW0 := Aside0.mk hB.size
  clear hC hB
  go_enter Try.func82, Try.ntmps82
  go_upto_region 2 with (first
    | ((with_reducible refine gate_dst (N := 11) rfl ?_); refine Kd.R_lit k41 _ 41 ?hg (N := 11) ?hd (xs := [⟨3, 3⟩]) (inner := [.int .i64 3, .int .i64 3]) (ok := fun _ => True) (okp := fun _ => True) ?hr ?hp (fun _ hk => hk) trivial (Below.refl _ _) (Nat.le_refl _) (by simp) ?_; (case hd => rfl); (case hg => rfl); (case hr => first | (go_simp; done) | (go_simp; rfl)); (case hp => exact (Reps.c2 (show Kd.M k41 _ _ _ (⟨3, 3⟩ : S41) [.int .i64 3, .int .i64 3] from k41_mkM _ _ _ (⟨3, 3⟩ : S41)) (Reps.none _ _))); intro v3 w3 ho hb hg_ hnew_; have HO := Aside0.mk ho; have HD := Aside0.mk (HD0.out.below hb); clear ho hb hg_ hnew_ HD0))
  go_upto_region 3 with (fail)
  go_loopw [5, 6] (fun v5 v6 w' => ∃ (zs : List S41) (i : Int), v6 = .int .i64 i ∧ 1 ≤ i ∧ i ≤ n ∧ Aside0 (1 ≤ zs.length) ∧ Aside0 ((zs.length : Int) ≤ i) ∧ Aside0 (Kd.R k41 41 w' w.heap.size (fun _ => True) v5 zs) ∧ Aside0 (Dr w0 w w' g)) (fun _ v6 _ => n.toNat - (intOf v6).toNat)
  case atStart => exact ⟨[⟨3, 3⟩], 1, rfl, by omega, by omega, ⟨by simp⟩, ⟨by simp⟩, HO, HD⟩
  case round =>
    clear HO HD
    obtain ⟨zs, i, rfl, hi1, hin, HL1, HLI, HO, HD⟩ := hrel
    obtain ⟨Az, cz, ez⟩ := Kd.R_slice HO.out
    subst ez
    obtain ⟨_, hcz, HRC⟩ := Kd.R_reads' HO.out
    have HCZ := Aside0.mk HRC
    clear HRC
    have hl1 := HL1.out
    have hli := HLI.out
    by_cases hlt : i < n
    · obtain ⟨ad, e, _, _⟩ := at_T41 HCZ.out 0 (by omega) (by omega)
      subst e
      have HBE := Aside0.mk (sBelow (w0 := w0) (g := g) (n := (zs.length : Int)) (by omega) HD.out.cu HD.out.bel)
      go_upto_region 6 with (first
        | (go_at_call 75; (with_reducible refine HBE.out.mono ?_); rintro e w5 ⟨t, rfl, ht, _, hd⟩; have HO5 := Aside0.mk (R_dr HO.out HD.out.cu hd.keep); have HD5 := Aside0.mk (HD.out.trans hd); obtain ⟨ht0, ht1⟩ := ht (by omega); obtain ⟨ad', e', hx0, hx1⟩ := at_T41 (Kd.R_reads' HO5.out).2.2 t ht0 ht1; cases e'; clear ht hd HO HD HCZ)
        | ((with_reducible refine gate_dst (N := 7) rfl ?_); refine box_c ?hg (N := 7) (t := 41) ?hd ?hr ?_; (case hd => rfl); (case hg => rfl); (case hr => first | (go_simp; done) | (go_simp; rfl)); intro gb w3 BX hz0 hz1 hf0 hf1))
      obtain ⟨W4, hW, HW, hb0, hb1, BC⟩ := BX.put (rd_T41 zs t).f0 (rd_T41 zs t).f1
      rw [hW]
      have HO4 := Aside0.mk (Kd.R_below HO5.out HW)
      have HD4 := Aside0.mk (HD5.out.below HW)
      have GNE := Aside0.mk (show gb ≠ g from by have h1 := BX.hg; have h2 := HD5.out.cu.lt; omega)
      have HB4 := Aside0.mk (sBelow (w0 := w0) (g := g) (n := 4) (by omega) HD4.out.cu HD4.out.bel)
      clear hW HW hz0 hz1 hf0 hf1 BX BC hx0 hx1 HO5 HD5 HBE
      generalize (rd_T41 zs t).f0 = x at hb0 ⊢
      generalize (rd_T41 zs t).f1 = y at hb1 ⊢
      go_upto_region 8 with (first
        | (go_at_call 75; (with_reducible refine HB4.out.mono ?_); rintro e w6 ⟨d, rfl, hd4, _, hd⟩; have HO6 := Aside0.mk (R_dr HO4.out HD4.out.cu hd.keep); have HD6 := Aside0.mk (HD4.out.trans hd); obtain ⟨hd0, hd1⟩ := hd4 (by omega); have hq0 : w6.cell? _ = _ := cell_keep hb0 hd.keep GNE.out; have hq1 : w6.cell? _ = _ := cell_keep hb1 hd.keep GNE.out; clear hd4 hd HO4 HD4)
        | ((with_reducible refine gate_dst (N := 9) rfl ?_); refine box_c ?hg (N := 9) (t := 41) ?hd ?hr ?_; (case hd => rfl); (case hg => rfl); (case hr => first | (go_simp; done) | (go_simp; rfl)); intro gb w3 BX hz0 hz1 hf0 hf1))
      obtain ⟨W7, hW, HW, hb0, hb1, BC⟩ := BX.put (wrap64 (x + (1 - d).tmod 2)) (wrap64 (y + (2 - d).tmod 2))
      rw [hW]
      have HO7 := Aside0.mk (Kd.R_below HO6.out HW)
      have HD7 := Aside0.mk (HD6.out.below HW)
      have hrr := (Kd.R_reads' HO7.out).2.2
      clear hW HW hz0 hz1 hf0 hf1 BX BC HO6 HD6 hq0 hq1 GNE HB4
      generalize wrap64 (x + (1 - d).tmod 2) = X at hb0 ⊢
      generalize wrap64 (y + (2 - d).tmod 2) = Y at hb1 ⊢
      have rb0 := BW.cell hb0
      have rb1 := BW.cell hb1
      have HX := Aside0.mk (Below.refl W7.heap.size W7)
      rcases h1 : inB X with _ | _
      · go_wp2_with (first | (go_at_call 47; (first | (with_reducible refine (in_w HX.out h1).mono ?_) | (with_reducible refine (in_w HX.out h2).mono ?_)); rintro e w7 ⟨rfl, hb⟩; have hq0 : w7.cell? _ = _ := rb0 ⟨w7, hb⟩; have hq1 : w7.cell? _ = _ := rb1 ⟨w7, hb⟩; clear HX; have HX := Aside0.mk hb; clear hb))
        go_roundw
        case rel => exact ⟨zs, i + 1, rfl, by omega, by omega, HL1, ⟨by omega⟩, ⟨Kd.R_below HO7.out HX.out⟩, ⟨HD7.out.below HX.out⟩⟩
        case measure => simp [intOf]; omega
      rcases h2 : inB Y with _ | _
      · go_wp2_with (first | (go_at_call 47; (first | (with_reducible refine (in_w HX.out h1).mono ?_) | (with_reducible refine (in_w HX.out h2).mono ?_)); rintro e w7 ⟨rfl, hb⟩; have hq0 : w7.cell? _ = _ := rb0 ⟨w7, hb⟩; have hq1 : w7.cell? _ = _ := rb1 ⟨w7, hb⟩; clear HX; have HX := Aside0.mk hb; clear hb))
        go_roundw
        case rel => exact ⟨zs, i + 1, rfl, by omega, by omega, HL1, ⟨by omega⟩, ⟨Kd.R_below HO7.out HX.out⟩, ⟨HD7.out.below HX.out⟩⟩
        case measure => simp [intOf]; omega
      rcases h3 : hasB zs X Y with _ | _
      · go_wp2_with (first | (go_at_call 47; (first | (with_reducible refine (in_w HX.out h1).mono ?_) | (with_reducible refine (in_w HX.out h2).mono ?_)); rintro e w7 ⟨rfl, hb⟩; have hq0 : w7.cell? _ = _ := rb0 ⟨w7, hb⟩; have hq1 : w7.cell? _ = _ := rb1 ⟨w7, hb⟩; clear HX; have HX := Aside0.mk hb; clear hb) | (go_at_call 40; (with_reducible refine (has_w hrr HX.out hcz h3).mono ?_); rintro e w7 ⟨rfl, hb⟩; have hq0 : w7.cell? _ = _ := rb0 ⟨w7, hb⟩; have hq1 : w7.cell? _ = _ := rb1 ⟨w7, hb⟩; clear HX; have HX := Aside0.mk hb; have HO8 := Aside0.mk (Kd.R_below HO7.out hb); have HD8 := Aside0.mk (HD7.out.below hb); clear hb) | ((with_reducible refine gate_builtin (b := .append) (xs := #[.tmp 56, .tmp 58]) rfl ?_); at_builtin; refine Kd.R_append k41 w.heap.size rfl (.tmp 56) (.tmp 58) 24 41 (.agg #[(.int .i64 0), (.int .i64 0)]) 16 rfl Try.underlying24 info41 rfl (by decide) (by omega) (.slice (some ad) zs.length cz) zs (⟨X, Y⟩ : S41) [.int .i64 X, .int .i64 Y] (fun _ => True) (fun _ => False) rfl (by first | (go_simp; done) | (go_simp; rfl)) ?aP (fun _ hk => hk.elim) ?aF ?aO (Below.refl _ _) ?aS ?aL ?_; (case aP => exact k41_mkM _ _ _ (⟨X, Y⟩ : S41)); (case aF => exact (fun _ _ => trivial)); (case aO => exact HO8.out); (case aS => exact HD8.out.keep.1); (case aL => omega); intro v9 w9 ho hb hg hat; have HO9 := Aside0.mk ho; have HD9 := Aside0.mk (HD8.out.grown hg (R_ne_g HO8.out HD8.out.cu) HW0.out); clear ho hb hg hat))
        go_roundw
        case rel => exact ⟨zs ++ [⟨X, Y⟩], i + 1, rfl, by omega, by omega, ⟨by simp⟩, ⟨by simp; omega⟩, HO9, HD9⟩
        case measure => simp [intOf]; omega
      · go_wp2_with (first | (go_at_call 47; (first | (with_reducible refine (in_w HX.out h1).mono ?_) | (with_reducible refine (in_w HX.out h2).mono ?_)); rintro e w7 ⟨rfl, hb⟩; have hq0 : w7.cell? _ = _ := rb0 ⟨w7, hb⟩; have hq1 : w7.cell? _ = _ := rb1 ⟨w7, hb⟩; clear HX; have HX := Aside0.mk hb; clear hb) | (go_at_call 40; (with_reducible refine (has_w hrr HX.out hcz h3).mono ?_); rintro e w7 ⟨rfl, hb⟩; have hq0 : w7.cell? _ = _ := rb0 ⟨w7, hb⟩; have hq1 : w7.cell? _ = _ := rb1 ⟨w7, hb⟩; clear HX; have HX := Aside0.mk hb; have HO8 := Aside0.mk (Kd.R_below HO7.out hb); have HD8 := Aside0.mk (HD7.out.below hb); clear hb))
        go_roundw
        case rel => exact ⟨zs, i + 1, rfl, by omega, by omega, HL1, ⟨by omega⟩, HO8, HD8⟩
        case measure => simp [intOf]; omega
    · have HS1 := Aside0.mk (srt_pos hl1)
      have HS2 := Aside0.mk (srt_len zs)
      have HCL := Aside0.mk (show (crnW (srt zs)).length = (srt zs).length by unfold crnW; rw [List.length_map])
      have HSO := Aside0.mk (sSort Az cz zs wr HCZ.out hcz (by omega))
      go_wp2_with (first
        | (go_at_call 67; (with_reducible refine HSO.out.mono ?_); rintro e w5 ⟨v0, rfl, ho, hb⟩; obtain ⟨A5, c5, rfl, hl5, hc5⟩ := Kd.R_reads ho; have HC5 := Aside0.mk (sCrn A5 c5 (srt zs) w5 hc5 hl5 (by have := HS2.out; omega)); have HD5 := Aside0.mk (HD.out.below hb); clear ho hb hl5 hc5)
        | (go_at_call 53; (with_reducible refine HC5.out.mono ?_); rintro e w6 ⟨v1, rfl, ho, hb⟩; have HO6 := Aside0.mk ho; have HD6 := Aside0.mk (HD5.out.below hb); clear ho hb))
      go_ret
      exact ⟨_, crnW (srt zs), rfl, Kd.R_lower HO6.out HD5.out.keep.1, by rw [HCL.out]; exact HS1.out, by rw [HCL.out]; have := HS2.out; omega, HD6.out⟩
end Go.Proofs.Ytlohfeicfhmlmaa.PFnOutlines

namespace Go.Proofs.Ytlohfeicfhmlmaa.PFnOutlines
open Go.RowKit Go.Proofs.YtlohfeicfhmlmaaW.PrintWords Go.Proofs.YtlohfeicfhmlmaaW.PrintLast Go.Proofs.YtlohfeicfhmlmaaW.PrintMore
attribute [local go_sem] max2_int min2_int max_two min_two max_three min_three max_four min_four   -- for this text's walks alone
set_option linter.unusedVariables false
set_option linter.unusedSimpArgs false
mutual
def spec_FormatShape.l0 : Nat → List (S41) → ByteArray → Int → Int → Int → Option (ByteArray)
  | 0, _, _, _, _, _ => none
  | k + 1, x3, x4, x5, x6, x7 => if x7 < (x3.length : Int) then (spec_FormatShape.l1 k x3 x4 x5 x6 x7) else (some x4)
def spec_FormatShape.l1 : Nat → List (S41) → ByteArray → Int → Int → Int → Option (ByteArray)
  | 0, _, _, _, _, _ => none
  | k + 1, x3, x4, x5, x6, x7 => if 0 ≤ x7 then (if x7 < (x3.length : Int) then (if x6 < ((rd_T41 x3 x7).f1) then (if x4.size + 1 ≤ 9223372036854775807 then (spec_FormatShape.l1 k x3 (x4 ++ (⟨#[47]⟩ : ByteArray)) 0 (wrap64 (x6 + 1)) x7) else (none)) else (spec_FormatShape.l2 k x3 x4 x5 x6 x7)) else (none)) else (none)
def spec_FormatShape.l2 : Nat → List (S41) → ByteArray → Int → Int → Int → Option (ByteArray)
  | 0, _, _, _, _, _ => none
  | k + 1, x3, x4, x5, x6, x7 => if 0 ≤ x7 then (if x7 < (x3.length : Int) then (if x5 < ((rd_T41 x3 x7).f0) then (if x4.size + 1 ≤ 9223372036854775807 then (spec_FormatShape.l2 k x3 (x4 ++ (⟨#[46]⟩ : ByteArray)) (wrap64 (x5 + 1)) x6 x7) else (none)) else (if x4.size + 1 ≤ 9223372036854775807 then (spec_FormatShape.l0 k x3 (x4 ++ (⟨#[35]⟩ : ByteArray)) (wrap64 (x5 + 1)) x6 (wrap64 (x7 + 1))) else (none))) else (none)) else (none)
end
def spec_FormatShape.f (k : Nat) (l0 : List (S41)) : Option (ByteArray) := (spec_CornerShape.f k l0).bind fun t143 => (spec_FormatShape.l0 k t143 (⟨#[]⟩ : ByteArray) 0 0 0)
theorem spec_FormatShape.mono_l : ∀ k, (∀ y0 y1 y2 y3 y4, LeO (spec_FormatShape.l0 k y0 y1 y2 y3 y4) (spec_FormatShape.l0 (k + 1) y0 y1 y2 y3 y4)) ∧ (∀ y0 y1 y2 y3 y4, LeO (spec_FormatShape.l1 k y0 y1 y2 y3 y4) (spec_FormatShape.l1 (k + 1) y0 y1 y2 y3 y4)) ∧ (∀ y0 y1 y2 y3 y4, LeO (spec_FormatShape.l2 k y0 y1 y2 y3 y4) (spec_FormatShape.l2 (k + 1) y0 y1 y2 y3 y4))
  | 0 => ⟨fun _ _ _ _ _ r h => by simp [spec_FormatShape.l0] at h, fun _ _ _ _ _ r h => by simp [spec_FormatShape.l1] at h, fun _ _ _ _ _ r h => by simp [spec_FormatShape.l2] at h⟩
  | k + 1 => by
    obtain ⟨ih0, ih1, ih2⟩ := spec_FormatShape.mono_l k
    refine ⟨?_, ?_, ?_⟩
    · intro y0 y1 y2 y3 y4
      unfold spec_FormatShape.l0
      repeat' first
      | (with_reducible exact ih0 _ _ _ _ _)
      | (with_reducible exact ih1 _ _ _ _ _)
      | (with_reducible exact ih2 _ _ _ _ _)
      | (with_reducible exact spec_CornerShape.mono _ _)
      | (with_reducible exact LeO.refl _)
      | (with_reducible exact LeO.none _)
      | (with_reducible refine LeO.ite ?_ ?_)
      | (with_reducible refine LeO.bind ?_ (fun _ => ?_))
      | exact ih0 _ _ _ _ _
      | exact ih1 _ _ _ _ _
      | exact ih2 _ _ _ _ _
      | exact spec_CornerShape.mono _ _
      | exact LeO.none _
      | refine LeO.ite ?_ ?_
      | refine LeO.bind ?_ (fun _ => ?_)
    · intro y0 y1 y2 y3 y4
      unfold spec_FormatShape.l1
      repeat' first
      | (with_reducible exact ih0 _ _ _ _ _)
      | (with_reducible exact ih1 _ _ _ _ _)
      | (with_reducible exact ih2 _ _ _ _ _)
      | (with_reducible exact spec_CornerShape.mono _ _)
      | (with_reducible exact LeO.refl _)
      | (with_reducible exact LeO.none _)
      | (with_reducible refine LeO.ite ?_ ?_)
      | (with_reducible refine LeO.bind ?_ (fun _ => ?_))
      | exact ih0 _ _ _ _ _
      | exact ih1 _ _ _ _ _
      | exact ih2 _ _ _ _ _
      | exact spec_CornerShape.mono _ _
      | exact LeO.none _
      | refine LeO.ite ?_ ?_
      | refine LeO.bind ?_ (fun _ => ?_)
    · intro y0 y1 y2 y3 y4
      unfold spec_FormatShape.l2
      repeat' first
      | (with_reducible exact ih0 _ _ _ _ _)
      | (with_reducible exact ih1 _ _ _ _ _)
      | (with_reducible exact ih2 _ _ _ _ _)
      | (with_reducible exact spec_CornerShape.mono _ _)
      | (with_reducible exact LeO.refl _)
      | (with_reducible exact LeO.none _)
      | (with_reducible refine LeO.ite ?_ ?_)
      | (with_reducible refine LeO.bind ?_ (fun _ => ?_))
      | exact ih0 _ _ _ _ _
      | exact ih1 _ _ _ _ _
      | exact ih2 _ _ _ _ _
      | exact spec_CornerShape.mono _ _
      | exact LeO.none _
      | refine LeO.ite ?_ ?_
      | refine LeO.bind ?_ (fun _ => ?_)
theorem spec_FormatShape.mono : ∀ a0 k, LeO (spec_FormatShape.f k a0) (spec_FormatShape.f (k + 1) a0) := by
  intro a0 k
  obtain ⟨ih0, ih1, ih2⟩ := spec_FormatShape.mono_l k
  unfold spec_FormatShape.f
  repeat' first
      | (with_reducible exact ih0 _ _ _ _ _)
      | (with_reducible exact ih1 _ _ _ _ _)
      | (with_reducible exact ih2 _ _ _ _ _)
      | (with_reducible exact spec_CornerShape.mono _ _)
      | (with_reducible exact LeO.refl _)
      | (with_reducible exact LeO.none _)
      | (with_reducible refine LeO.ite ?_ ?_)
      | (with_reducible refine LeO.bind ?_ (fun _ => ?_))
      | exact ih0 _ _ _ _ _
      | exact ih1 _ _ _ _ _
      | exact ih2 _ _ _ _ _
      | exact spec_CornerShape.mono _ _
      | exact LeO.none _
      | refine LeO.ite ?_ ?_
      | refine LeO.bind ?_ (fun _ => ?_)
set_option maxHeartbeats 8000000 in
set_option maxRecDepth 100000 in
theorem spec_FormatShape.calls (k : Nat) (A0 : Option Addr) (c0 : Nat) (l0 : List (S41)) (r : ByteArray) (w : World) (hr0 : Kd.C k41 w A0 l0.length l0) (hc0 : l0.length ≤ c0) (h : spec_FormatShape.f k l0 = some r) :
    Calls Try.prog 76 #[.slice A0 l0.length c0] w fun e w' => e = .returned (.string r) ∧ Below w.heap.size w w' := by
  have HR0 := Aside0.mk hr0
  have HC0 := Aside0.mk hc0
  clear hr0 hc0
  have HB := Aside0.mk (Below.refl w.heap.size w)
  have H : ((spec_CornerShape.f k l0).bind fun t143 => (spec_FormatShape.l0 k t143 (⟨#[]⟩ : ByteArray) 0 0 0)) = some r := h
  clear h
  replace H := Option.bind_eq_some_iff.mp H
  obtain ⟨t143, A20, H⟩ := H
  replace H : (spec_FormatShape.l0 k t143 (⟨#[]⟩ : ByteArray) 0 0 0) = some r := H
  have A2 := Aside0.mk A20
  clear A20
  have H' := Aside0.mk H
  clear H
  go_enter Try.func76, Try.ntmps76
  go_wp2_with (first | ((with_reducible refine gate_callee (f := 38) rfl ?_); refine goesL_ (some 9) rfl rfl Try.func38 (by kernel_rfl) rfl #[.slice A0 l0.length c0] rfl (by (try simp only [List.map_toArray, List.map_cons, List.map_nil]); first | done | rfl | (simp only [List.length_drop, List.length_take]; rfl)) ?_; (with_reducible refine (spec_CornerShape.calls k _ _ l0 t143 _ ?side1 ?side2 A2.out).mono ?_); (case side1 => repeat (first | exact HR0.out | (with_reducible refine Kd.C_alloc ?_ _) | (with_reducible refine Kd.C_drewN ?_ _) | (with_reducible refine Kd.C_drew ?_))); (case side2 => exact HC0.out); rintro e w3 ⟨v144, rfl, ho0, hb⟩; refine ⟨_, rfl, ?_⟩; have n0_ := Aside0.mk (Kd.R_lower ho0 (below_size (by repeat (first | (with_reducible first | exact HB.out | apply below_alloc | apply pw_below_drewN | apply below_drew1) | exact HB.out)))); have n1_ := Aside0.mk (below_step (by repeat (first | (with_reducible first | exact HB.out | apply below_alloc | apply pw_below_drewN | apply below_drew1) | exact HB.out)) hb); clear HB; have HO145 := n0_; have HB := n1_; clear n0_ n1_; (try clear hb); (try clear hb2); (try clear hk); (try clear hi); (try clear ho0)))
  go_loopg [4, 5, 6, 7] k (fun kq v4 v5 v6 v7 w' => ∃ (x4_1 : ByteArray) (x5_1 : Int) (x6_1 : Int) (x7_1 : Int), v4 = .string x4_1 ∧ v5 = .int .i64 x5_1 ∧ v6 = .int .i64 x6_1 ∧ v7 = .int .i64 x7_1 ∧ Aside0 (spec_FormatShape.l0 kq t143 x4_1 x5_1 x6_1 x7_1 = some r) ∧ Aside0 (kq ≤ k) ∧ Aside0 (Kd.R k41 41 w' w.heap.size (fun _ => True) v144 t143) ∧ Aside0 (Below w.heap.size w w'))
  case atStart => exact ⟨((⟨#[]⟩ : ByteArray)), (0), (0), (0), (by first | rfl | (simp; done) | (simp [*]; done)), (by first | rfl | (simp; done) | (simp [*]; done)), (by first | rfl | (simp; done) | (simp [*]; done)), (by first | rfl | (simp; done) | (simp [*]; done)), H', ⟨Nat.le_refl _⟩, ⟨by (with_reducible repeat (first | apply Kd.R_alloc | apply Kd.R_drewN | apply Kd.R_drew)); exact HO145.out⟩, ⟨by repeat (first | (with_reducible first | exact HB.out | apply below_alloc | apply pw_below_drewN | apply below_drew1) | exact HB.out)⟩⟩
  case round =>
    clear H'
    try clear p2
    try clear c3
    obtain ⟨x4_1, x5_1, x6_1, x7_1, rfl, rfl, rfl, rfl, HA, HK1, HO_3, HB⟩ := hrel
    cases gk with
    | zero => exact absurd HA.out (by simp [spec_FormatShape.l0])
    | succ k1 =>
      have H := HA.out
      clear HA
      simp only [spec_FormatShape.l0] at H
      by_cases c4 : x7_1 < (t143.length : Int)
      · rw [if_pos c4] at H
        have c4b0 : decide (x7_1 < (t143.length : Int)) = true := decide_eq_true c4
        clear c4
        have H' := Aside0.mk H
        clear H
        obtain ⟨Ao5, co5, eo5⟩ := Kd.R_slice HO_3.out
        subst eo5
        go_wp2
        go_loopg [4, 5, 6] k1 (fun kq v4 v5 v6 w' => ∃ (x4_2 : ByteArray) (x5_2 : Int) (x6_2 : Int), v4 = .string x4_2 ∧ v5 = .int .i64 x5_2 ∧ v6 = .int .i64 x6_2 ∧ Aside0 (spec_FormatShape.l1 kq t143 x4_2 x5_2 x6_2 x7_1 = some r) ∧ Aside0 (kq ≤ k1) ∧ Aside0 (Kd.R k41 41 w' w.heap.size (fun _ => True) (.slice Ao5 t143.length co5) t143) ∧ Aside0 (Below w.heap.size w w'))
        case atStart => exact ⟨(x4_1), (x5_1), (x6_1), (by first | rfl | (simp; done) | (simp [*]; done)), (by first | rfl | (simp; done) | (simp [*]; done)), (by first | rfl | (simp; done) | (simp [*]; done)), H', ⟨Nat.le_refl _⟩, ⟨by (with_reducible repeat (first | apply Kd.R_alloc | apply Kd.R_drewN | apply Kd.R_drew)); exact HO_3.out⟩, ⟨by repeat (first | (with_reducible first | exact HB.out | apply below_alloc | apply pw_below_drewN | apply below_drew1) | exact HB.out)⟩⟩
        case round =>
          clear H'
          try clear p2
          try clear c3
          try clear c4
          try clear c4b0
          try clear p2
          obtain ⟨x4_2, x5_2, x6_2, rfl, rfl, rfl, HA, HK2, HO_3, HB⟩ := hrel
          cases gk with
          | zero => exact absurd HA.out (by simp [spec_FormatShape.l1])
          | succ k2 =>
            have H := HA.out
            clear HA
            simp only [spec_FormatShape.l1] at H
            by_cases c6 : 0 ≤ x7_1
            · rw [if_pos c6] at H
              have c6b0 : decide (0 ≤ x7_1) = true := decide_eq_true c6
              clear c6
              by_cases c7 : x7_1 < (t143.length : Int)
              · rw [if_pos c7] at H
                have c7b0 : decide (x7_1 < (t143.length : Int)) = true := decide_eq_true c7
                clear c7
                by_cases c8 : x6_2 < ((rd_T41 t143 x7_1).f1)
                · rw [if_pos c8] at H
                  have c8b0 : decide (x6_2 < ((rd_T41 t143 x7_1).f1)) = true := decide_eq_true c8
                  clear c8
                  by_cases c9 : x4_2.size + 1 ≤ 9223372036854775807
                  · rw [if_pos c9] at H
                    have c9b0 := eq_true c9
                    have c9b1 : decide (x4_2.size + 1 ≤ 9223372036854775807) = true := decide_eq_true c9
                    try have c9b2 : (9223372036854775807 < x4_2.size + 1) = False := eq_false (Nat.not_lt.2 c9)
                    have H' := Aside0.mk H
                    clear H
                    have p146 : 0 ≤ (x7_1 : Int) := of_decide_eq_true (by first | (with_reducible assumption) | assumption)
                    have q146 : x7_1 < (t143.length : Int) := of_decide_eq_true (by first | (with_reducible assumption) | assumption)
                    obtain ⟨ad146, e146, hx146_0, hx146_1⟩ := at_T41 (Kd.R_reads' HO_3.out).2.2 x7_1 p146 q146
                    cases e146
                    replace p146 := eq_true p146
                    replace q146 := eq_true q146
                    go_wp2
                    go_roundg k2
                    case measure => have := HK1.out; have := HK2.out; omega
                    case rel => exact ⟨(x4_2 ++ (⟨#[47]⟩ : ByteArray)), (0), (wrap64 (x6_2 + 1)), (by first | rfl | (simp; done) | (simp [*]; done)), (by first | rfl | (simp; done) | (simp [*]; done)), (by first | rfl | (simp; done) | (simp [*]; done)), H', ⟨by have := HK1.out; have := HK2.out; omega⟩, ⟨by (with_reducible repeat (first | apply Kd.R_alloc | apply Kd.R_drewN | apply Kd.R_drew)); exact HO_3.out⟩, ⟨by repeat (first | (with_reducible first | exact HB.out | apply below_alloc | apply pw_below_drewN | apply below_drew1) | exact HB.out)⟩⟩
                  · rw [if_neg c9] at H
                    exact absurd H (by simp)
                · rw [if_neg c8] at H
                  have c8b0 : decide (x6_2 < ((rd_T41 t143 x7_1).f1)) = false := decide_eq_false c8
                  clear c8
                  have H' := Aside0.mk H
                  clear H
                  have p146 : 0 ≤ (x7_1 : Int) := of_decide_eq_true (by first | (with_reducible assumption) | assumption)
                  have q146 : x7_1 < (t143.length : Int) := of_decide_eq_true (by first | (with_reducible assumption) | assumption)
                  obtain ⟨ad146, e146, hx146_0, hx146_1⟩ := at_T41 (Kd.R_reads' HO_3.out).2.2 x7_1 p146 q146
                  cases e146
                  replace p146 := eq_true p146
                  replace q146 := eq_true q146
                  go_wp2
                  go_loopg [4, 5] k2 (fun kq v4 v5 w' => ∃ (x4_3 : ByteArray) (x5_3 : Int), v4 = .string x4_3 ∧ v5 = .int .i64 x5_3 ∧ Aside0 (spec_FormatShape.l2 kq t143 x4_3 x5_3 x6_2 x7_1 = some r) ∧ Aside0 (kq ≤ k2) ∧ Aside0 (Kd.R k41 41 w' w.heap.size (fun _ => True) (.slice (some ad146) t143.length co5) t143) ∧ Aside0 (Below w.heap.size w w'))
                  case atStart => exact ⟨(x4_2), (x5_2), (by first | rfl | (simp; done) | (simp [*]; done)), (by first | rfl | (simp; done) | (simp [*]; done)), H', ⟨Nat.le_refl _⟩, ⟨by (with_reducible repeat (first | apply Kd.R_alloc | apply Kd.R_drewN | apply Kd.R_drew)); exact HO_3.out⟩, ⟨by repeat (first | (with_reducible first | exact HB.out | apply below_alloc | apply pw_below_drewN | apply below_drew1) | exact HB.out)⟩⟩
                  case round =>
                    clear H'
                    try clear p1
                    try clear q1
                    try clear hx1
                    try clear p2
                    try clear c3
                    try clear c4
                    try clear c4b0
                    try clear c6
                    try clear c6b0
                    try clear p6
                    try clear c7
                    try clear c7b0
                    try clear c8
                    try clear c8b0
                    try clear c9
                    try clear c9b0
                    try clear c9b1
                    try clear c9b2
                    try clear hx146_0
                    try clear hx146_1
                    try clear p146
                    try clear p2
                    try clear q146
                    obtain ⟨x4_3, x5_3, rfl, rfl, HA, HK3, HO_3, HB⟩ := hrel
                    cases gk with
                    | zero => exact absurd HA.out (by simp [spec_FormatShape.l2])
                    | succ k3 =>
                      have H := HA.out
                      clear HA
                      simp only [spec_FormatShape.l2] at H
                      by_cases c10 : 0 ≤ x7_1
                      · rw [if_pos c10] at H
                        have c10b0 : decide (0 ≤ x7_1) = true := decide_eq_true c10
                        clear c10
                        by_cases c11 : x7_1 < (t143.length : Int)
                        · rw [if_pos c11] at H
                          have c11b0 : decide (x7_1 < (t143.length : Int)) = true := decide_eq_true c11
                          clear c11
                          by_cases c12 : x5_3 < ((rd_T41 t143 x7_1).f0)
                          · rw [if_pos c12] at H
                            have c12b0 : decide (x5_3 < ((rd_T41 t143 x7_1).f0)) = true := decide_eq_true c12
                            clear c12
                            by_cases c13 : x4_3.size + 1 ≤ 9223372036854775807
                            · rw [if_pos c13] at H
                              have c13b0 := eq_true c13
                              have c13b1 : decide (x4_3.size + 1 ≤ 9223372036854775807) = true := decide_eq_true c13
                              try have c13b2 : (9223372036854775807 < x4_3.size + 1) = False := eq_false (Nat.not_lt.2 c13)
                              have H' := Aside0.mk H
                              clear H
                              have p147 : 0 ≤ (x7_1 : Int) := of_decide_eq_true (by first | (with_reducible assumption) | assumption)
                              have q147 : x7_1 < (t143.length : Int) := of_decide_eq_true (by first | (with_reducible assumption) | assumption)
                              obtain ⟨ad147, e147, hx147_0, hx147_1⟩ := at_T41 (Kd.R_reads' HO_3.out).2.2 x7_1 p147 q147
                              obtain rfl : ad146 = ad147 := (by injection e147)
                              replace p147 := eq_true p147
                              replace q147 := eq_true q147
                              go_wp2
                              go_roundg k3
                              case measure => have := HK1.out; have := HK2.out; have := HK3.out; omega
                              case rel => exact ⟨(x4_3 ++ (⟨#[46]⟩ : ByteArray)), (wrap64 (x5_3 + 1)), (by first | rfl | (simp; done) | (simp [*]; done)), (by first | rfl | (simp; done) | (simp [*]; done)), H', ⟨by have := HK1.out; have := HK2.out; have := HK3.out; omega⟩, ⟨by (with_reducible repeat (first | apply Kd.R_alloc | apply Kd.R_drewN | apply Kd.R_drew)); exact HO_3.out⟩, ⟨by repeat (first | (with_reducible first | exact HB.out | apply below_alloc | apply pw_below_drewN | apply below_drew1) | exact HB.out)⟩⟩
                            · rw [if_neg c13] at H
                              exact absurd H (by simp)
                          · rw [if_neg c12] at H
                            have c12b0 : decide (x5_3 < ((rd_T41 t143 x7_1).f0)) = false := decide_eq_false c12
                            clear c12
                            by_cases c14 : x4_3.size + 1 ≤ 9223372036854775807
                            · rw [if_pos c14] at H
                              have c14b0 := eq_true c14
                              have c14b1 : decide (x4_3.size + 1 ≤ 9223372036854775807) = true := decide_eq_true c14
                              try have c14b2 : (9223372036854775807 < x4_3.size + 1) = False := eq_false (Nat.not_lt.2 c14)
                              have H' := Aside0.mk H
                              clear H
                              have p147 : 0 ≤ (x7_1 : Int) := of_decide_eq_true (by first | (with_reducible assumption) | assumption)
                              have q147 : x7_1 < (t143.length : Int) := of_decide_eq_true (by first | (with_reducible assumption) | assumption)
                              obtain ⟨ad147, e147, hx147_0, hx147_1⟩ := at_T41 (Kd.R_reads' HO_3.out).2.2 x7_1 p147 q147
                              obtain rfl : ad146 = ad147 := (by injection e147)
                              replace p147 := eq_true p147
                              replace q147 := eq_true q147
                              go_wp2
                              go_roundg k3
                              case measure => have := HK1.out; have := HK2.out; have := HK3.out; omega
                              case rel => exact ⟨(x4_3 ++ (⟨#[35]⟩ : ByteArray)), (wrap64 (x5_3 + 1)), (x6_2), (wrap64 (x7_1 + 1)), (by first | rfl | (simp; done) | (simp [*]; done)), (by first | rfl | (simp; done) | (simp [*]; done)), (by first | rfl | (simp; done) | (simp [*]; done)), (by first | rfl | (simp; done) | (simp [*]; done)), H', ⟨by have := HK1.out; have := HK2.out; have := HK3.out; omega⟩, ⟨by (with_reducible repeat (first | apply Kd.R_alloc | apply Kd.R_drewN | apply Kd.R_drew)); exact HO_3.out⟩, ⟨by repeat (first | (with_reducible first | exact HB.out | apply below_alloc | apply pw_below_drewN | apply below_drew1) | exact HB.out)⟩⟩
                            · rw [if_neg c14] at H
                              exact absurd H (by simp)
                        · rw [if_neg c11] at H
                          exact absurd H (by simp)
                      · rw [if_neg c10] at H
                        exact absurd H (by simp)
              · rw [if_neg c7] at H
                exact absurd H (by simp)
            · rw [if_neg c6] at H
              exact absurd H (by simp)
      · rw [if_neg c4] at H
        have c4b0 : decide (x7_1 < (t143.length : Int)) = false := decide_eq_false c4
        clear c4
        obtain rfl := Option.some.inj H
        obtain ⟨Ao15, co15, eo15⟩ := Kd.R_slice HO_3.out
        subst eo15
        go_wp2
        go_ret
        exact ⟨by first | rfl | (simp [errW_none, errW_some] <;> rfl) | (simp [*, errW_none, errW_some] <;> rfl), by repeat (first | (with_reducible first | exact HB.out | apply below_alloc | apply pw_below_drewN | apply below_drew1) | exact HB.out)⟩
mutual
def spec_ParseShape.l0 : Nat → ByteArray → List (S41) → Int → Int → Int → Option ((List (S41)) × Bool)
  | 0, _, _, _, _, _ => none
  | k + 1, x0, x4, x5, x6, x7 => if x7 < (x0.size : Int) then (spec_ParseShape.j1 k x0 x4 x5 x6 x7 (decide ((x0.size : Int) ≤ 70))) else (spec_ParseShape.j1 k x0 x4 x5 x6 x7 false)
def spec_ParseShape.j1 : Nat → ByteArray → List (S41) → Int → Int → Int → Bool → Option ((List (S41)) × Bool)
  | 0, _, _, _, _, _, _ => none
  | k + 1, x0, x4, x5, x6, x7, x17 => if x17 = true then (if 0 ≤ x7 then (if x7 < (x0.size : Int) then (if (bt x0 x7) = 35 then (if x4.length < 8796093022208 then (spec_ParseShape.l0 k x0 (x4 ++ [(⟨x5, x6⟩ : S41)]) (wrap64 (x5 + 1)) x6 (wrap64 (x7 + 1))) else (none)) else (if (bt x0 x7) = 46 then (spec_ParseShape.l0 k x0 x4 (wrap64 (x5 + 1)) x6 (wrap64 (x7 + 1))) else (if (bt x0 x7) = 47 then (spec_ParseShape.l0 k x0 x4 0 (wrap64 (x6 + 1)) (wrap64 (x7 + 1))) else (some ((([] : List (S41))), false))))) else (none)) else (none)) else (if x0.toList = ([] : List UInt8) then (some ((([] : List (S41))), false)) else ((spec_FormatShape.f k x4).bind fun t154 => (if t154.toList = x0.toList then (some (x4, true)) else (some ((([] : List (S41))), false)))))
end
def spec_ParseShape.f (k : Nat) (a0 : ByteArray) : Option ((List (S41)) × Bool) := spec_ParseShape.l0 k a0 (([] : List (S41))) 0 0 0
theorem spec_ParseShape.mono_l : ∀ k, (∀ y0 y1 y2 y3 y4, LeO (spec_ParseShape.l0 k y0 y1 y2 y3 y4) (spec_ParseShape.l0 (k + 1) y0 y1 y2 y3 y4)) ∧ (∀ y0 y1 y2 y3 y4 y5, LeO (spec_ParseShape.j1 k y0 y1 y2 y3 y4 y5) (spec_ParseShape.j1 (k + 1) y0 y1 y2 y3 y4 y5))
  | 0 => ⟨fun _ _ _ _ _ r h => by simp [spec_ParseShape.l0] at h, fun _ _ _ _ _ _ r h => by simp [spec_ParseShape.j1] at h⟩
  | k + 1 => by
    obtain ⟨ih0, ih1⟩ := spec_ParseShape.mono_l k
    refine ⟨?_, ?_⟩
    · intro y0 y1 y2 y3 y4
      unfold spec_ParseShape.l0
      repeat' first
      | (with_reducible exact ih0 _ _ _ _ _)
      | (with_reducible exact ih1 _ _ _ _ _ _)
      | (with_reducible exact spec_FormatShape.mono _ _)
      | (with_reducible exact LeO.refl _)
      | (with_reducible exact LeO.none _)
      | (with_reducible refine LeO.ite ?_ ?_)
      | (with_reducible refine LeO.bind ?_ (fun _ => ?_))
      | exact ih0 _ _ _ _ _
      | exact ih1 _ _ _ _ _ _
      | exact spec_FormatShape.mono _ _
      | exact LeO.none _
      | refine LeO.ite ?_ ?_
      | refine LeO.bind ?_ (fun _ => ?_)
    · intro y0 y1 y2 y3 y4 y5
      unfold spec_ParseShape.j1
      repeat' first
      | (with_reducible exact ih0 _ _ _ _ _)
      | (with_reducible exact ih1 _ _ _ _ _ _)
      | (with_reducible exact spec_FormatShape.mono _ _)
      | (with_reducible exact LeO.refl _)
      | (with_reducible exact LeO.none _)
      | (with_reducible refine LeO.ite ?_ ?_)
      | (with_reducible refine LeO.bind ?_ (fun _ => ?_))
      | exact ih0 _ _ _ _ _
      | exact ih1 _ _ _ _ _ _
      | exact spec_FormatShape.mono _ _
      | exact LeO.none _
      | refine LeO.ite ?_ ?_
      | refine LeO.bind ?_ (fun _ => ?_)
theorem spec_ParseShape.mono : ∀ a0 k, LeO (spec_ParseShape.f k a0) (spec_ParseShape.f (k + 1) a0) := by
  intro a0 k
  obtain ⟨ih0, ih1⟩ := spec_ParseShape.mono_l k
  unfold spec_ParseShape.f
  repeat' first
      | (with_reducible exact ih0 _ _ _ _ _)
      | (with_reducible exact ih1 _ _ _ _ _ _)
      | (with_reducible exact spec_FormatShape.mono _ _)
      | (with_reducible exact LeO.refl _)
      | (with_reducible exact LeO.none _)
      | (with_reducible refine LeO.ite ?_ ?_)
      | (with_reducible refine LeO.bind ?_ (fun _ => ?_))
      | exact ih0 _ _ _ _ _
      | exact ih1 _ _ _ _ _ _
      | exact spec_FormatShape.mono _ _
      | exact LeO.none _
      | refine LeO.ite ?_ ?_
      | refine LeO.bind ?_ (fun _ => ?_)
set_option maxHeartbeats 8000000 in
set_option maxRecDepth 100000 in
theorem spec_ParseShape.calls (k : Nat) (a0 : ByteArray) (r1 : List (S41)) (r2 : Bool) (w : World) (h : spec_ParseShape.f k a0 = some (r1, r2)) :
    Calls Try.prog 59 #[.string a0] w fun e w' => ∃ v0_ : Value, e = .returned (.tuple #[v0_, .bool r2]) ∧ Kd.R k41 41 w' w.heap.size (fun _ => True) v0_ r1 ∧ Below w.heap.size w w' := by
  have hu41 := Try.underlying41
  have HB := Aside0.mk (Below.refl w.heap.size w)
  have H : (spec_ParseShape.l0 k a0 (([] : List (S41))) 0 0 0) = some (r1, r2) := h
  clear h
  obtain ⟨y148, hy148⟩ : ∃ y_ : List (S41), y_ = (([] : List (S41))) := ⟨_, rfl⟩
  replace H : (spec_ParseShape.l0 k a0 y148 0 0 0) = some (r1, r2) := by first | (rw [hy148]; with_reducible exact H) | (have H2_ := (Option.bind_some _ _).symm.trans H; rw [hy148]; with_reducible exact H2_) | (have H2_ := (Option.bind_some _ _).symm.trans H; with_reducible exact H2_) | with_reducible exact H | (rw [hy148]; exact H) | exact H
  have Ny148 := Aside0.mk hy148
  clear hy148
  have H' := Aside0.mk H
  clear H
  go_enter Try.func59, Try.ntmps59
  go_wp2_with (first | ((with_reducible refine gate_dst (N := 8) rfl ?_); (try (refine gate_guard (by rfl) ?_; dsimp only)); refine Kd.R_lit k41 _ 41 ?hg (N := 8) ?hd (xs := ([] : List (S41))) (inner := []) (ok := fun _ => True) (okp := fun _ => True) ?hr ?hp (fun _ hk => hk) trivial (Below.refl _ _) (Nat.le_refl _) (by simp) ?_; (case hd => rfl); (case hg => rfl); (case hr => first | (go_simp; done) | (go_simp; rfl)); (case hp => exact (Reps.none _ _)); intro v149 w2 ho3 hb hg_ hnew_; clear hg_ hnew_; (first | rw [← Ny148.out] at ho3 | (simp only [Int.reduceToNat] at ho3; rw [← Ny148.out] at ho3)); have n0_ := Aside0.mk (Kd.R_lower ho3 (below_size (by repeat (first | (with_reducible first | exact HB.out | apply below_alloc | apply pw_below_drewN | apply below_drew1) | exact HB.out)))); have n1_ := Aside0.mk (below_step (by repeat (first | (with_reducible first | exact HB.out | apply below_alloc | apply pw_below_drewN | apply below_drew1) | exact HB.out)) hb); clear HB; have HO150 := n0_; have HB := n1_; clear n0_ n1_; clear hb ho3))
  go_loopg [4, 5, 6, 7] k (fun kq v4 v5 v6 v7 w' => ∃ (x4_1 : List (S41)) (x5_1 : Int) (x6_1 : Int) (x7_1 : Int), v5 = .int .i64 x5_1 ∧ v6 = .int .i64 x6_1 ∧ v7 = .int .i64 x7_1 ∧ Aside0 (spec_ParseShape.l0 kq a0 x4_1 x5_1 x6_1 x7_1 = some (r1, r2)) ∧ Aside0 (kq ≤ k) ∧ Aside0 (Kd.R k41 41 w' w.heap.size (fun _ => True) v4 x4_1) ∧ Aside0 (Below w.heap.size w w'))
  case atStart => exact ⟨(y148), (0), (0), (0), (by first | rfl | (simp; done) | (simp [*]; done)), (by first | rfl | (simp; done) | (simp [*]; done)), (by first | rfl | (simp; done) | (simp [*]; done)), H', ⟨Nat.le_refl _⟩, ⟨by (with_reducible repeat (first | apply Kd.R_alloc | apply Kd.R_drewN | apply Kd.R_drew)); exact HO150.out⟩, ⟨by repeat (first | (with_reducible first | exact HB.out | apply below_alloc | apply pw_below_drewN | apply below_drew1) | exact HB.out)⟩⟩
  case round =>
    clear H'
    try clear p2
    obtain ⟨x4_1, x5_1, x6_1, x7_1, rfl, rfl, rfl, HA, HK1, HO_4, HB⟩ := hrel
    cases gk with
    | zero => exact absurd HA.out (by simp [spec_ParseShape.l0])
    | succ k1 =>
      have H := HA.out
      clear HA
      simp only [spec_ParseShape.l0] at H
      have HC4 := Aside0.mk H
      clear H
      go_upto_region 5 with (fail)
      go_cut [17] (fun v17 wc => ∃ (kq : Nat) (x17_3 : Bool), v17 = .bool x17_3 ∧ Aside0 (spec_ParseShape.j1 kq a0 x4_1 x5_1 x6_1 x7_1 x17_3 = some (r1, r2)) ∧ Aside0 (kq ≤ k1) ∧ Aside0 (Kd.R k41 41 wc w.heap.size (fun _ => True) u4 x4_1) ∧ Aside0 (Below w.heap.size w wc))
      case first =>
        have H := HC4.out
        clear HC4
        by_cases c5 : x7_1 < (a0.size : Int)
        · rw [if_pos c5] at H
          have c5b0 : decide (x7_1 < (a0.size : Int)) = true := decide_eq_true c5
          clear c5
          (first | rw [c5b0] | (simp only [i64_w, i32_w]; rw [c5b0]) | skip)
          have H' := Aside0.mk H
          clear H
          go_wp2
          go_meet
          case rel => exact ⟨_, (decide ((a0.size : Int) ≤ 70)), (by first | rfl | (simp; done) | (simp [*]; done)), H', ⟨by have := HK1.out; first | omega | exact Nat.le_refl _⟩, ⟨by (with_reducible repeat (first | apply Kd.R_alloc | apply Kd.R_drewN | apply Kd.R_drew)); exact HO_4.out⟩, ⟨by repeat (first | (with_reducible first | exact HB.out | apply below_alloc | apply pw_below_drewN | apply below_drew1) | exact HB.out)⟩⟩
        · rw [if_neg c5] at H
          have c5b0 : decide (x7_1 < (a0.size : Int)) = false := decide_eq_false c5
          clear c5
          (first | rw [c5b0] | (simp only [i64_w, i32_w]; rw [c5b0]) | skip)
          have H' := Aside0.mk H
          clear H
          go_wp2
          go_meet
          case rel => exact ⟨_, (false), (by first | rfl | (simp; done) | (simp [*]; done)), H', ⟨by have := HK1.out; first | omega | exact Nat.le_refl _⟩, ⟨by (with_reducible repeat (first | apply Kd.R_alloc | apply Kd.R_drewN | apply Kd.R_drew)); exact HO_4.out⟩, ⟨by repeat (first | (with_reducible first | exact HB.out | apply below_alloc | apply pw_below_drewN | apply below_drew1) | exact HB.out)⟩⟩
      case rest =>
        clear HC4
        try clear p2
        try clear c5
        try clear c5b0
        try clear p2
        obtain ⟨kq, x17_3, rfl, HA, HJ3, HO_4, HB⟩ := hcut
        cases kq with
        | zero => exact absurd HA.out (by simp [spec_ParseShape.j1])
        | succ kj3 =>
          have H := HA.out
          clear HA
          simp only [spec_ParseShape.j1] at H
          by_cases c6 : x17_3 = true
          · subst c6
            have H1 : (if 0 ≤ x7_1 then (if x7_1 < (a0.size : Int) then (if (bt a0 x7_1) = 35 then (if x4_1.length < 8796093022208 then (spec_ParseShape.l0 kj3 a0 (x4_1 ++ [(⟨x5_1, x6_1⟩ : S41)]) (wrap64 (x5_1 + 1)) x6_1 (wrap64 (x7_1 + 1))) else (none)) else (if (bt a0 x7_1) = 46 then (spec_ParseShape.l0 kj3 a0 x4_1 (wrap64 (x5_1 + 1)) x6_1 (wrap64 (x7_1 + 1))) else (if (bt a0 x7_1) = 47 then (spec_ParseShape.l0 kj3 a0 x4_1 0 (wrap64 (x6_1 + 1)) (wrap64 (x7_1 + 1))) else (some ((([] : List (S41))), false))))) else (none)) else (none)) = some (r1, r2) := by rw [if_pos rfl] at H; exact H
            clear H
            have H := H1
            clear H1
            by_cases c7 : 0 ≤ x7_1
            · rw [if_pos c7] at H
              have c7b0 : decide (0 ≤ x7_1) = true := decide_eq_true c7
              clear c7
              by_cases c8 : x7_1 < (a0.size : Int)
              · rw [if_pos c8] at H
                have c8b0 : decide (x7_1 < (a0.size : Int)) = true := decide_eq_true c8
                clear c8
                by_cases c10 : (bt a0 x7_1) = 35
                · rw [if_pos c10] at H
                  have c10b0 : ((bt a0 x7_1) == 35) = true := beq_iff_eq.mpr c10
                  have c10b1 : ((bt a0 x7_1) != 35) = false := bne_eq_false_iff_eq.mpr c10
                  clear c10
                  by_cases c11 : x4_1.length < 8796093022208
                  · rw [if_pos c11] at H
                    have LMc11 := Aside0.mk c11
                    clear c11
                    obtain ⟨y158, hy158⟩ : ∃ y_ : List (S41), y_ = (x4_1 ++ [(⟨x5_1, x6_1⟩ : S41)]) := ⟨_, rfl⟩
                    replace H : (spec_ParseShape.l0 kj3 a0 y158 (wrap64 (x5_1 + 1)) x6_1 (wrap64 (x7_1 + 1))) = some (r1, r2) := by first | (rw [hy158]; with_reducible exact H) | (have H2_ := (Option.bind_some _ _).symm.trans H; rw [hy158]; with_reducible exact H2_) | (have H2_ := (Option.bind_some _ _).symm.trans H; with_reducible exact H2_) | with_reducible exact H | (rw [hy158]; exact H) | exact H
                    have Ny158 := Aside0.mk hy158
                    clear hy158
                    have H' := Aside0.mk H
                    clear H
                    have p9 : 0 ≤ (x7_1 : Int) := of_decide_eq_true (by first | (with_reducible assumption) | assumption)
                    have q9 : x7_1 < (a0.size : Int) := of_decide_eq_true (by first | (with_reducible assumption) | assumption)
                    have hx9 := bt_at a0 x7_1
                    replace p9 := eq_true p9
                    replace q9 := eq_true q9
                    go_wp2_with (first | ((with_reducible refine gate_builtin (b := .append) (xs := #[.tmp 26, .tmp 30]) rfl ?_); (try (refine gate_guard (by rfl) ?_; dsimp only)); at_builtin; refine Kd.R_append k41 (w0 := w) w.heap.size rfl (.tmp 26) (.tmp 30) 24 41 (.agg #[(.int .i64 0), (.int .i64 0)]) 16 rfl Try.underlying24 info41 rfl (by decide) (by omega) u4 x4_1 (⟨x5_1, x6_1⟩ : S41) [.int .i64 x5_1, .int .i64 x6_1] (fun _ => True) (fun _ => False) rfl rfl ?aP (fun _ hk => hk.elim) ?aF ?aO ?aB ?aS ?aL ?_; (case aP => exact k41_mkM _ _ _ (⟨x5_1, x6_1⟩ : S41)); (case aB => exact (by repeat (first | (with_reducible first | exact HB.out | apply below_alloc | apply pw_below_drewN | apply below_drew1) | exact HB.out))); (case aF => exact (fun _ _ => trivial)); (case aO => exact (by (with_reducible repeat (first | apply Kd.R_alloc | apply Kd.R_drewN | apply Kd.R_drew)); exact HO_4.out)); (case aS => exact (below_size (by repeat (first | (with_reducible first | exact HB.out | apply below_alloc | apply pw_below_drewN | apply below_drew1) | exact HB.out)))); (case aL => have := LMc11.out; omega); intro v159 w12 ho hb hg hat; rw [← Ny158.out] at ho; have n0_ := Aside0.mk (hb); have n1_ := Aside0.mk (ho); clear HB; clear HO_4; have HB := n0_; have HO160 := n1_; clear n0_ n1_; clear ho hb hg hat))
                    go_roundg kj3
                    case measure => have := HK1.out; have := HJ3.out; omega
                    case rel => exact ⟨(y158), (wrap64 (x5_1 + 1)), (x6_1), (wrap64 (x7_1 + 1)), (by first | rfl | (simp; done) | (simp [*]; done)), (by first | rfl | (simp; done) | (simp [*]; done)), (by first | rfl | (simp; done) | (simp [*]; done)), H', ⟨by have := HK1.out; have := HJ3.out; omega⟩, ⟨by (with_reducible repeat (first | apply Kd.R_alloc | apply Kd.R_drewN | apply Kd.R_drew)); exact HO160.out⟩, ⟨by repeat (first | (with_reducible first | exact HB.out | apply below_alloc | apply pw_below_drewN | apply below_drew1) | exact HB.out)⟩⟩
                  · rw [if_neg c11] at H
                    exact absurd H (by simp)
                · rw [if_neg c10] at H
                  have c10b0 : ((bt a0 x7_1) == 35) = false := beq_eq_false_iff_ne.mpr c10
                  have c10b1 : ((bt a0 x7_1) != 35) = true := bne_iff_ne.mpr c10
                  by_cases c13 : (bt a0 x7_1) = 46
                  · rw [if_pos c13] at H
                    have c13b0 : ((bt a0 x7_1) == 46) = true := beq_iff_eq.mpr c13
                    have c13b1 : ((bt a0 x7_1) != 46) = false := bne_eq_false_iff_eq.mpr c13
                    clear c13
                    have H' := Aside0.mk H
                    clear H
                    have p9 : 0 ≤ (x7_1 : Int) := of_decide_eq_true (by first | (with_reducible assumption) | assumption)
                    have q9 : x7_1 < (a0.size : Int) := of_decide_eq_true (by first | (with_reducible assumption) | assumption)
                    have hx9 := bt_at a0 x7_1
                    replace p9 := eq_true p9
                    replace q9 := eq_true q9
                    go_wp2
                    go_roundg kj3
                    case measure => have := HK1.out; have := HJ3.out; omega
                    case rel => exact ⟨(x4_1), (wrap64 (x5_1 + 1)), (x6_1), (wrap64 (x7_1 + 1)), (by first | rfl | (simp; done) | (simp [*]; done)), (by first | rfl | (simp; done) | (simp [*]; done)), (by first | rfl | (simp; done) | (simp [*]; done)), H', ⟨by have := HK1.out; have := HJ3.out; omega⟩, ⟨by (with_reducible repeat (first | apply Kd.R_alloc | apply Kd.R_drewN | apply Kd.R_drew)); exact HO_4.out⟩, ⟨by repeat (first | (with_reducible first | exact HB.out | apply below_alloc | apply pw_below_drewN | apply below_drew1) | exact HB.out)⟩⟩
                  · rw [if_neg c13] at H
                    have c13b0 : ((bt a0 x7_1) == 46) = false := beq_eq_false_iff_ne.mpr c13
                    have c13b1 : ((bt a0 x7_1) != 46) = true := bne_iff_ne.mpr c13
                    by_cases c14 : (bt a0 x7_1) = 47
                    · rw [if_pos c14] at H
                      have c14b0 : ((bt a0 x7_1) == 47) = true := beq_iff_eq.mpr c14
                      have c14b1 : ((bt a0 x7_1) != 47) = false := bne_eq_false_iff_eq.mpr c14
                      clear c14
                      have H' := Aside0.mk H
                      clear H
                      have p9 : 0 ≤ (x7_1 : Int) := of_decide_eq_true (by first | (with_reducible assumption) | assumption)
                      have q9 : x7_1 < (a0.size : Int) := of_decide_eq_true (by first | (with_reducible assumption) | assumption)
                      have hx9 := bt_at a0 x7_1
                      replace p9 := eq_true p9
                      replace q9 := eq_true q9
                      go_wp2
                      go_roundg kj3
                      case measure => have := HK1.out; have := HJ3.out; omega
                      case rel => exact ⟨(x4_1), (0), (wrap64 (x6_1 + 1)), (wrap64 (x7_1 + 1)), (by first | rfl | (simp; done) | (simp [*]; done)), (by first | rfl | (simp; done) | (simp [*]; done)), (by first | rfl | (simp; done) | (simp [*]; done)), H', ⟨by have := HK1.out; have := HJ3.out; omega⟩, ⟨by (with_reducible repeat (first | apply Kd.R_alloc | apply Kd.R_drewN | apply Kd.R_drew)); exact HO_4.out⟩, ⟨by repeat (first | (with_reducible first | exact HB.out | apply below_alloc | apply pw_below_drewN | apply below_drew1) | exact HB.out)⟩⟩
                    · rw [if_neg c14] at H
                      have c14b0 : ((bt a0 x7_1) == 47) = false := beq_eq_false_iff_ne.mpr c14
                      have c14b1 : ((bt a0 x7_1) != 47) = true := bne_iff_ne.mpr c14
                      obtain ⟨y161, hy161⟩ : ∃ y_ : List (S41), y_ = (([] : List (S41))) := ⟨_, rfl⟩
                      replace H : (some (y161, false)) = some (r1, r2) := by first | (rw [hy161]; with_reducible exact H) | (have H2_ := (Option.bind_some _ _).symm.trans H; rw [hy161]; with_reducible exact H2_) | (have H2_ := (Option.bind_some _ _).symm.trans H; with_reducible exact H2_) | with_reducible exact H | (rw [hy161]; exact H) | exact H
                      have Ny161 := Aside0.mk hy161
                      clear hy161
                      simp only [Option.some.injEq, Prod.mk.injEq] at H
                      obtain ⟨rfl, rfl⟩ := H
                      have p9 : 0 ≤ (x7_1 : Int) := of_decide_eq_true (by first | (with_reducible assumption) | assumption)
                      have q9 : x7_1 < (a0.size : Int) := of_decide_eq_true (by first | (with_reducible assumption) | assumption)
                      have hx9 := bt_at a0 x7_1
                      replace p9 := eq_true p9
                      replace q9 := eq_true q9
                      go_wp2_with (first | ((with_reducible refine gate_dst (N := 23) rfl ?_); (try (refine gate_guard (by rfl) ?_; dsimp only)); refine Kd.R_lit k41 _ 41 ?hg (N := 23) ?hd (xs := ([] : List (S41))) (inner := []) (ok := fun _ => True) (okp := fun _ => True) ?hr ?hp (fun _ hk => hk) trivial (Below.refl _ _) (Nat.le_refl _) (by simp) ?_; (case hd => rfl); (case hg => rfl); (case hr => first | (go_simp; done) | (go_simp; rfl)); (case hp => exact (Reps.none _ _)); intro v162 w15 ho16 hb hg_ hnew_; clear hg_ hnew_; (first | rw [← Ny161.out] at ho16 | (simp only [Int.reduceToNat] at ho16; rw [← Ny161.out] at ho16)); have n0_ := Aside0.mk (Kd.R_elder' (by (with_reducible repeat (first | apply Kd.R_alloc | apply Kd.R_drewN | apply Kd.R_drew)); exact HO_4.out) (Kd.R_base ho16) hb); have n1_ := Aside0.mk (Kd.R_lower (Kd.R_new' ho16 (Kd.R_lt (by (with_reducible repeat (first | apply Kd.R_alloc | apply Kd.R_drewN | apply Kd.R_drew)); exact HO_4.out))) (below_size (by repeat (first | (with_reducible first | exact HB.out | apply below_alloc | apply pw_below_drewN | apply below_drew1) | exact HB.out)))); have n2_ := Aside0.mk (below_step (by repeat (first | (with_reducible first | exact HB.out | apply below_alloc | apply pw_below_drewN | apply below_drew1) | exact HB.out)) hb); clear HO_4; clear HB; have HO_4 := n0_; have HO163 := n1_; have HB := n2_; clear n0_ n1_ n2_; clear hb ho16))
                      go_ret2
                      exact ⟨_, by first | rfl | (simp [errW_none, errW_some] <;> rfl) | (simp [*, errW_none, errW_some] <;> rfl), by (with_reducible repeat (first | apply Kd.R_alloc | apply Kd.R_drewN | apply Kd.R_drew)); exact Kd.R_mono HO163.out (fun _ hk => trivial), by repeat (first | (with_reducible first | exact HB.out | apply below_alloc | apply pw_below_drewN | apply below_drew1) | exact HB.out)⟩
              · rw [if_neg c8] at H
                exact absurd H (by simp)
            · rw [if_neg c7] at H
              exact absurd H (by simp)
          · replace c6 := Bool.eq_false_iff.mpr c6
            subst c6
            have H1 : (if a0.toList = ([] : List UInt8) then (some ((([] : List (S41))), false)) else ((spec_FormatShape.f kj3 x4_1).bind fun t154 => (if t154.toList = a0.toList then (some (x4_1, true)) else (some ((([] : List (S41))), false))))) = some (r1, r2) := by rw [if_neg (show ¬ (false = true) by decide)] at H; exact H
            clear H
            have H := H1
            clear H1
            by_cases c17 : a0.toList = ([] : List UInt8)
            · rw [if_pos c17] at H
              have c17b0 : (a0.toList == ([] : List UInt8)) = true := beq_iff_eq.mpr c17
              have c17b1 : (a0.toList != ([] : List UInt8)) = false := bne_eq_false_iff_eq.mpr c17
              clear c17
              obtain ⟨y151, hy151⟩ : ∃ y_ : List (S41), y_ = (([] : List (S41))) := ⟨_, rfl⟩
              replace H : (some (y151, false)) = some (r1, r2) := by first | (rw [hy151]; with_reducible exact H) | (have H2_ := (Option.bind_some _ _).symm.trans H; rw [hy151]; with_reducible exact H2_) | (have H2_ := (Option.bind_some _ _).symm.trans H; with_reducible exact H2_) | with_reducible exact H | (rw [hy151]; exact H) | exact H
              have Ny151 := Aside0.mk hy151
              clear hy151
              simp only [Option.some.injEq, Prod.mk.injEq] at H
              obtain ⟨rfl, rfl⟩ := H
              go_wp2_with (first | ((with_reducible refine gate_dst (N := 50) rfl ?_); (try (refine gate_guard (by rfl) ?_; dsimp only)); refine Kd.R_lit k41 _ 41 ?hg (N := 50) ?hd (xs := ([] : List (S41))) (inner := []) (ok := fun _ => True) (okp := fun _ => True) ?hr ?hp (fun _ hk => hk) trivial (Below.refl _ _) (Nat.le_refl _) (by simp) ?_; (case hd => rfl); (case hg => rfl); (case hr => first | (go_simp; done) | (go_simp; rfl)); (case hp => exact (Reps.none _ _)); intro v152 w18 ho19 hb hg_ hnew_; clear hg_ hnew_; (first | rw [← Ny151.out] at ho19 | (simp only [Int.reduceToNat] at ho19; rw [← Ny151.out] at ho19)); have n0_ := Aside0.mk (Kd.R_elder' (by (with_reducible repeat (first | apply Kd.R_alloc | apply Kd.R_drewN | apply Kd.R_drew)); exact HO_4.out) (Kd.R_base ho19) hb); have n1_ := Aside0.mk (Kd.R_lower (Kd.R_new' ho19 (Kd.R_lt (by (with_reducible repeat (first | apply Kd.R_alloc | apply Kd.R_drewN | apply Kd.R_drew)); exact HO_4.out))) (below_size (by repeat (first | (with_reducible first | exact HB.out | apply below_alloc | apply pw_below_drewN | apply below_drew1) | exact HB.out)))); have n2_ := Aside0.mk (below_step (by repeat (first | (with_reducible first | exact HB.out | apply below_alloc | apply pw_below_drewN | apply below_drew1) | exact HB.out)) hb); clear HO_4; clear HB; have HO_4 := n0_; have HO153 := n1_; have HB := n2_; clear n0_ n1_ n2_; clear hb ho19))
              go_ret2
              exact ⟨_, by first | rfl | (simp [errW_none, errW_some] <;> rfl) | (simp [*, errW_none, errW_some] <;> rfl), by (with_reducible repeat (first | apply Kd.R_alloc | apply Kd.R_drewN | apply Kd.R_drew)); exact Kd.R_mono HO153.out (fun _ hk => trivial), by repeat (first | (with_reducible first | exact HB.out | apply below_alloc | apply pw_below_drewN | apply below_drew1) | exact HB.out)⟩
            · rw [if_neg c17] at H
              have c17b0 : (a0.toList == ([] : List UInt8)) = false := beq_eq_false_iff_ne.mpr c17
              have c17b1 : (a0.toList != ([] : List UInt8)) = true := bne_iff_ne.mpr c17
              replace H := Option.bind_eq_some_iff.mp H
              obtain ⟨t154, A200, H⟩ := H
              replace H : (if t154.toList = a0.toList then (some (x4_1, true)) else (some ((([] : List (S41))), false))) = some (r1, r2) := H
              have A20 := Aside0.mk A200
              clear A200
              by_cases c21 : t154.toList = a0.toList
              · rw [if_pos c21] at H
                have c21b0 : (t154.toList == a0.toList) = true := beq_iff_eq.mpr c21
                have c21b1 : (t154.toList != a0.toList) = false := bne_eq_false_iff_eq.mpr c21
                clear c21
                simp only [Option.some.injEq, Prod.mk.injEq] at H
                obtain ⟨rfl, rfl⟩ := H
                obtain ⟨Ao22, co22, eo22⟩ := Kd.R_slice HO_4.out
                subst eo22
                go_wp2_with (first | (go_at_call 76; (with_reducible refine (spec_FormatShape.calls kj3 _ _ x4_1 t154 _ ?side1 ?side2 A20.out).mono ?_); (case side1 => repeat (first | exact (Kd.R_reads' HO_4.out).2.2 | (with_reducible refine Kd.C_alloc ?_ _) | (with_reducible refine Kd.C_drewN ?_ _) | (with_reducible refine Kd.C_drew ?_))); (case side2 => exact (Kd.R_reads' HO_4.out).2.1); rintro e w23 ⟨rfl, hb⟩; have n0_ := Aside0.mk (Kd.R_below (by (with_reducible repeat (first | apply Kd.R_alloc | apply Kd.R_drewN | apply Kd.R_drew)); exact HO_4.out) hb); have n1_ := Aside0.mk (below_step (by repeat (first | (with_reducible first | exact HB.out | apply below_alloc | apply pw_below_drewN | apply below_drew1) | exact HB.out)) hb); clear HO_4; clear HB; have HO_4 := n0_; have HB := n1_; clear n0_ n1_; (try clear hb); (try clear hb2); (try clear hk); (try clear hi)))
                go_ret2
                exact ⟨_, by first | rfl | (simp [errW_none, errW_some] <;> rfl) | (simp [*, errW_none, errW_some] <;> rfl), by (with_reducible repeat (first | apply Kd.R_alloc | apply Kd.R_drewN | apply Kd.R_drew)); exact HO_4.out, by repeat (first | (with_reducible first | exact HB.out | apply below_alloc | apply pw_below_drewN | apply below_drew1) | exact HB.out)⟩
              · rw [if_neg c21] at H
                have c21b0 : (t154.toList == a0.toList) = false := beq_eq_false_iff_ne.mpr c21
                have c21b1 : (t154.toList != a0.toList) = true := bne_iff_ne.mpr c21
                obtain ⟨y155, hy155⟩ : ∃ y_ : List (S41), y_ = (([] : List (S41))) := ⟨_, rfl⟩
                replace H : (some (y155, false)) = some (r1, r2) := by first | (rw [hy155]; with_reducible exact H) | (have H2_ := (Option.bind_some _ _).symm.trans H; rw [hy155]; with_reducible exact H2_) | (have H2_ := (Option.bind_some _ _).symm.trans H; with_reducible exact H2_) | with_reducible exact H | (rw [hy155]; exact H) | exact H
                have Ny155 := Aside0.mk hy155
                clear hy155
                simp only [Option.some.injEq, Prod.mk.injEq] at H
                obtain ⟨rfl, rfl⟩ := H
                obtain ⟨Ao24, co24, eo24⟩ := Kd.R_slice HO_4.out
                subst eo24
                go_wp2_with (first | (go_at_call 76; (with_reducible refine (spec_FormatShape.calls kj3 _ _ x4_1 t154 _ ?side1 ?side2 A20.out).mono ?_); (case side1 => repeat (first | exact (Kd.R_reads' HO_4.out).2.2 | (with_reducible refine Kd.C_alloc ?_ _) | (with_reducible refine Kd.C_drewN ?_ _) | (with_reducible refine Kd.C_drew ?_))); (case side2 => exact (Kd.R_reads' HO_4.out).2.1); rintro e w25 ⟨rfl, hb⟩; have n0_ := Aside0.mk (Kd.R_below (by (with_reducible repeat (first | apply Kd.R_alloc | apply Kd.R_drewN | apply Kd.R_drew)); exact HO_4.out) hb); have n1_ := Aside0.mk (below_step (by repeat (first | (with_reducible first | exact HB.out | apply below_alloc | apply pw_below_drewN | apply below_drew1) | exact HB.out)) hb); clear HO_4; clear HB; have HO_4 := n0_; have HB := n1_; clear n0_ n1_; (try clear hb); (try clear hb2); (try clear hk); (try clear hi)) | ((with_reducible refine gate_dst (N := 50) rfl ?_); (try (refine gate_guard (by rfl) ?_; dsimp only)); refine Kd.R_lit k41 _ 41 ?hg (N := 50) ?hd (xs := ([] : List (S41))) (inner := []) (ok := fun _ => True) (okp := fun _ => True) ?hr ?hp (fun _ hk => hk) trivial (Below.refl _ _) (Nat.le_refl _) (by simp) ?_; (case hd => rfl); (case hg => rfl); (case hr => first | (go_simp; done) | (go_simp; rfl)); (case hp => exact (Reps.none _ _)); intro v156 w26 ho27 hb hg_ hnew_; clear hg_ hnew_; (first | rw [← Ny155.out] at ho27 | (simp only [Int.reduceToNat] at ho27; rw [← Ny155.out] at ho27)); have n0_ := Aside0.mk (Kd.R_elder' (by (with_reducible repeat (first | apply Kd.R_alloc | apply Kd.R_drewN | apply Kd.R_drew)); exact HO_4.out) (Kd.R_base ho27) hb); have n1_ := Aside0.mk (Kd.R_lower (Kd.R_new' ho27 (Kd.R_lt (by (with_reducible repeat (first | apply Kd.R_alloc | apply Kd.R_drewN | apply Kd.R_drew)); exact HO_4.out))) (below_size (by repeat (first | (with_reducible first | exact HB.out | apply below_alloc | apply pw_below_drewN | apply below_drew1) | exact HB.out)))); have n2_ := Aside0.mk (below_step (by repeat (first | (with_reducible first | exact HB.out | apply below_alloc | apply pw_below_drewN | apply below_drew1) | exact HB.out)) hb); clear HO_4; clear HB; have HO_4 := n0_; have HO157 := n1_; have HB := n2_; clear n0_ n1_ n2_; clear hb ho27))
                go_ret2
                exact ⟨_, by first | rfl | (simp [errW_none, errW_some] <;> rfl) | (simp [*, errW_none, errW_some] <;> rfl), by (with_reducible repeat (first | apply Kd.R_alloc | apply Kd.R_drewN | apply Kd.R_drew)); exact Kd.R_mono HO157.out (fun _ hk => trivial), by repeat (first | (with_reducible first | exact HB.out | apply below_alloc | apply pw_below_drewN | apply below_drew1) | exact HB.out)⟩
end Go.Proofs.Ytlohfeicfhmlmaa.PFnOutlines

namespace Go.Proofs.Ytlohfeicfhmlmaa.PFnOutlines
open Go.RowKit Go.Proofs.YtlohfeicfhmlmaaW.PrintWords Go.Proofs.YtlohfeicfhmlmaaW.PrintLast Go.Proofs.YtlohfeicfhmlmaaW.PrintMore ETool
set_option maxHeartbeats 4000000 in
set_option maxRecDepth 100000 in
theorem sOnce (w0 w : World) (g : Nat) (n : Int) (hn : n ≤ 256) (hC : Cu w0 w g) (hB : Below w0.heap.size w0 w) :
    Calls Try.prog 58 #[.pointer (some ⟨g, 0, none⟩), .int .i64 n] w fun e w' => ∃ b : Bool, e = .returned (.bool b) ∧ Dr w0 w w' g := by
  have HBE := Aside0.mk (sBelow (w0 := w0) (g := g) hn hC hB)
  clear hC hB
  go_enter Try.func58, Try.ntmps58
  go_wp2_with (first | (go_at_call 75; (with_reducible refine HBE.out.mono ?_); rintro e w5 ⟨t, rfl, ht, _, hd⟩; have HD := Aside0.mk hd; clear hd ht))
  go_ret
  exact ⟨_, rfl, HD.out⟩
set_option maxHeartbeats 4000000 in
set_option maxRecDepth 100000 in
theorem sShape2 (w0 w : World) (g : Nat) (hC : Cu w0 w g) (hB : Below w0.heap.size w0 w) :
    Calls Try.prog 77 #[.pointer (some ⟨g, 0, none⟩)] w fun e w' => ∃ (v : Value) (zs : List S41), e = .returned v ∧ Kd.R k41 41 w' w.heap.size (fun _ => True) v zs ∧ 1 ≤ zs.length ∧ zs.length ≤ 100 ∧ Dr w0 w w' g := by
  have HBE := Aside0.mk (sBelow (w0 := w0) (g := g) (n := 7) (by omega) hC hB)
  clear hC hB
  go_enter Try.func77, Try.ntmps77
  go_wp2_with (first
    | (go_at_call 75; (with_reducible refine HBE.out.mono ?_); rintro e w5 ⟨t, rfl, ht, _, hd⟩; have HD := Aside0.mk hd; obtain ⟨ht0, ht1⟩ := ht (by omega); have HG := Aside0.mk (sGrow w0 w5 g (1 + t) hd.cu hd.bel (by omega) (by omega)); clear hd ht)
    | (go_at_call 82; (with_reducible refine HG.out.mono ?_); rintro e w6 ⟨v, zs, rfl, ho, l1, l2, hd⟩; have HO := Aside0.mk (Kd.R_lower ho HD.out.keep.1); have HL1 := Aside0.mk l1; have HL2 := Aside0.mk l2; have HD6 := Aside0.mk (HD.out.trans hd); clear ho hd l1 l2))
  go_ret
  exact ⟨_, zs, rfl, HO.out, HL1.out, HL2.out, HD6.out⟩
theorem sPickInt (w0 w : World) (g : Nat) (A1 : Option Addr) (c1 : Nat) (l1 : List Int) (hl : 1 ≤ l1.length) (hl2 : l1.length ≤ 256) (hC : Cu w0 w g) (hB : Below w0.heap.size w0 w) (hr1 : Kd.C (Kd.int .i64) w A1 l1.length l1) (hc1 : l1.length ≤ c1) (hf1 : ∀ ad, A1 = some ad → 0 < l1.length → ad.block ≠ g) :
    Calls Try.prog 78 #[.pointer (some ⟨g, 0, none⟩), .slice A1 l1.length c1] w fun e w' => ∃ t : Int, e = .returned (.int .i64 t) ∧ Dr w0 w w' g := by
  obtain ⟨s, i, h, h0, h1, hI⟩ := hC
  obtain ⟨t, i', h', e, k1, k2, k3, k4⟩ := below_some (h := h) (n := (l1.length : Int)) (by omega) h0 h1 (Cu.size hI)
  obtain ⟨t0, t1⟩ := k1 (by omega)
  refine (spec_l1PickInt.calls g s i h A1 c1 l1 (rd l1 t) i' h' w0 w hI hB hr1 hc1 hf1 ?_).mono ?_
  · unfold spec_l1PickInt.f
    rw [e]
    simp only [Option.bind_some]
    rw [if_pos t0, if_pos t1]
  · rintro e' w' ⟨rfl, hi, hb, hk⟩
    exact ⟨_, rfl, ⟨s, i', h', k3, k4, hi⟩, hb, hk⟩
theorem sPick (w0 w : World) (g : Nat) (A1 : Option Addr) (c1 : Nat) (l1 : List ByteArray) (hl : 1 ≤ l1.length) (hl2 : l1.length ≤ 256) (hC : Cu w0 w g) (hB : Below w0.heap.size w0 w) (hr1 : Kd.C Kd.string w A1 l1.length l1) (hc1 : l1.length ≤ c1) (hf1 : ∀ ad, A1 = some ad → 0 < l1.length → ad.block ≠ g) :
    Calls Try.prog 60 #[.pointer (some ⟨g, 0, none⟩), .slice A1 l1.length c1] w fun e w' => ∃ s : ByteArray, e = .returned (.string s) ∧ s ∈ l1 ∧ Dr w0 w w' g := by
  obtain ⟨s, i, h, h0, h1, hI⟩ := hC
  obtain ⟨t, i', h', e, k1, k2, k3, k4⟩ := below_some (h := h) (n := (l1.length : Int)) (by omega) h0 h1 (Cu.size hI)
  obtain ⟨t0, t1⟩ := k1 (by omega)
  refine (spec_l1Pick.calls g s i h A1 c1 l1 (rdOf ByteArray.empty l1 t) i' h' w0 w hI hB hr1 hc1 hf1 ?_).mono ?_
  · unfold spec_l1Pick.f
    rw [e]
    simp only [Option.bind_some]
    rw [if_pos t0, if_pos t1]
  · rintro e' w' ⟨rfl, hi, hb, hk⟩
    refine ⟨_, rfl, ?_, ⟨s, i', h', k3, k4, hi⟩, hb, hk⟩
    unfold rdOf
    rw [List.getD_eq_getElem?_getD, List.getElem?_eq_getElem (by omega)]
    exact List.getElem_mem _
def five : List ByteArray := [(⟨#[35, 35, 35, 47, 35, 46, 35, 47, 35, 35, 35]⟩ : ByteArray), (⟨#[35, 35, 35, 47, 35, 46, 35, 47, 35, 35]⟩ : ByteArray), (⟨#[46, 35, 35, 47, 35, 46, 35, 47, 35, 35, 35]⟩ : ByteArray), (⟨#[35, 35, 47, 35, 46, 35, 47, 46, 35, 35]⟩ : ByteArray), (⟨#[35, 46, 35]⟩ : ByteArray)]
set_option maxRecDepth 1000000 in
theorem five_parse : five.all (fun s => (spec_ParseShape.f 200 s).isSome) = true := by decide +kernel
theorem sParse (s : ByteArray) (hs : s ∈ five) (w : World) :
    Calls Try.prog 59 #[.string s] w fun e w' => ∃ (v0 : Value) (b : Bool) (zs : List S41), e = .returned (.tuple #[v0, .bool b]) ∧ Kd.R k41 41 w' w.heap.size (fun _ => True) v0 zs ∧ Below w.heap.size w w' := by
  have h := List.all_eq_true.mp five_parse s hs
  obtain ⟨⟨r1, r2⟩, hr⟩ := Option.isSome_iff_exists.mp h
  refine (spec_ParseShape.calls 200 s r1 r2 w hr).mono ?_
  rintro e w' ⟨v0, rfl, ho, hb⟩
  exact ⟨v0, r2, r1, rfl, ho, hb⟩
/-- What comes back: a list of cells that can be read. -/
def Back (w0 w : World) (g : Nat) (e : Ending) (w' : World) : Prop := ∃ (A : Option Addr) (c : Nat) (l : List S41), e = .returned (.slice A l.length c) ∧ l.length ≤ c ∧ Kd.C k41 w' A l.length l ∧ Dr w0 w w' g
theorem Back.of {w0 w w' : World} {g base : Nat} {v : Value} {zs : List S41} {ok : Nat → Prop} (h : Kd.R k41 41 w' base ok v zs) (hd : Dr w0 w w' g) : Back w0 w g (.returned v) w' := by
  obtain ⟨A, c, rfl, hl, hc⟩ := Kd.R_reads h
  exact ⟨A, c, zs, rfl, hl, hc, hd⟩
theorem C_set0 {W : World} {ad : Addr} {zs : List S41} (h : Kd.C k41 W (some ad) zs.length zs) (hp : 0 < zs.length) (hs : ad.spot = none) (t : Int) : Kd.C k41 (W.setCell ad (.int .i64 t)) (some ad) zs.length (⟨t, (rd_T41 zs 0).f1⟩ :: zs.drop 1) := by
  obtain ⟨n, hn⟩ : ∃ n, zs.length = n + 1 := ⟨zs.length - 1, by omega⟩
  refine ⟨by simp; omega, h.2.1, fun _ => ⟨ad, rfl, fun j p hj => ?_⟩⟩
  obtain ⟨ad', e', hc⟩ := h.2.2 hp
  cases e'
  have h00 : zs[0]? = some (rd_T41 zs 0) := by
    unfold rd_T41
    rw [List.getD_eq_getElem?_getD, show (0 : Int).toNat = 0 from rfl, List.getElem?_eq_getElem hp]
    rfl
  have key : ∀ m, m ≠ 0 → (W.setCell ad (.int .i64 t)).cell? (ad.add m) = W.cell? (ad.add m) := by
    intro m hm
    refine World.cell?_setCell_other _ _ _ _ ?_
    intro e
    have := congrArg Addr.off e
    unfold Addr.add at this
    rw [if_neg hm] at this
    simp at this
    omega
  rcases j with _ | j
  · simp only [List.getElem?_cons_zero, Option.some.injEq] at hj
    subst hj
    obtain ⟨c, hsz, hK, hcell⟩ := hc 0 _ h00
    have hK2 := k41_open hK
    subst hK2
    refine ⟨_, rfl, k41_mk _ _, fun i u hu => ?_⟩
    rcases i with _ | _ | i
    · simp at hu
      subst hu
      have h0 := hcell 0 _ rfl
      rw [show 0 * k41.sz + 0 = 0 by omega, Addr.add_zero'] at h0 ⊢
      exact World.cell?_setCell_same (h := h0) ..
    · simp at hu
      subst hu
      rw [key _ (by omega)]
      exact hcell 1 _ rfl
    · simp at hu
  · rw [List.getElem?_cons_succ, List.getElem?_drop] at hj
    obtain ⟨c, hsz, hK, hcell⟩ := hc (1 + j) p hj
    refine ⟨c, hsz, by rw [k41_open hK]; exact k41_mk _ _, fun i u hu => ?_⟩
    have hz : k41.sz = 2 := rfl
    rw [key _ (by rw [hz]; omega), show (j + 1) * k41.sz + i = (1 + j) * k41.sz + i by rw [Nat.add_comm j 1]]
    exact hcell i u hu
theorem Dr.set {w0 w W : World} {g gs : Nat} (h : Dr w0 w W g) (h1 : w.heap.size ≤ gs) (h2 : gs ≠ g) (hw : w0.heap.size ≤ w.heap.size) (j : Nat) (u : Value) : Dr w0 w (W.setCell ⟨gs, j, none⟩ u) g := by
  obtain ⟨s, i, y, k0, k1, k2⟩ := h.cu
  exact ⟨⟨s, i, y, k0, k1, k2.far (p := ⟨gs, j, none⟩) (fun e => h2 e.symm) u⟩, below_set h.bel (Nat.le_trans hw h1), keep_far h.keep h1 u⟩
end Go.Proofs.Ytlohfeicfhmlmaa.PFnOutlines

namespace Go.Proofs.Ytlohfeicfhmlmaa.PFnOutlines
open Go.RowKit Go.Proofs.YtlohfeicfhmlmaaW.PrintWords Go.Proofs.YtlohfeicfhmlmaaW.PrintLast Go.Proofs.YtlohfeicfhmlmaaW.PrintMore ETool
set_option maxHeartbeats 4000000 in
set_option maxRecDepth 100000 in
theorem sAny (w0 w : World) (g : Nat) (hC : Cu w0 w g) (hB : Below w0.heap.size w0 w) :
    Calls Try.prog 61 #[.pointer (some ⟨g, 0, none⟩)] w (Back w0 w g) := by
  have hu41 := Try.underlying41
  have HSH := Aside0.mk (sShape2 w0 w g hC hB)
  have HW0 := Aside0.mk hB.size
  clear hC hB
  go_enter Try.func61, Try.ntmps61
  go_upto_region 3 with (first
    | (go_at_call 77; (with_reducible refine HSH.out.mono ?_); rintro e w5 ⟨v, zs, rfl, ho, l1, l2, hd⟩; have HO := Aside0.mk ho; have HD := Aside0.mk hd; have HL1 := Aside0.mk l1; have HL2 := Aside0.mk l2; clear ho hd l1 l2 HSH)
    | (go_at_call 75; (with_reducible refine (sBelow (w0 := w0) (g := g) (n := 12) (by omega) HD.out.cu HD.out.bel).mono ?_); rintro e w6 ⟨d, rfl, ht, _, hd⟩; have HOd := Aside0.mk (R_dr HO.out HD.out.cu hd.keep); have HDd := Aside0.mk (HD.out.trans hd); obtain ⟨d0, d1⟩ := ht (by omega); clear ht hd))
  clear HO HD
  have hl1 := HL1.out
  have hl2 := HL2.out
  obtain ⟨gs, cz, ez, gsb, gsl, cl, hcl⟩ := Kd.R_form HOd.out (by omega)
  subst ez
  have GNE := Aside0.mk ((R_ne_g HOd.out HDd.out.cu gs rfl).2)
  have GSB := Aside0.mk gsb
  have HCL := Aside0.mk hcl
  obtain ⟨_, hcz, _⟩ := Kd.R_reads' HOd.out
  clear gsb gsl hcl HL1 HL2
  by_cases h0 : d = 0
  · subst h0
    go_wp2_with (first | (go_at_call 75; (with_reducible refine (sBelow (w0 := w0) (g := g) (n := 9) (by omega) HDda.out.cu HDda.out.bel).mono ?_); rintro e w8 ⟨b, rfl, ht, _, hd⟩; have HOdab := Aside0.mk (R_dr HOda.out HDda.out.cu hd.keep); have HDdab := Aside0.mk (HDda.out.trans hd); obtain ⟨b0, b1⟩ := ht (by omega); clear ht hd) | (go_at_call 75; (with_reducible refine (sBelow (w0 := w0) (g := g) (n := 9) (by omega) HDd.out.cu HDd.out.bel).mono ?_); rintro e w7 ⟨a, rfl, ht, _, hd⟩; have HOda := Aside0.mk (R_dr HOd.out HDd.out.cu hd.keep); have HDda := Aside0.mk (HDd.out.trans hd); obtain ⟨a0, a1⟩ := ht (by omega); clear ht hd) | ((with_reducible refine gate_builtin (b := .append) (xs := #[.tmp 10, .tmp 17]) rfl ?_); at_builtin; refine Kd.R_append k41 w.heap.size rfl (.tmp 10) (.tmp 17) 24 41 (.agg #[(.int .i64 0), (.int .i64 0)]) 16 rfl Try.underlying24 info41 rfl (by decide) (by omega) (.slice (some ⟨gs, 0, none⟩) zs.length cz) zs (⟨a - 1, b⟩ : S41) [.int .i64 (a - 1), .int .i64 (b)] (fun _ => True) (fun _ => False) rfl (by first | (go_simp; done) | (go_simp; rfl)) ?aP (fun _ hk => hk.elim) ?aF ?aO (Below.refl _ _) ?aS ?aL ?_; (case aP => exact k41_mkM _ _ _ (⟨a - 1, b⟩ : S41)); (case aF => exact (fun _ _ => trivial)); (case aO => exact HOdab.out); (case aS => exact HDdab.out.keep.1); (case aL => omega); intro v9 w9 ho hb hg hat; have HO9 := Aside0.mk ho; have HD9 := Aside0.mk (HDdab.out.grown hg (R_ne_g HOdab.out HDdab.out.cu) HW0.out); clear ho hb hg hat))
    go_ret
    exact Back.of HO9.out HD9.out
  by_cases h1 : d = 1
  · subst h1
    clear h0
    go_wp2_with (first | (go_at_call 75; (with_reducible refine (sBelow (w0 := w0) (g := g) (n := 8) (by omega) HDda.out.cu HDda.out.bel).mono ?_); rintro e w8 ⟨b, rfl, ht, _, hd⟩; have HOdab := Aside0.mk (R_dr HOda.out HDda.out.cu hd.keep); have HDdab := Aside0.mk (HDda.out.trans hd); obtain ⟨b0, b1⟩ := ht (by omega); clear ht hd) | (go_at_call 75; (with_reducible refine (sBelow (w0 := w0) (g := g) (n := 8) (by omega) HDd.out.cu HDd.out.bel).mono ?_); rintro e w7 ⟨a, rfl, ht, _, hd⟩; have HOda := Aside0.mk (R_dr HOd.out HDd.out.cu hd.keep); have HDda := Aside0.mk (HDd.out.trans hd); obtain ⟨a0, a1⟩ := ht (by omega); clear ht hd) | ((with_reducible refine gate_builtin (b := .append) (xs := #[.tmp 21, .tmp 27]) rfl ?_); at_builtin; refine Kd.R_append k41 w.heap.size rfl (.tmp 21) (.tmp 27) 24 41 (.agg #[(.int .i64 0), (.int .i64 0)]) 16 rfl Try.underlying24 info41 rfl (by decide) (by omega) (.slice (some ⟨gs, 0, none⟩) zs.length cz) zs (⟨a, b⟩ : S41) [.int .i64 (a), .int .i64 (b)] (fun _ => True) (fun _ => False) rfl (by first | (go_simp; done) | (go_simp; rfl)) ?aP (fun _ hk => hk.elim) ?aF ?aO (Below.refl _ _) ?aS ?aL ?_; (case aP => exact k41_mkM _ _ _ (⟨a, b⟩ : S41)); (case aF => exact (fun _ _ => trivial)); (case aO => exact HOdab.out); (case aS => exact HDdab.out.keep.1); (case aL => omega); intro v9 w9 ho hb hg hat; obtain ⟨ys, hys⟩ : ∃ ys, ys = zs ++ [(⟨a, b⟩ : S41)] := ⟨_, rfl⟩; rw [← hys] at ho; have HYL := Aside0.mk (show ys.length ≤ 1000 from by rw [hys, List.length_append]; simp only [List.length_cons, List.length_nil]; omega); clear hys; have HO9 := Aside0.mk ho; have HD9 := Aside0.mk (HDdab.out.grown hg (R_ne_g HOdab.out HDdab.out.cu) HW0.out); clear ho hb hg hat; obtain ⟨A9, c9, rfl, hl9, hc9⟩ := Kd.R_reads HO9.out; have HS9 := Aside0.mk (sSort A9 c9 ys w9 hc9 hl9 HYL.out); clear hl9 hc9) | (go_at_call 67; (with_reducible refine HS9.out.mono ?_); rintro e w10 ⟨v0, rfl, ho, hb⟩; have HO10 := Aside0.mk ho; have HD10 := Aside0.mk (HD9.out.below hb); clear ho hb))
    go_ret
    exact Back.of HO10.out HD10.out
  by_cases h2 : d = 2
  · subst h2
    clear h0 h1
    obtain ⟨i0, hi0', _, hsz, _⟩ := info_parts info41
    have hcut := cut_from (P := Try.prog) 24 41 .i64 Try.underlying24 hi0' 2 hsz (some ⟨gs, 0, none⟩) zs.length cz 1 (by omega) (by omega)
    have HCD := Aside0.mk (Kd.C_drop (m := 1) (Kd.R_reads' HOd.out).2.2 (by omega) hcz)
    obtain ⟨A8, hA8⟩ : ∃ A1, A1 = (if cz = (1 : Int).toNat then some ⟨gs, 0, none⟩ else (some ⟨gs, 0, none⟩ : Option Addr).map (·.add ((1 : Int).toNat * 2))) := ⟨_, rfl⟩
    have HA8 := Aside0.mk hA8
    rw [← hA8] at hcut
    clear hi0' hsz hA8
    go_wp2
    go_ret
    refine ⟨A8, cz - 1, zs.drop 1, ?_, ?_, ?_, HDd.out⟩
    · rw [List.length_drop]
      rfl
    · rw [List.length_drop]
      have : (1 : Int).toNat = 1 := rfl
      omega
    · rw [HA8.out]
      exact HCD.out
  by_cases h3 : d = 3
  · subst h3
    clear h0 h1 h2
    have HC0 := Aside0.mk (Kd.R_reads' HOd.out).2.2
    obtain ⟨ad, ead, hx0, hx1⟩ := at_T41 HC0.out 0 (by omega) (by omega)
    cases ead
    rw [show ((0 : Int).toNat * 2) = 0 from rfl, Addr.add_zero'] at hx0
    have hfr := blk_frozen HCL.out 0
    clear hx1 HC0
    go_upto_region 11 with (first
      | ((with_reducible refine gate_dst (N := 38) rfl ?_); refine Kd.R_lit (Kd.int .i64) _ 3 ?hg (N := 38) ?hd (xs := ([(-1), 8, 9223372036854775807] : List Int)) (inner := [.int .i64 (-1), .int .i64 8, .int .i64 9223372036854775807]) (ok := fun _ => True) (okp := fun _ => True) ?hr ?hp (fun _ hk => hk) trivial (Below.refl _ _) (Nat.le_refl _) (by simp) ?_; (case hd => rfl); (case hg => rfl); (case hr => first | (go_simp; done) | (go_simp; rfl)); (case hp => exact (Reps.one (show Kd.M (Kd.int .i64) _ _ _ (-1) [.int .i64 (-1)] from rfl) (Reps.one (show Kd.M (Kd.int .i64) _ _ _ 8 [.int .i64 8] from rfl) (Reps.one (show Kd.M (Kd.int .i64) _ _ _ 9223372036854775807 [.int .i64 9223372036854775807] from rfl) (Reps.none _ _))))); intro v7 w7 ho hb hg_ hnew_; obtain ⟨pl, hpl⟩ : ∃ pl : List Int, pl = [(-1), 8, 9223372036854775807] := ⟨_, rfl⟩; rw [← hpl] at ho; have HPL := Aside0.mk (show pl.length = 3 from by rw [hpl]; rfl); have HPB := Aside0.mk (Kd.R_bound ho).1; obtain ⟨A7, c7, rfl, hl7, hc7⟩ := Kd.R_reads ho; have HD7 := Aside0.mk (HDd.out.below hb); have HO7 := Aside0.mk (Kd.R_below HOd.out hb); have hx7 : w7.cell? ⟨gs, 0, none⟩ = _ := BW.cell hx0 ⟨w7, hb⟩; have hf7 := (blk_frozen (blk_below HCL.out hb) 0 : w7.frozen? ⟨gs, 0, none⟩ = false); have HCL7 := Aside0.mk (blk_below HCL.out hb); have HPI := Aside0.mk (sPickInt w0 w7 g A7 c7 pl (by rw [HPL.out]; omega) (by rw [HPL.out]; omega) HD7.out.cu HD7.out.bel hc7 hl7 (fun ad e _ => by subst e; have h1 := (HPB.out ad.block rfl).2.1; have h2 := HDd.out.cu.lt; omega)); clear hpl ho hb hg_ hnew_ hl7 hc7)
      | (go_at_call 78; (with_reducible refine HPI.out.mono ?_); rintro e w8 ⟨t, rfl, hd⟩; have HD8 := Aside0.mk (HD7.out.trans hd); have hx8 : w8.cell? ⟨gs, 0, none⟩ = _ := cell_keep hx7 hd.keep GNE.out; have HO8 := Aside0.mk (R_dr HO7.out HD7.out.cu hd.keep); have HCL8 := Aside0.mk ((hd.keep.2 gs (blk_lt HCL7.out) GNE.out (by simp)).trans HCL7.out); have hf8 := (blk_frozen HCL8.out 0 : w8.frozen? ⟨gs, 0, none⟩ = false); clear hd))
    go_wp2
    go_ret
    exact ⟨_, cz, ⟨t, (rd_T41 zs 0).f1⟩ :: zs.drop 1, by rw [show (⟨t, (rd_T41 zs 0).f1⟩ :: zs.drop 1 : List S41).length = zs.length by simp; omega]; rfl, by simp; omega, by rw [show (⟨t, (rd_T41 zs 0).f1⟩ :: zs.drop 1 : List S41).length = zs.length by simp; omega]; exact C_set0 (Kd.R_reads' HO8.out).2.2 (by omega) rfl t, HD8.out.set GSB.out GNE.out HW0.out 0 _⟩
  · have e0 : (d == 0) = false := by simpa using h0
    have e1 : (d == 1) = false := by simpa using h1
    have e2 : (d == 2) = false := by simpa using h2
    have e3 : (d == 3) = false := by simpa using h3
    clear h0 h1 h2 h3
    go_wp2
    go_ret
    exact Back.of HOd.out HDd.out
end Go.Proofs.Ytlohfeicfhmlmaa.PFnOutlines

namespace Go.Proofs.Ytlohfeicfhmlmaa.PFnOutlines
open Go.RowKit Go.Proofs.YtlohfeicfhmlmaaW.PrintWords Go.Proofs.YtlohfeicfhmlmaaW.PrintLast Go.Proofs.YtlohfeicfhmlmaaW.PrintMore ETool
set_option maxHeartbeats 4000000 in
set_option maxRecDepth 100000 in
theorem sHoley (w0 w : World) (g : Nat) (hC : Cu w0 w g) (hB : Below w0.heap.size w0 w) :
    Calls Try.prog 30 #[.pointer (some ⟨g, 0, none⟩)] w (Back w0 w g) := by
  have HON := Aside0.mk (sOnce w0 w g 3 (by omega) hC hB)
  clear hC hB
  go_enter Try.func30, Try.ntmps30
  go_wp2_with (first
    | (go_at_call 58; (with_reducible refine HON.out.mono ?_); rintro e w6 ⟨b, rfl, hd⟩; have HD6 := Aside0.mk hd; clear hd)
    | (go_at_call 61; (with_reducible refine (sAny w0 _ g HD6.out.cu HD6.out.bel).mono ?_); rintro e w8 ⟨A, c, l, rfl, hl, hc, hd⟩; have HC8 := Aside0.mk hc; have HL8 := Aside0.mk hl; have HD8 := Aside0.mk (HD6.out.trans hd); clear hl hc hd)
    | ((with_reducible refine gate_dst (N := 9) rfl ?_); refine Kd.R_lit Kd.string _ 9 ?hg (N := 9) ?hd (xs := ([(⟨#[35, 35, 35, 47, 35, 46, 35, 47, 35, 35, 35]⟩ : ByteArray), (⟨#[35, 35, 35, 47, 35, 46, 35, 47, 35, 35]⟩ : ByteArray), (⟨#[46, 35, 35, 47, 35, 46, 35, 47, 35, 35, 35]⟩ : ByteArray), (⟨#[35, 35, 47, 35, 46, 35, 47, 46, 35, 35]⟩ : ByteArray), (⟨#[35, 46, 35]⟩ : ByteArray)] : List ByteArray)) (inner := [.string (⟨#[35, 35, 35, 47, 35, 46, 35, 47, 35, 35, 35]⟩ : ByteArray), .string (⟨#[35, 35, 35, 47, 35, 46, 35, 47, 35, 35]⟩ : ByteArray), .string (⟨#[46, 35, 35, 47, 35, 46, 35, 47, 35, 35, 35]⟩ : ByteArray), .string (⟨#[35, 35, 47, 35, 46, 35, 47, 46, 35, 35]⟩ : ByteArray), .string (⟨#[35, 46, 35]⟩ : ByteArray)]) (ok := fun _ => True) (okp := fun _ => True) ?hr ?hp (fun _ hk => hk) trivial (Below.refl _ _) (Nat.le_refl _) (by simp) ?_; (case hd => rfl); (case hg => rfl); (case hr => first | (go_simp; done) | (go_simp; rfl)); (case hp => exact (Reps.one (show Kd.M Kd.string _ _ _ (⟨#[35, 35, 35, 47, 35, 46, 35, 47, 35, 35, 35]⟩ : ByteArray) [.string (⟨#[35, 35, 35, 47, 35, 46, 35, 47, 35, 35, 35]⟩ : ByteArray)] from rfl) (Reps.one (show Kd.M Kd.string _ _ _ (⟨#[35, 35, 35, 47, 35, 46, 35, 47, 35, 35]⟩ : ByteArray) [.string (⟨#[35, 35, 35, 47, 35, 46, 35, 47, 35, 35]⟩ : ByteArray)] from rfl) (Reps.one (show Kd.M Kd.string _ _ _ (⟨#[46, 35, 35, 47, 35, 46, 35, 47, 35, 35, 35]⟩ : ByteArray) [.string (⟨#[46, 35, 35, 47, 35, 46, 35, 47, 35, 35, 35]⟩ : ByteArray)] from rfl) (Reps.one (show Kd.M Kd.string _ _ _ (⟨#[35, 35, 47, 35, 46, 35, 47, 46, 35, 35]⟩ : ByteArray) [.string (⟨#[35, 35, 47, 35, 46, 35, 47, 46, 35, 35]⟩ : ByteArray)] from rfl) (Reps.one (show Kd.M Kd.string _ _ _ (⟨#[35, 46, 35]⟩ : ByteArray) [.string (⟨#[35, 46, 35]⟩ : ByteArray)] from rfl) (Reps.none _ _))))))); intro v9 w9 ho hb hg_ hnew_; obtain ⟨pl, hpl⟩ : ∃ pl : List ByteArray, pl = five := ⟨_, rfl⟩; replace ho : Kd.R Kd.string 9 w9 _ _ v9 five := ho; rw [← hpl] at ho; have HPL := Aside0.mk (show pl.length = 5 from by rw [hpl]; rfl); have HPF := Aside0.mk hpl; have HPB := Aside0.mk (Kd.R_bound ho).1; obtain ⟨A9, c9, rfl, hl9, hc9⟩ := Kd.R_reads ho; have HD9 := Aside0.mk (HD6.out.below hb); have HPI := Aside0.mk (sPick w0 w9 g A9 c9 pl (by rw [HPL.out]; omega) (by rw [HPL.out]; omega) HD9.out.cu HD9.out.bel hc9 hl9 (fun ad e _ => by subst e; have h1 := (HPB.out ad.block rfl).2.1; have h2 := HD6.out.cu.lt; omega)); clear hpl ho hb hg_ hnew_ hl9 hc9)
      | (go_at_call 60; (with_reducible refine HPI.out.mono ?_); rintro e w10 ⟨s, rfl, hs, hd⟩; have HS := Aside0.mk (sParse s (by rw [← HPF.out]; exact hs) w10); have HD10 := Aside0.mk (HD9.out.trans hd); clear hs hd)
      | (go_at_call 59; (with_reducible refine HS.out.mono ?_); rintro e w11 ⟨v0, b, zs, rfl, ho, hb⟩; have HO := Aside0.mk ho; have HD11 := Aside0.mk (HD10.out.below hb); clear ho hb))
  · go_ret
    exact Back.of HO.out HD11.out
  · go_ret
    exact ⟨A, c, l, rfl, HL8.out, HC8.out, HD8.out⟩
theorem sDraw (A0 : Option Addr) (c0 : Nat) (l0 : List Int) (w : World) (hr0 : Kd.C (Kd.int .u8) w A0 l0.length l0) (hc0 : l0.length ≤ c0) :
    Calls Try.prog 6 #[.slice A0 l0.length c0] w fun e w' => ∃ (A : Option Addr) (c : Nat) (l : List S41), e = .returned (.slice A l.length c) ∧ l.length ≤ c ∧ Kd.C k41 w' A l.length l ∧ Below w.heap.size w w' := by
  have HN := Aside0.mk (sNew A0 c0 l0 w hr0 hc0)
  clear hr0 hc0
  go_enter Try.func6, Try.ntmps6
  go_wp2_with (first
    | (go_at_call 31; (with_reducible refine HN.out.mono ?_); rintro e w4 ⟨g, rfl, hc, hb⟩; have HH := Aside0.mk (sHoley w w4 g hc hb); clear hc hb)
    | (go_at_call 30; (with_reducible refine HH.out.mono ?_); rintro e w5 ⟨A, c, l, rfl, hl, hc, hd⟩; have HC5 := Aside0.mk hc; have HL5 := Aside0.mk hl; have HD5 := Aside0.mk hd; clear hl hc hd))
  go_ret
  exact ⟨A, c, l, rfl, HL5.out, HC5.out, HD5.out.bel⟩
end Go.Proofs.Ytlohfeicfhmlmaa.PFnOutlines
