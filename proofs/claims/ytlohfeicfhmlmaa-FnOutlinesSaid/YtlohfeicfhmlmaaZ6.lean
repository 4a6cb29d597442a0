/- A part of the proof that the law answers true for every input; this part bears lemmas that hold with no condition beyond those that each of them names. -/
import Derived.Test.YtlohfeicfhmlmaaZ5
set_option linter.unusedVariables false
set_option linter.unusedSimpArgs false
namespace Go.Proofs.Ytlohfeicfhmlmaa.PFnOutlines
open Go.RowKit Go.Proofs.YtlohfeicfhmlmaaW.PrintWords Go.Proofs.YtlohfeicfhmlmaaW.PrintLast Go.Proofs.YtlohfeicfhmlmaaW.PrintMore ETool Poly
theorem tb_eq (m i : Nat) : tb m i = m.testBit i := by
  rw [Nat.testBit_eq_decide_div_mod_eq]
  unfold tb
  rw [Bool.eq_iff_iff, decide_eq_true_iff]
  have e : Nat.mod (Nat.shiftRight m i) 2 = m / 2 ^ i % 2 := by
    show (m >>> i) % 2 = _
    rw [Nat.shiftRight_eq_div_pow]
  rw [e]
  exact ⟨Nat.eq_of_beq_eq_true, fun h => by rw [h]; rfl⟩
def ixI (a b : Int) (x y : Int) : Int := (y - b + 1) * 10 + (x - a + 1)
def ix (a b : Int) (c : S41) : Nat := (ixI a b c.f0 c.f1).toNat
def inBox (a b n : Int) (c : S41) : Prop := a ≤ c.f0 ∧ c.f0 < a + n ∧ b ≤ c.f1 ∧ c.f1 < b + n
def msk (a b : Int) : List S41 → Nat
  | [] => 0
  | c :: zs => Nat.lor (msk a b zs) (Nat.shiftLeft 1 (ix a b c))
theorem msk_bit (a b : Int) (i : Nat) : ∀ zs : List S41, (msk a b zs).testBit i = zs.any fun c => decide (ix a b c = i)
  | [] => by simp [msk]
  | c :: zs => by
    show (msk a b zs ||| (1 <<< ix a b c)).testBit i = _
    rw [Nat.testBit_or, msk_bit a b i zs, Nat.one_shiftLeft, Nat.testBit_two_pow, List.any_cons, Bool.or_comm]
theorem msk_perm {a b : Int} {xs ys : List S41} (h : xs.Perm ys) : msk a b xs = msk a b ys := by
  apply Nat.eq_of_testBit_eq
  intro i
  rw [msk_bit, msk_bit, Bool.eq_iff_iff, List.any_eq_true, List.any_eq_true]
  exact ⟨fun ⟨c, hc, e⟩ => ⟨c, h.mem_iff.mp hc, e⟩, fun ⟨c, hc, e⟩ => ⟨c, h.mem_iff.mpr hc, e⟩⟩
/-- A place of the window and a bit of the number. -/
theorem tb_msk {a b : Int} {zs : List S41} {x y : Int} {p : Nat} (hz : ∀ c ∈ zs, inBox a b 8 c) (h1 : a - 2 ≤ x) (h2 : x ≤ a + 8) (hp : p = (ixI a b x y).toNat) : tb (msk a b zs) p = hasB zs x y := by
  subst hp
  rw [tb_eq, msk_bit, Bool.eq_iff_iff, hasB_iff, List.any_eq_true]
  constructor
  · rintro ⟨c, hc, e⟩
    rw [decide_eq_true_iff] at e
    obtain ⟨q1, q2, q3, q4⟩ := hz c hc
    obtain ⟨u, v⟩ := c
    unfold ix ixI at e
    simp only at q1 q2 q3 q4 e
    have hx : u = x ∧ v = y := by omega
    obtain ⟨rfl, rfl⟩ := hx
    exact hc
  · intro hc
    refine ⟨_, hc, ?_⟩
    rw [decide_eq_true_iff]
    rfl
theorem msk_shift {a b : Int} (i j : Nat) : ∀ {zs : List S41}, (∀ c ∈ zs, 0 ≤ ixI a b c.f0 c.f1) → msk (a - i) (b - j) zs = (msk a b zs) <<< (10 * j + i)
  | [], _ => by simp [msk]
  | c :: zs, h => by
    have h0 := h c (by simp)
    have e : ix (a - i) (b - j) c = ix a b c + (10 * j + i) := by
      unfold ix ixI at *
      omega
    show msk (a - i) (b - j) zs ||| (1 <<< ix (a - i) (b - j) c) = (msk a b zs ||| (1 <<< ix a b c)) <<< (10 * j + i)
    rw [msk_shift i j fun d hd => h d (by simp [hd]), e, Nat.shiftLeft_or_distrib, ← Nat.shiftLeft_add]
theorem hasB_cons (c : S41) (zs : List S41) (x y : Int) : hasB (c :: zs) x y = ((c.f0 == x && c.f1 == y) || hasB zs x y) := rfl
theorem hasB_false {l : List S41} {x y : Int} : hasB l x y = false ↔ (⟨x, y⟩ : S41) ∉ l := by
  rw [← hasB_iff, Bool.not_eq_true]
theorem count_near (x y : Int) : ∀ {zs : List S41}, zs.Nodup → zs.countP (nearB ⟨x, y⟩) = (b2n (hasB zs (x + 1) y) + b2n (hasB zs (x - 1) y)) + (b2n (hasB zs x (y + 1)) + b2n (hasB zs x (y - 1)))
  | [], _ => rfl
  | ⟨u, v⟩ :: zs, h => by
    rw [List.nodup_cons] at h
    have ih := count_near x y h.2
    have hn : hasB zs u v = false := hasB_false.mpr h.1
    rw [List.countP_cons, ih]
    simp only [hasB_cons]
    by_cases h1 : u = x + 1 ∧ v = y
    · obtain ⟨rfl, rfl⟩ := h1
      have e : nearB ⟨x, v⟩ ⟨x + 1, v⟩ = true := near_iff.mpr (by omega)
      have e1 : (x + 1 == x - 1) = false := by rw [beq_eq_false_iff_ne]; omega
      have e2 : (x + 1 == x) = false := by rw [beq_eq_false_iff_ne]; omega
      simp only [e, hn, e1, e2, beq_self_eq_true, Bool.false_and, Bool.false_or, Bool.true_and, Bool.or_false, if_true]
      simp only [b2n]
      omega
    by_cases h2 : u = x - 1 ∧ v = y
    · obtain ⟨rfl, rfl⟩ := h2
      have e : nearB ⟨x, v⟩ ⟨x - 1, v⟩ = true := near_iff.mpr (by omega)
      have e1 : (x - 1 == x + 1) = false := by rw [beq_eq_false_iff_ne]; omega
      have e2 : (x - 1 == x) = false := by rw [beq_eq_false_iff_ne]; omega
      simp only [e, hn, e1, e2, beq_self_eq_true, Bool.false_and, Bool.false_or, Bool.true_and, Bool.or_false, if_true]
      simp only [b2n]
      omega
    by_cases h3 : u = x ∧ v = y + 1
    · obtain ⟨rfl, rfl⟩ := h3
      have e : nearB ⟨u, y⟩ ⟨u, y + 1⟩ = true := near_iff.mpr (by omega)
      have e1 : (y + 1 == y) = false := by rw [beq_eq_false_iff_ne]; omega
      have e2 : (y + 1 == y - 1) = false := by rw [beq_eq_false_iff_ne]; omega
      simp only [e, hn, e1, e2, beq_self_eq_true, Bool.and_false, Bool.false_or, Bool.true_and, Bool.or_false, if_true]
      simp only [b2n]
      omega
    by_cases h4 : u = x ∧ v = y - 1
    · obtain ⟨rfl, rfl⟩ := h4
      have e : nearB ⟨u, y⟩ ⟨u, y - 1⟩ = true := near_iff.mpr (by omega)
      have e1 : (y - 1 == y) = false := by rw [beq_eq_false_iff_ne]; omega
      have e2 : (y - 1 == y + 1) = false := by rw [beq_eq_false_iff_ne]; omega
      simp only [e, hn, e1, e2, beq_self_eq_true, Bool.and_false, Bool.false_or, Bool.true_and, Bool.or_false, if_true]
      simp only [b2n]
      omega
    have e : nearB ⟨x, y⟩ ⟨u, v⟩ = false := by
      rw [Bool.eq_false_iff]
      intro hh
      rw [near_iff] at hh
      omega
    have e1 : (u == x + 1 && v == y) = false := by rw [Bool.eq_false_iff]; simpa using h1
    have e2 : (u == x - 1 && v == y) = false := by rw [Bool.eq_false_iff]; simpa using h2
    have e3 : (u == x && v == y + 1) = false := by rw [Bool.eq_false_iff]; simpa using h3
    have e4 : (u == x && v == y - 1) = false := by rw [Bool.eq_false_iff]; simpa using h4
    simp only [e, e1, e2, e3, e4, Bool.false_or]
    simp
theorem allTo_get {f : Nat → Bool} : ∀ {n : Nat}, allTo f n = true → ∀ i, i < n → f i = true
  | 0, _, i, hi => absurd hi (by omega)
  | n + 1, h, i, hi => by
    have h' : (match f n with | true => allTo f n | false => false) = true := h
    rcases hf : f n with _ | _
    · rw [hf] at h'; cases h'
    · rw [hf] at h'
      by_cases e : i = n
      · rw [e]; exact hf
      · exact allTo_get h' i (by omega)
theorem grow_step {a b : Int} {zs : List S41} {x y : Int} (hn1 : 1 ≤ zs.length) (hn7 : zs.length ≤ 7) (hz : ∀ c ∈ zs, inBox a b zs.length c) (hf : tfind (trN zs.length) (msk a b zs) = true) (he : edg zs = eM (msk a b zs)) (hnd : zs.Nodup) (hx : (⟨x, y⟩ : S41) ∉ zs) (hd : ∃ d ∈ zs, nearB ⟨x, y⟩ d = true) :
    ∃ a' b' : Int, (∀ c ∈ (⟨x, y⟩ : S41) :: zs, inBox a' b' ((⟨x, y⟩ : S41) :: zs).length c) ∧ tfind (trN ((⟨x, y⟩ : S41) :: zs).length) (msk a' b' ((⟨x, y⟩ : S41) :: zs)) = true ∧ edg ((⟨x, y⟩ : S41) :: zs) = eM (msk a' b' ((⟨x, y⟩ : S41) :: zs)) := by
  have hz8 : ∀ c ∈ zs, inBox a b 8 c := fun c hc => by
    obtain ⟨q1, q2, q3, q4⟩ := hz c hc
    exact ⟨q1, by omega, q3, by omega⟩
  obtain ⟨⟨u, v⟩, hdz, hnr⟩ := hd
  have hbx := hz _ hdz
  unfold inBox at hbx
  simp only at hbx
  obtain ⟨q1, q2, q3, q4⟩ := hbx
  have hnr' := near_iff.mp hnr
  have w1 : a - 1 ≤ x := by omega
  have w2 : x ≤ a + zs.length := by omega
  have w3 : b - 1 ≤ y := by omega
  have w4 : y ≤ b + zs.length := by omega
  obtain ⟨p, hp⟩ : ∃ p : Nat, p = (ixI a b x y).toNat := ⟨_, rfl⟩
  have hpI : (p : Int) = (y - b + 1) * 10 + (x - a + 1) := by rw [hp]; unfold ixI; omega
  have t0 : tb (msk a b zs) p = hasB zs x y := tb_msk hz8 (by omega) (by omega) hp
  have t1 : tb (msk a b zs) (Nat.add p 1) = hasB zs (x + 1) y := tb_msk hz8 (by omega) (by omega) (by show p + 1 = _; unfold ixI; omega)
  have t2 : tb (msk a b zs) (Nat.sub p 1) = hasB zs (x - 1) y := tb_msk hz8 (by omega) (by omega) (by show p - 1 = _; unfold ixI; omega)
  have t3 : tb (msk a b zs) (Nat.add p 10) = hasB zs x (y + 1) := tb_msk hz8 (by omega) (by omega) (by show p + 10 = _; unfold ixI; omega)
  have t4 : tb (msk a b zs) (Nat.sub p 10) = hasB zs x (y - 1) := tb_msk hz8 (by omega) (by omega) (by show p - 10 = _; unfold ixI; omega)
  have h0 : hasB zs x y = false := hasB_false.mpr hx
  have hhas := hasB_iff.mpr hdz
  have hcand : cand (msk a b zs) p = true := by
    refine cand_of (by rw [t0, h0]) ?_
    rw [t1, t2, t3, t4]
    rcases hnr' with ⟨rfl, rfl⟩ | ⟨rfl, rfl⟩ | ⟨rfl, rfl⟩ | ⟨rfl, rfl⟩ <;> rw [hhas] <;> simp
  have hst := allTo_get (st_all hn1 hn7 hf) p (by omega)
  unfold stepAt at hst
  rw [hcand] at hst
  simp only [hold_eq] at hst
  obtain ⟨i, hi⟩ : ∃ i : Nat, i = if x = a - 1 then 1 else 0 := ⟨_, rfl⟩
  obtain ⟨j, hj⟩ : ∃ j : Nat, j = if y = b - 1 then 1 else 0 := ⟨_, rfl⟩
  have hm : normM (msk a b zs) p = msk (a - i) (b - j) (⟨x, y⟩ :: zs) := by
    rw [msk_shift i j (by
      intro c hc
      rcases List.mem_cons.mp hc with rfl | hc
      · show 0 ≤ ixI a b x y
        unfold ixI
        omega
      · obtain ⟨r1, r2, r3, r4⟩ := hz c hc
        unfold ixI
        omega)]
    show ((msk a b zs ||| (1 <<< p)) <<< (10 * b2n (Nat.ble p 9) + b2n (Nat.beq (Nat.mod p 10) 0))) = ((msk a b zs ||| (1 <<< ix a b ⟨x, y⟩)) <<< (10 * j + i))
    have e1 : ix a b ⟨x, y⟩ = p := by rw [hp]; rfl
    have e2 : b2n (Nat.beq (Nat.mod p 10) 0) = i := by
      have hc : Nat.beq (Nat.mod p 10) 0 = decide (x = a - 1) := by
        rw [Bool.eq_iff_iff, decide_eq_true_iff]
        have : Nat.mod p 10 = p % 10 := rfl
        rw [this]
        constructor
        · intro h
          have := Nat.eq_of_beq_eq_true h
          omega
        · intro h
          rw [show p % 10 = 0 by omega]
          rfl
      rw [hc, hi]
      by_cases h : x = a - 1
      · rw [decide_eq_true h, if_pos h]; rfl
      · rw [decide_eq_false h, if_neg h]; rfl
    have e3 : b2n (Nat.ble p 9) = j := by
      have hc : Nat.ble p 9 = decide (y = b - 1) := by
        rw [Bool.eq_iff_iff, decide_eq_true_iff]
        constructor
        · intro h
          have := Nat.le_of_ble_eq_true h
          omega
        · intro h
          exact Nat.ble_eq_true_of_le (by omega)
      rw [hc, hj]
      by_cases h : y = b - 1
      · rw [decide_eq_true h, if_pos h]; rfl
      · rw [decide_eq_false h, if_neg h]; rfl
    rw [e1, e2, e3]
  rw [hm] at hst
  refine ⟨a - i, b - j, ?_, ?_, ?_⟩
  · intro c hc
    have hlen : ((((⟨x, y⟩ : S41) :: zs).length : Nat) : Int) = zs.length + 1 := by simp
    rw [hlen]
    rcases List.mem_cons.mp hc with rfl | hc
    · unfold inBox
      simp only
      refine ⟨?_, ?_, ?_, ?_⟩ <;> (subst hi hj; split <;> (try split) <;> omega)
    · obtain ⟨r1, r2, r3, r4⟩ := hz c hc
      unfold inBox
      refine ⟨?_, ?_, ?_, ?_⟩ <;> (subst hi hj; split <;> (try split) <;> omega)
  · rcases hh : tfind (trN (zs.length + 1)) (msk (a - i) (b - j) (⟨x, y⟩ :: zs)) with _ | _
    · rw [hh] at hst; cases hst
    · rfl
  · rcases hh : tfind (trN (zs.length + 1)) (msk (a - i) (b - j) (⟨x, y⟩ :: zs)) with _ | _
    · rw [hh] at hst; cases hst
    · rw [hh] at hst
      rw [Nat.eq_of_beq_eq_true hst, edg, he, count_near x y hnd]
      unfold deg
      rw [t1, t2, t3, t4]
      rfl
theorem grow_enum {l : List S41} {c0 : S41} {zs : List S41} (h : GrowF l [c0] zs) : zs.length ≤ 8 → ∃ a b : Int, (∀ c ∈ zs, inBox a b zs.length c) ∧ tfind (trN zs.length) (msk a b zs) = true ∧ edg zs = eM (msk a b zs) := by
  induction h with
  | base =>
    intro _
    obtain ⟨x, y⟩ := c0
    have e : msk x y [⟨x, y⟩] = 2048 := by
      have : ix x y ⟨x, y⟩ = 11 := by unfold ix ixI; simp only; omega
      simp only [msk, this]
      rfl
    refine ⟨x, y, ?_, ?_, ?_⟩
    · intro c hc
      rw [List.mem_singleton] at hc
      subst hc
      unfold inBox
      simp
      omega
    · rw [e]
      show tfind tr1 2048 = true
      decide +kernel
    · rw [e]
      show (0 : Nat) = eM 2048
      decide +kernel
  | add h hc hn hd ih =>
    rename_i zs c
    intro hl
    simp only [List.length_cons] at hl
    obtain ⟨a, b, h1, h2, h3⟩ := ih (by omega)
    have hpos : 1 ≤ zs.length := by
      obtain ⟨d, hd, _⟩ := hd
      cases zs with
      | nil => cases hd
      | cons _ _ => simp
    obtain ⟨x, y⟩ := c
    exact grow_step hpos (by omega) h1 h2 h3 (h.nodup (by simp)) hn hd
theorem poly_enum {l : List S41} (h : cnB l = true) : ∃ a b : Int, (∀ c ∈ l, inBox a b 8 c) ∧ tfind (trN l.length) (msk a b l) = true ∧ edg l = eM (msk a b l) := by
  obtain ⟨hs, hC⟩ := cnB_split h
  obtain ⟨h1, h8⟩ := shape_len hs
  obtain ⟨zs, hg, hp⟩ := Conn.grow (S := [rd_T41 l 0]) hs hC (by
    intro c hc
    rw [List.mem_singleton] at hc
    subst hc
    exact rd_mem (by omega) (by omega)) (by simp) (by simp)
  obtain ⟨a, b, q1, q2, q3⟩ := grow_enum hg (by rw [hp.length_eq]; omega)
  rw [hp.length_eq] at q1 q2
  rw [msk_perm hp] at q2 q3
  rw [edg_perm hp] at q3
  refine ⟨a, b, fun c hc => ?_, q2, q3⟩
  obtain ⟨r1, r2, r3, r4⟩ := q1 c (hp.mem_iff.mpr hc)
  exact ⟨r1, by omega, r3, by omega⟩
end Go.Proofs.Ytlohfeicfhmlmaa.PFnOutlines

namespace Go.Proofs.Ytlohfeicfhmlmaa.PFnOutlines
open Go.RowKit Go.Proofs.YtlohfeicfhmlmaaW.PrintWords Go.Proofs.YtlohfeicfhmlmaaW.PrintLast Go.Proofs.YtlohfeicfhmlmaaW.PrintMore ETool
/-- The cells at the right and at the left of a step in direction d from a corner. -/
def rightC (x y d : Int) : S41 := if d = 0 then ⟨x, y⟩ else if d = 1 then ⟨x - 1, y⟩ else if d = 2 then ⟨x - 1, y - 1⟩ else ⟨x, y - 1⟩
def leftC (x y d : Int) : S41 := if d = 0 then ⟨x, y - 1⟩ else if d = 1 then ⟨x, y⟩ else if d = 2 then ⟨x - 1, y⟩ else ⟨x - 1, y - 1⟩
def edgeB (l : List S41) (x y d : Int) : Bool := hasB l (rightC x y d).f0 (rightC x y d).f1 && !hasB l (leftC x y d).f0 (leftC x y d).f1
set_option maxHeartbeats 4000000 in
set_option maxRecDepth 100000 in
theorem sEdge (A0 : Option Addr) (c0 : Nat) (l0 : List S41) (x y d : Int) (w : World) (hr0 : Kd.C k41 w A0 l0.length l0) (hc0 : l0.length ≤ c0) (hx : -1000 ≤ x ∧ x ≤ 1000) (hy : -1000 ≤ y ∧ y ≤ 1000) (hd : 0 ≤ d ∧ d ≤ 3) :
    Calls Try.prog 51 #[.slice A0 l0.length c0, .agg #[.int .i64 x, .int .i64 y], .int .i64 d] w fun e w' => e = .returned (.bool (edgeB l0 x y d)) ∧ Below w.heap.size w w' := by
  have hu41 := Try.underlying41
  have HR0 := Aside0.mk hr0
  clear hr0
  obtain ⟨hx1, hx2⟩ := hx
  obtain ⟨hy1, hy2⟩ := hy
  have hw1 := iw64 (x := x - 1) (by omega) (by omega)
  have hw2 := iw64 (x := y - 1) (by omega) (by omega)
  have HP := Aside0.mk (show edgeB l0 x y d = (hasB l0 (rightC x y d).f0 (rightC x y d).f1 && !hasB l0 (leftC x y d).f0 (leftC x y d).f1) from rfl)
  have hd4 : d = 0 ∨ d = 1 ∨ d = 2 ∨ d = 3 := by omega
  clear hd
  go_enter Try.func51, Try.ntmps51
  go_upto_region 1 with (fail)
  obtain ⟨W4, hW4⟩ : ∃ W4, W4 = w.alloc (.cells #[.int .i64 x, .int .i64 y] 41 (0, 0)) := ⟨_, rfl⟩
  obtain ⟨g, hg⟩ : ∃ g, g = w.heap.size := ⟨_, rfl⟩
  have HB4 := Aside0.mk (show Below w.heap.size w W4 by rw [hW4]; exact below_alloc (Below.refl _ _) _)
  have hbl : W4.heap[g]? = some (.cells #[.int .i64 x, .int .i64 y] 41 (0, 0)) := by rw [hW4, hg]; exact blk_new _ _
  have hb0 := (blk_cell hbl 0).trans rfl
  have hb1 := (blk_cell hbl 1).trans rfl
  rw [← hW4, ← hg]
  have rb0 := BW.cell hb0
  have rb1 := BW.cell hb1
  have hrr := Kd.C_below HR0.out HB4.out
  have HX := Aside0.mk (Below.refl W4.heap.size W4)
  clear hW4 hbl hg
  rcases hd4 with rfl | rfl | rfl | rfl
  · have HP := Aside0.mk (show edgeB l0 x y 0 = (hasB l0 (x) (y) && !hasB l0 (x) (y - 1)) from HP.out)
    rcases h1 : hasB l0 (x) (y) with _ | _ <;> rcases h2 : hasB l0 (x) (y - 1) with _ | _
    all_goals
      go_wp2_with (first | (go_at_call 40; (first | (with_reducible refine (has_w hrr HX.out hc0 h1).mono ?_) | (with_reducible refine (has_w hrr HX.out hc0 h2).mono ?_)); rintro e w6 ⟨rfl, hb⟩; have hq0 : w6.cell? _ = _ := rb0 ⟨w6, hb⟩; have hq1 : w6.cell? _ = _ := rb1 ⟨w6, hb⟩; clear HX; have HX := Aside0.mk hb; clear hb))
      go_ret
      exact ⟨by rw [HP.out, h1, h2]; rfl, below_step HB4.out HX.out⟩
  · have HP := Aside0.mk (show edgeB l0 x y 1 = (hasB l0 (x - 1) (y) && !hasB l0 (x) (y)) from HP.out)
    rcases h1 : hasB l0 (x - 1) (y) with _ | _ <;> rcases h2 : hasB l0 (x) (y) with _ | _
    all_goals
      go_wp2_with (first | (go_at_call 40; (first | (with_reducible refine (has_w hrr HX.out hc0 h1).mono ?_) | (with_reducible refine (has_w hrr HX.out hc0 h2).mono ?_)); rintro e w6 ⟨rfl, hb⟩; have hq0 : w6.cell? _ = _ := rb0 ⟨w6, hb⟩; have hq1 : w6.cell? _ = _ := rb1 ⟨w6, hb⟩; clear HX; have HX := Aside0.mk hb; clear hb))
      go_ret
      exact ⟨by rw [HP.out, h1, h2]; rfl, below_step HB4.out HX.out⟩
  · have HP := Aside0.mk (show edgeB l0 x y 2 = (hasB l0 (x - 1) (y - 1) && !hasB l0 (x - 1) (y)) from HP.out)
    rcases h1 : hasB l0 (x - 1) (y - 1) with _ | _ <;> rcases h2 : hasB l0 (x - 1) (y) with _ | _
    all_goals
      go_wp2_with (first | (go_at_call 40; (first | (with_reducible refine (has_w hrr HX.out hc0 h1).mono ?_) | (with_reducible refine (has_w hrr HX.out hc0 h2).mono ?_)); rintro e w6 ⟨rfl, hb⟩; have hq0 : w6.cell? _ = _ := rb0 ⟨w6, hb⟩; have hq1 : w6.cell? _ = _ := rb1 ⟨w6, hb⟩; clear HX; have HX := Aside0.mk hb; clear hb))
      go_ret
      exact ⟨by rw [HP.out, h1, h2]; rfl, below_step HB4.out HX.out⟩
  · have HP := Aside0.mk (show edgeB l0 x y 3 = (hasB l0 (x) (y - 1) && !hasB l0 (x - 1) (y - 1)) from HP.out)
    rcases h1 : hasB l0 (x) (y - 1) with _ | _ <;> rcases h2 : hasB l0 (x - 1) (y - 1) with _ | _
    all_goals
      go_wp2_with (first | (go_at_call 40; (first | (with_reducible refine (has_w hrr HX.out hc0 h1).mono ?_) | (with_reducible refine (has_w hrr HX.out hc0 h2).mono ?_)); rintro e w6 ⟨rfl, hb⟩; have hq0 : w6.cell? _ = _ := rb0 ⟨w6, hb⟩; have hq1 : w6.cell? _ = _ := rb1 ⟨w6, hb⟩; clear HX; have HX := Aside0.mk hb; clear hb))
      go_ret
      exact ⟨by rw [HP.out, h1, h2]; rfl, below_step HB4.out HX.out⟩
end Go.Proofs.Ytlohfeicfhmlmaa.PFnOutlines

namespace Go.Proofs.Ytlohfeicfhmlmaa.PFnOutlines
open Go.RowKit Go.Proofs.YtlohfeicfhmlmaaW.PrintWords Go.Proofs.YtlohfeicfhmlmaaW.PrintLast Go.Proofs.YtlohfeicfhmlmaaW.PrintMore ETool
def dX (d : Int) : Int := if d = 0 then 1 else if d = 2 then -1 else 0
def dY (d : Int) : Int := if d = 1 then 1 else if d = 3 then -1 else 0
def dL (d : Int) : Int := if d = 0 then 114 else if d = 1 then 100 else if d = 2 then 108 else 117
theorem two_blk (w : World) (o1 o2 : Obj) : ((w.alloc o1).alloc o2).heap[w.heap.size + 1]? = some o2 := by
  have h := blk_new (w.alloc o1) o2
  have e : (w.alloc o1).heap.size = w.heap.size + 1 := by unfold World.alloc; exact Array.size_push ..
  rwa [e] at h
set_option maxHeartbeats 4000000 in
set_option maxRecDepth 100000 in
theorem sStep0 (x y : Int) (w : World) (hx : -1000 ≤ x ∧ x ≤ 1000) (hy : -1000 ≤ y ∧ y ≤ 1000) :
    Calls Try.prog 50 #[.agg #[.int .i64 x, .int .i64 y], .int .u8 114] w fun e w' => e = .returned (.tuple #[.agg #[.int .i64 (x + 1), .int .i64 (y)], .bool true]) ∧ Below w.heap.size w w' := by
  have hu41 := Try.underlying41
  obtain ⟨hx1, hx2⟩ := hx
  obtain ⟨hy1, hy2⟩ := hy
  go_enter Try.func50, Try.ntmps50
  go_wp2
  refine bodyPost_ret (results_ct rfl _ _ (w.heap.size + 1) 41 #[.int .i64 (x + 1), .int .i64 (y)] (0, 0) _ rfl (two_blk _ _ _) Try.underlying41 rfl (by kernel_rfl)) rfl ?_
  exact ⟨rfl, below_alloc (below_alloc (Below.refl _ _) _) _⟩
set_option maxHeartbeats 4000000 in
set_option maxRecDepth 100000 in
theorem sStep1 (x y : Int) (w : World) (hx : -1000 ≤ x ∧ x ≤ 1000) (hy : -1000 ≤ y ∧ y ≤ 1000) :
    Calls Try.prog 50 #[.agg #[.int .i64 x, .int .i64 y], .int .u8 100] w fun e w' => e = .returned (.tuple #[.agg #[.int .i64 (x), .int .i64 (y + 1)], .bool true]) ∧ Below w.heap.size w w' := by
  have hu41 := Try.underlying41
  obtain ⟨hx1, hx2⟩ := hx
  obtain ⟨hy1, hy2⟩ := hy
  go_enter Try.func50, Try.ntmps50
  go_wp2
  refine bodyPost_ret (results_ct rfl _ _ (w.heap.size + 1) 41 #[.int .i64 (x), .int .i64 (y + 1)] (0, 0) _ rfl (two_blk _ _ _) Try.underlying41 rfl (by kernel_rfl)) rfl ?_
  exact ⟨rfl, below_alloc (below_alloc (Below.refl _ _) _) _⟩
set_option maxHeartbeats 4000000 in
set_option maxRecDepth 100000 in
theorem sStep2 (x y : Int) (w : World) (hx : -1000 ≤ x ∧ x ≤ 1000) (hy : -1000 ≤ y ∧ y ≤ 1000) :
    Calls Try.prog 50 #[.agg #[.int .i64 x, .int .i64 y], .int .u8 108] w fun e w' => e = .returned (.tuple #[.agg #[.int .i64 (x - 1), .int .i64 (y)], .bool true]) ∧ Below w.heap.size w w' := by
  have hu41 := Try.underlying41
  obtain ⟨hx1, hx2⟩ := hx
  obtain ⟨hy1, hy2⟩ := hy
  go_enter Try.func50, Try.ntmps50
  go_wp2
  refine bodyPost_ret (results_ct rfl _ _ (w.heap.size + 1) 41 #[.int .i64 (x - 1), .int .i64 (y)] (0, 0) _ rfl (two_blk _ _ _) Try.underlying41 rfl (by kernel_rfl)) rfl ?_
  exact ⟨rfl, below_alloc (below_alloc (Below.refl _ _) _) _⟩
set_option maxHeartbeats 4000000 in
set_option maxRecDepth 100000 in
theorem sStep3 (x y : Int) (w : World) (hx : -1000 ≤ x ∧ x ≤ 1000) (hy : -1000 ≤ y ∧ y ≤ 1000) :
    Calls Try.prog 50 #[.agg #[.int .i64 x, .int .i64 y], .int .u8 117] w fun e w' => e = .returned (.tuple #[.agg #[.int .i64 (x), .int .i64 (y - 1)], .bool true]) ∧ Below w.heap.size w w' := by
  have hu41 := Try.underlying41
  obtain ⟨hx1, hx2⟩ := hx
  obtain ⟨hy1, hy2⟩ := hy
  go_enter Try.func50, Try.ntmps50
  go_wp2
  refine bodyPost_ret (results_ct rfl _ _ (w.heap.size + 1) 41 #[.int .i64 (x), .int .i64 (y - 1)] (0, 0) _ rfl (two_blk _ _ _) Try.underlying41 rfl (by kernel_rfl)) rfl ?_
  exact ⟨rfl, below_alloc (below_alloc (Below.refl _ _) _) _⟩
theorem sStep (x y d : Int) (w : World) (hx : -1000 ≤ x ∧ x ≤ 1000) (hy : -1000 ≤ y ∧ y ≤ 1000) (hd : 0 ≤ d ∧ d ≤ 3) :
    Calls Try.prog 50 #[.agg #[.int .i64 x, .int .i64 y], .int .u8 (dL d)] w fun e w' => e = .returned (.tuple #[.agg #[.int .i64 (x + dX d), .int .i64 (y + dY d)], .bool true]) ∧ Below w.heap.size w w' := by
  have hd4 : d = 0 ∨ d = 1 ∨ d = 2 ∨ d = 3 := by omega
  have h0 := sStep0 x y w hx hy
  have h1 := sStep1 x y w hx hy
  have h2 := sStep2 x y w hx hy
  have h3 := sStep3 x y w hx hy
  rcases hd4 with rfl | rfl | rfl | rfl
  · simpa [dL, dX, dY] using h0
  · simpa [dL, dX, dY] using h1
  · simpa [dL, dX, dY, Int.sub_eq_add_neg] using h2
  · simpa [dL, dX, dY, Int.sub_eq_add_neg] using h3
end Go.Proofs.Ytlohfeicfhmlmaa.PFnOutlines

namespace Go.Proofs.Ytlohfeicfhmlmaa.PFnOutlines
open Go.RowKit Go.Proofs.YtlohfeicfhmlmaaW.PrintWords Go.Proofs.YtlohfeicfhmlmaaW.PrintLast Go.Proofs.YtlohfeicfhmlmaaW.PrintMore ETool Poly
/-- The direction behind a step: right, ahead, left; the first that is an edge. -/
def turnD (l : List S41) (x y d : Int) : Int := if edgeB l x y (Int.tmod (d + 3) 4) = true then Int.tmod (d + 3) 4 else if edgeB l x y (Int.tmod (d + 4) 4) = true then Int.tmod (d + 4) 4 else if edgeB l x y (Int.tmod (d + 5) 4) = true then Int.tmod (d + 5) 4 else d
/-- The steps that lead back to the start. -/
def bwRun (l : List S41) (x0 y0 : Int) : Nat → Int → Int → Int → Option (List Int)
  | 0, _, _, _ => none
  | k + 1, x, y, d =>
    if x + dX d = x0 ∧ y + dY d = y0 ∧ turnD l (x + dX d) (y + dY d) d = 0 then some [d]
    else (bwRun l x0 y0 k (x + dX d) (y + dY d) (turnD l (x + dX d) (y + dY d) d)).map (d :: ·)
theorem land_ne {m h : Nat} (hh : Nat.beq (Nat.land h m) h = false) : ∃ i, h.testBit i = true ∧ m.testBit i = false := by
  apply Classical.byContradiction
  intro hno
  have : h &&& m = h := by
    apply Nat.eq_of_testBit_eq
    intro i
    rw [Nat.testBit_and]
    rcases h1 : h.testBit i with _ | _
    · rfl
    · rcases h2 : m.testBit i with _ | _
      · exact absurd ⟨i, h1, h2⟩ hno
      · rfl
  have e : Nat.land h m = h := this
  rw [e, Nat.beq_refl] at hh
  cases hh
section
variable {a b : Int} {l : List S41} (hz : ∀ c ∈ l, inBox a b 8 c)
include hz
theorem edM_eq {x y : Int} {p d : Nat} (hp : p = (ixI a b x y).toNat) (h1 : a ≤ x) (h2 : x ≤ a + 8) (h3 : b ≤ y) (h4 : y ≤ b + 8) (hd : d ≤ 3) : edM (msk a b l) p d = edgeB l x y d := by
  have t0 : tb (msk a b l) p = hasB l x y := tb_msk hz (by omega) (by omega) hp
  have t1 : tb (msk a b l) (Nat.sub p 1) = hasB l (x - 1) y := tb_msk hz (by omega) (by omega) (by show p - 1 = _; rw [hp]; unfold ixI; omega)
  have t2 : tb (msk a b l) (Nat.sub p 10) = hasB l x (y - 1) := tb_msk hz (by omega) (by omega) (by show p - 10 = _; rw [hp]; unfold ixI; omega)
  have t3 : tb (msk a b l) (Nat.sub p 11) = hasB l (x - 1) (y - 1) := tb_msk hz (by omega) (by omega) (by show p - 11 = _; rw [hp]; unfold ixI; omega)
  have hd4 : d = 0 ∨ d = 1 ∨ d = 2 ∨ d = 3 := by omega
  rcases hd4 with rfl | rfl | rfl | rfl
  · show (match tb (msk a b l) p with | true => !(tb (msk a b l) (Nat.sub p 10)) | false => false) = (hasB l x y && !hasB l x (y - 1))
    rw [t0, t2]
    cases hasB l x y <;> rfl
  · show (match tb (msk a b l) (Nat.sub p 1) with | true => !(tb (msk a b l) p) | false => false) = (hasB l (x - 1) y && !hasB l x y)
    rw [t0, t1]
    cases hasB l (x - 1) y <;> rfl
  · show (match tb (msk a b l) (Nat.sub p 11) with | true => !(tb (msk a b l) (Nat.sub p 1)) | false => false) = (hasB l (x - 1) (y - 1) && !hasB l (x - 1) y)
    rw [t1, t3]
    cases hasB l (x - 1) (y - 1) <;> rfl
  · show (match tb (msk a b l) (Nat.sub p 10) with | true => !(tb (msk a b l) (Nat.sub p 11)) | false => false) = (hasB l x (y - 1) && !hasB l (x - 1) (y - 1))
    rw [t2, t3]
    cases hasB l x (y - 1) <;> rfl
theorem tuM_eq {x y : Int} {p d : Nat} (hp : p = (ixI a b x y).toNat) (h1 : a ≤ x) (h2 : x ≤ a + 8) (h3 : b ≤ y) (h4 : y ≤ b + 8) (hd : d ≤ 3) : (tuM (msk a b l) p d : Int) = turnD l x y d ∧ tuM (msk a b l) p d ≤ 3 := by
  have e0 := edM_eq hz hp h1 h2 h3 h4 (d := 0) (by omega)
  have e1 := edM_eq hz hp h1 h2 h3 h4 (d := 1) (by omega)
  have e2 := edM_eq hz hp h1 h2 h3 h4 (d := 2) (by omega)
  have e3 := edM_eq hz hp h1 h2 h3 h4 (d := 3) (by omega)
  have key : ∀ d1 d2 d3 d : Nat, ∀ i1 i2 i3 : Int, i1 = (d1 : Int) → i2 = (d2 : Int) → i3 = (d3 : Int) → d1 ≤ 3 → d2 ≤ 3 → d3 ≤ 3 → d ≤ 3 →
      edM (msk a b l) p d1 = edgeB l x y i1 → edM (msk a b l) p d2 = edgeB l x y i2 → edM (msk a b l) p d3 = edgeB l x y i3 →
      (((match edM (msk a b l) p d1 with | true => d1 | false => match edM (msk a b l) p d2 with | true => d2 | false => match edM (msk a b l) p d3 with | true => d3 | false => d : Nat) : Int) = (if edgeB l x y i1 = true then i1 else if edgeB l x y i2 = true then i2 else if edgeB l x y i3 = true then i3 else (d : Int))) ∧
      (match edM (msk a b l) p d1 with | true => d1 | false => match edM (msk a b l) p d2 with | true => d2 | false => match edM (msk a b l) p d3 with | true => d3 | false => d : Nat) ≤ 3 := by
    intro d1 d2 d3 d i1 i2 i3 r1 r2 r3 l1 l2 l3 l0 q1 q2 q3
    rw [q1, q2, q3]
    cases edgeB l x y i1
    · cases edgeB l x y i2
      · cases edgeB l x y i3
        · exact ⟨rfl, l0⟩
        · exact ⟨r3.symm, l3⟩
      · exact ⟨r2.symm, l2⟩
    · exact ⟨r1.symm, l1⟩
  have hd4 : d = 0 ∨ d = 1 ∨ d = 2 ∨ d = 3 := by omega
  rcases hd4 with rfl | rfl | rfl | rfl
  · exact key 3 0 1 0 _ _ _ rfl rfl rfl (by omega) (by omega) (by omega) (by omega) e3 e0 e1
  · exact key 0 1 2 1 _ _ _ rfl rfl rfl (by omega) (by omega) (by omega) (by omega) e0 e1 e2
  · exact key 1 2 3 2 _ _ _ rfl rfl rfl (by omega) (by omega) (by omega) (by omega) e1 e2 e3
  · exact key 2 3 0 3 _ _ _ rfl rfl rfl (by omega) (by omega) (by omega) (by omega) e2 e3 e0
theorem run_link {x0 y0 : Int} (h01 : a ≤ x0) (h02 : x0 ≤ a + 8) (h03 : b ≤ y0) (h04 : y0 ≤ b + 8) : ∀ (k : Nat) (x y : Int) (p d : Nat) (w : List Nat), runM (msk a b l) (ixI a b x0 y0).toNat k p d = some w → p = (ixI a b x y).toNat → a ≤ x → x ≤ a + 8 → b ≤ y → y ≤ b + 8 → d ≤ 3 →
    bwRun l x0 y0 k x y d = some (w.map fun (e : Nat) => (e : Int))
  | 0, _, _, _, _, _, h, _, _, _, _, _, _ => by cases h
  | k + 1, x, y, p, d, w, h, hp, h1, h2, h3, h4, hd => by
    have he := edM_eq hz hp h1 h2 h3 h4 hd
    unfold runM at h
    simp only [hold_eq] at h
    rcases hE : edM (msk a b l) p d with _ | _
    · rw [hE] at h; cases h
    rw [hE] at h
    rw [he] at hE
    have hd4 : d = 0 ∨ d = 1 ∨ d = 2 ∨ d = 3 := by omega
    have hmv : mvM p d = (ixI a b (x + dX d) (y + dY d)).toNat ∧ a ≤ x + dX d ∧ x + dX d ≤ a + 8 ∧ b ≤ y + dY d ∧ y + dY d ≤ b + 8 := by
      have hr : hasB l (rightC x y d).f0 (rightC x y d).f1 = true := by
        unfold edgeB at hE
        rw [Bool.and_eq_true] at hE
        exact hE.1
      rw [hasB_iff] at hr
      obtain ⟨r1, r2, r3, r4⟩ := hz _ hr
      rcases hd4 with rfl | rfl | rfl | rfl
      · have e1 : (rightC x y ((0 : Nat) : Int)) = ⟨x, y⟩ := rfl
        rw [e1] at r1 r2 r3 r4
        simp only at r1 r2 r3 r4
        have e2 : dX ((0 : Nat) : Int) = 1 := rfl
        have e3 : dY ((0 : Nat) : Int) = 0 := rfl
        rw [e2, e3]
        refine ⟨?_, by omega, by omega, by omega, by omega⟩
        show p + 1 = _
        rw [hp]; unfold ixI; omega
      · have e1 : (rightC x y ((1 : Nat) : Int)) = ⟨x - 1, y⟩ := rfl
        rw [e1] at r1 r2 r3 r4
        simp only at r1 r2 r3 r4
        have e2 : dX ((1 : Nat) : Int) = 0 := rfl
        have e3 : dY ((1 : Nat) : Int) = 1 := rfl
        rw [e2, e3]
        refine ⟨?_, by omega, by omega, by omega, by omega⟩
        show p + 10 = _
        rw [hp]; unfold ixI; omega
      · have e1 : (rightC x y ((2 : Nat) : Int)) = ⟨x - 1, y - 1⟩ := rfl
        rw [e1] at r1 r2 r3 r4
        simp only at r1 r2 r3 r4
        have e2 : dX ((2 : Nat) : Int) = -1 := rfl
        have e3 : dY ((2 : Nat) : Int) = 0 := rfl
        rw [e2, e3]
        refine ⟨?_, by omega, by omega, by omega, by omega⟩
        show p - 1 = _
        rw [hp]; unfold ixI; omega
      · have e1 : (rightC x y ((3 : Nat) : Int)) = ⟨x, y - 1⟩ := rfl
        rw [e1] at r1 r2 r3 r4
        simp only at r1 r2 r3 r4
        have e2 : dX ((3 : Nat) : Int) = 0 := rfl
        have e3 : dY ((3 : Nat) : Int) = -1 := rfl
        rw [e2, e3]
        refine ⟨?_, by omega, by omega, by omega, by omega⟩
        show p - 10 = _
        rw [hp]; unfold ixI; omega
    obtain ⟨hq, g1, g2, g3, g4⟩ := hmv
    obtain ⟨ht, ht3⟩ := tuM_eq hz hq g1 g2 g3 g4 hd
    rw [bwRun, ← ht]
    simp only at h
    have hback : Nat.beq (mvM p d) (ixI a b x0 y0).toNat = decide (x + dX d = x0 ∧ y + dY d = y0) := by
      rw [Bool.eq_iff_iff, decide_eq_true_iff]
      constructor
      · intro hh
        have := Nat.eq_of_beq_eq_true hh
        rw [hq] at this
        unfold ixI at this
        omega
      · rintro ⟨hx, hy⟩
        rw [hq, hx, hy]
        exact Nat.beq_refl _
    rw [hback] at h
    by_cases hb : x + dX d = x0 ∧ y + dY d = y0
    · rw [decide_eq_true hb] at h
      simp only at h
      rcases hz0 : Nat.beq (tuM (msk a b l) (mvM p d) d) 0 with _ | _
      · rw [hz0] at h
        simp only [Option.map_eq_some_iff] at h
        obtain ⟨w', hw', rfl⟩ := h
        have hne : ¬ ((tuM (msk a b l) (mvM p d) d : Nat) : Int) = 0 := by
          intro hh
          have : tuM (msk a b l) (mvM p d) d = 0 := by omega
          rw [this] at hz0
          cases hz0
        rw [if_neg (fun hh => hne hh.2.2), run_link h01 h02 h03 h04 k _ _ _ _ w' hw' hq g1 g2 g3 g4 ht3]
        rfl
      · rw [hz0] at h
        simp only [Option.some.injEq] at h
        subst h
        have h0 := Nat.eq_of_beq_eq_true hz0
        rw [if_pos ⟨hb.1, hb.2, by rw [h0]; rfl⟩]
        rfl
    · rw [decide_eq_false hb] at h
      simp only [Option.map_eq_some_iff] at h
      obtain ⟨w', hw', rfl⟩ := h
      rw [if_neg (fun hh => hb ⟨hh.1, hh.2.1⟩), run_link h01 h02 h03 h04 k _ _ _ _ w' hw' hq g1 g2 g3 g4 ht3]
      rfl
/-- A free place whose four neighbours are cells. -/
def holeAt (l : List S41) : Prop := ∃ x y : Int, hasB l x y = false ∧ hasB l (x + 1) y = true ∧ hasB l (x - 1) y = true ∧ hasB l x (y + 1) = true ∧ hasB l x (y - 1) = true
theorem bit_cell {i : Nat} (h : (msk a b l).testBit i = true) : ∃ x y : Int, i = (ixI a b x y).toNat ∧ a ≤ x ∧ x < a + 8 ∧ b ≤ y ∧ y < b + 8 ∧ hasB l x y = true := by
  rw [msk_bit, List.any_eq_true] at h
  obtain ⟨⟨x, y⟩, hc, e⟩ := h
  rw [decide_eq_true_iff] at e
  obtain ⟨q1, q2, q3, q4⟩ := hz _ hc
  exact ⟨x, y, e.symm, q1, q2, q3, q4, hasB_iff.mpr hc⟩
theorem holey_at (h : holey (msk a b l) = true) : holeAt l := by
  unfold holey at h
  rw [hold_eq, Bool.not_eq_true'] at h
  obtain ⟨i, h1, h2⟩ := land_ne h
  have h1' : ((((msk a b l) <<< 1) &&& ((msk a b l) >>> 1)) &&& (((msk a b l) <<< 10) &&& ((msk a b l) >>> 10))).testBit i = true := h1
  simp only [Nat.testBit_and, Nat.testBit_shiftLeft, Nat.testBit_shiftRight, Bool.and_eq_true, decide_eq_true_eq] at h1'
  obtain ⟨⟨⟨i1, b1⟩, b2⟩, ⟨i10, b3⟩, b4⟩ := h1'
  obtain ⟨x, y, hi, q1, q2, q3, q4, hc⟩ := bit_cell hz b1
  have hi' : (i : Int) = ixI a b x y + 1 := by unfold ixI at *; omega
  obtain ⟨u, v, hu, r1, r2, r3, r4, hcu⟩ := bit_cell hz b2
  have huv : u = x + 1 + 1 ∧ v = y := by unfold ixI at *; omega
  obtain ⟨rfl, rfl⟩ := huv
  rw [← tb_eq] at b2 b3 b4 h2
  refine ⟨x + 1, v, ?_, ?_, by rw [show x + 1 - 1 = x by omega]; exact hc, ?_, ?_⟩
  · rw [← tb_msk hz (p := i) (by omega) (by omega) (by unfold ixI at *; omega)]
    exact h2
  · exact hcu
  · rw [← tb_msk hz (p := 10 + i) (by omega) (by omega) (by unfold ixI at *; omega)]
    exact b4
  · rw [← tb_msk hz (p := i - 10) (by omega) (by omega) (by unfold ixI at *; omega)]
    exact b3
theorem pin_at (h : pinM (msk a b l) = true) : pinB l = true := by
  unfold pinM at h
  simp only [hold_eq] at h
  have key : ∀ x y : Int, hasB l x y = true → pinAt l x y = true → pinB l = true := by
    intro x y hc hp
    unfold pinB
    rw [List.any_eq_true]
    exact ⟨_, hasB_iff.mp hc, hp⟩
  rcases h1 : Nat.beq (Nat.land (Nat.land (msk a b l) (Nat.shiftRight (msk a b l) 11)) (Nat.lor (Nat.shiftRight (msk a b l) 1) (Nat.shiftRight (msk a b l) 10))) (Nat.land (msk a b l) (Nat.shiftRight (msk a b l) 11)) with _ | _
  · obtain ⟨i, h2, h3⟩ := land_ne h1
    have h2' : ((msk a b l) &&& ((msk a b l) >>> 11)).testBit i = true := h2
    have h3' : (((msk a b l) >>> 1) ||| ((msk a b l) >>> 10)).testBit i = false := h3
    simp only [Nat.testBit_and, Nat.testBit_or, Nat.testBit_shiftRight, Bool.and_eq_true, Bool.or_eq_false_iff] at h2' h3'
    obtain ⟨b1, b2⟩ := h2'
    obtain ⟨b3, b4⟩ := h3'
    obtain ⟨x, y, hi, q1, q2, q3, q4, hc⟩ := bit_cell hz b1
    rw [← tb_eq] at b2 b3 b4
    rw [tb_msk hz (x := x + 1) (y := y + 1) (by omega) (by omega) (by unfold ixI at *; omega)] at b2
    rw [tb_msk hz (x := x + 1) (y := y) (by omega) (by omega) (by unfold ixI at *; omega)] at b3
    rw [tb_msk hz (x := x) (y := y + 1) (by omega) (by omega) (by unfold ixI at *; omega)] at b4
    exact key x y hc (by unfold pinAt; rw [b2, b3, b4]; rfl)
  · rw [h1] at h
    simp only [Bool.not_eq_true'] at h
    obtain ⟨i, h2, h3⟩ := land_ne h
    have h2' : (((msk a b l) >>> 1) &&& ((msk a b l) >>> 10)).testBit i = true := h2
    have h3' : ((msk a b l) ||| ((msk a b l) >>> 11)).testBit i = false := h3
    simp only [Nat.testBit_and, Nat.testBit_or, Nat.testBit_shiftRight, Bool.and_eq_true, Bool.or_eq_false_iff] at h2' h3'
    obtain ⟨b1, b2⟩ := h2'
    obtain ⟨b3, b4⟩ := h3'
    obtain ⟨x, y, hi, q1, q2, q3, q4, hc⟩ := bit_cell hz b1
    rw [← tb_eq] at b2 b3 b4
    rw [tb_msk hz (x := x - 1) (y := y + 1) (by omega) (by omega) (by unfold ixI at *; omega)] at b2
    rw [tb_msk hz (x := x - 1) (y := y) (by omega) (by omega) (by unfold ixI at *; omega)] at b3
    rw [tb_msk hz (x := x) (y := y + 1) (by omega) (by omega) (by unfold ixI at *; omega)] at b4
    exact key x y hc (by unfold pinAt; rw [b2, b3, b4]; cases (hasB l (x + 1) (y + 1) && (!hasB l (x + 1) y && !false)) <;> rfl)
end
theorem fstB_eq {m r : Nat} (hr : tb m r = true) : ∀ (k p : Nat), p ≤ r → r < p + k → (∀ q, p ≤ q → q < r → tb m q = false) → fstB m k p = r
  | 0, p, h1, h2, _ => by omega
  | k + 1, p, h1, h2, h3 => by
    show (match tb m p with | true => p | false => hold (Nat.add p 1) (fstB m k)) = r
    by_cases e : p = r
    · rw [e, hr]
    · rw [h3 p (Nat.le_refl _) (by omega)]
      show hold (Nat.add p 1) (fstB m k) = r
      rw [hold_eq]
      exact fstB_eq hr k (p + 1) (by omega) (by omega) fun q q1 q2 => h3 q (by omega) q2
/-- What the enumeration tells of a shape without holes and pinches. -/
theorem bw_enum {chk : Nat → Nat → List Nat → Bool} {l : List S41} {a b : Int} (hs : isShapeB l = true) (hz : ∀ c ∈ l, inBox a b 8 c) (hok : wordOk chk l.length (msk a b l) = true) (hh : ¬ holeAt l) (hp : pinB l = false) :
    ∃ w : List Nat, bwRun l (rd_T41 l 0).f0 (rd_T41 l 0).f1 64 (rd_T41 l 0).f0 (rd_T41 l 0).f1 0 = some (w.map fun (e : Nat) => (e : Int)) ∧ chk l.length (msk a b l) w = true := by
  have hl := shape_len hs
  have h0 : rd_T41 l 0 ∈ l := rd_mem (by omega) (by omega)
  obtain ⟨q1, q2, q3, q4⟩ := hz _ h0
  unfold wordOk at hok
  rcases g1 : holey (msk a b l) with _ | _
  · rcases g2 : pinM (msk a b l) with _ | _
    · rw [g1, g2] at hok
      simp only [hold_eq] at hok
      have hf : fstB (msk a b l) 99 0 = (ixI a b (rd_T41 l 0).f0 (rd_T41 l 0).f1).toNat := by
        refine fstB_eq ?_ 99 0 (by omega) (by unfold ixI; omega) fun q _ hq => ?_
        · rw [tb_msk hz (by omega) (by omega) rfl]
          exact hasB_iff.mpr h0
        · rw [← Bool.not_eq_true]
          intro hb
          rw [tb_eq] at hb
          obtain ⟨x, y, e, r1, r2, r3, r4, hc⟩ := bit_cell hz hb
          obtain ⟨j, j0, j1, ej⟩ := mem_rd (hasB_iff.mp hc)
          by_cases hj : j = 0
          · subst hj
            rw [ej] at hq
            simp only at hq
            omega
          · have := shape_mono hs (i := 0) (j := j) (by omega) (by omega) j1
            rw [ltB_iff, ej] at this
            unfold ixI at *
            simp only at this
            omega
      rw [hf] at hok
      rcases hr : runM (msk a b l) (ixI a b (rd_T41 l 0).f0 (rd_T41 l 0).f1).toNat 64 (ixI a b (rd_T41 l 0).f0 (rd_T41 l 0).f1).toNat 0 with _ | w
      · rw [hr] at hok; cases hok
      · rw [hr] at hok
        exact ⟨w, run_link hz (by omega) (by omega) (by omega) (by omega) 64 _ _ _ 0 w hr rfl (by omega) (by omega) (by omega) (by omega) (by omega), hok⟩
    · rw [pin_at hz g2] at hp
      cases hp
  · exact absurd (holey_at hz g1) hh
theorem bw_len {l : List S41} (h : cnB l = true) (hh : ¬ holeAt l) (hp : pinB l = false) :
    ∃ w : List Int, bwRun l (rd_T41 l 0).f0 (rd_T41 l 0).f1 64 (rd_T41 l 0).f0 (rd_T41 l 0).f1 0 = some w ∧ (w.length : Int) = 4 * l.length - 2 * innB l := by
  obtain ⟨hs, hC⟩ := cnB_split h
  obtain ⟨h1, h8⟩ := shape_len hs
  obtain ⟨a, b, q1, q2, q3⟩ := poly_enum h
  obtain ⟨w, hw, hc⟩ := bw_enum hs q1 (ru_all h1 h8 q2) hh hp
  refine ⟨_, hw, ?_⟩
  have e := Nat.eq_of_beq_eq_true hc
  have e' : w.length + 2 * eM (msk a b l) = 4 * l.length := e
  rw [List.length_map, innB_edg hs, q3]
  omega
end Go.Proofs.Ytlohfeicfhmlmaa.PFnOutlines

namespace Go.Proofs.Ytlohfeicfhmlmaa.PFnOutlines
open Go.RowKit Go.Proofs.YtlohfeicfhmlmaaW.PrintWords Go.Proofs.YtlohfeicfhmlmaaW.PrintLast Go.Proofs.YtlohfeicfhmlmaaW.PrintMore ETool
set_option maxHeartbeats 4000000 in
set_option maxRecDepth 100000 in
theorem sBoundNo (A0 : Option Addr) (c0 : Nat) (l0 : List S41) (h : Int) (w : World) (hr0 : Kd.C k41 w A0 l0.length l0) (hc0 : l0.length ≤ c0) (hH : ∀ W, Below w.heap.size w W → Calls Try.prog 12 #[.slice A0 l0.length c0] W fun e w' => e = .returned (.int .i64 h) ∧ Below W.heap.size W w') (hno : cnB l0 = false ∨ (cnB l0 = true ∧ h ≠ 0) ∨ (cnB l0 = true ∧ h = 0 ∧ pinB l0 = true)) :
    Calls Try.prog 24 #[.slice A0 l0.length c0] w fun e w' => e = .returned (.tuple #[.string ⟨#[]⟩, .bool false]) ∧ Below w.heap.size w w' := by
  have HC := Aside0.mk (sConn A0 c0 l0 w hr0 hc0)
  have HHO := Aside0.mk hH
  have HPI := Aside0.mk (fun (hs : isShapeB l0 = true) W (hb : Below w.heap.size w W) => sPinched A0 c0 l0 W (Kd.C_below hr0 hb) hc0 hs)
  clear hr0 hH
  rcases hno with hs | ⟨hs, hh⟩ | ⟨hs, rfl, hp⟩
  · rw [hs] at HC
    go_enter Try.func24, Try.ntmps24
    go_wp2_with (first | (go_at_call 45; refine HC.out.mono ?_; rintro e w5 ⟨rfl, hb⟩; have HB5 := Aside0.mk hb; clear hb))
    go_ret2
    exact ⟨rfl, HB5.out⟩
  · rw [hs] at HC
    have hh1 : (h != 0) = true := by simpa using hh
    clear hh
    go_enter Try.func24, Try.ntmps24
    go_wp2_with (first | (go_at_call 45; refine HC.out.mono ?_; rintro e w5 ⟨rfl, hb⟩; have HB5 := Aside0.mk hb; clear hb) | (go_at_call 12; refine (HHO.out _ HB5.out).mono ?_; rintro e w6 ⟨rfl, hb⟩; have HB6 := Aside0.mk (below_step HB5.out hb); clear hb))
    go_ret2
    exact ⟨rfl, HB6.out⟩
  · have HPP := Aside0.mk (HPI.out (cnB_split hs).1)
    rw [hs] at HC
    rw [hp] at HPP
    go_enter Try.func24, Try.ntmps24
    go_wp2_with (first | (go_at_call 45; refine HC.out.mono ?_; rintro e w5 ⟨rfl, hb⟩; have HB5 := Aside0.mk hb; clear hb) | (go_at_call 12; refine (HHO.out _ HB5.out).mono ?_; rintro e w6 ⟨rfl, hb⟩; have HB6 := Aside0.mk (below_step HB5.out hb); clear hb) | (go_at_call 49; refine (HPP.out _ HB6.out).mono ?_; rintro e w7 ⟨rfl, hb⟩; have HB7 := Aside0.mk (below_step HB6.out hb); clear hb))
    go_ret2
    exact ⟨rfl, HB7.out⟩
/-- The letters of steps. -/
def dB (d : Int) : UInt8 := if d = 0 then 114 else if d = 1 then 100 else if d = 2 then 108 else 117
def wordOf (ds : List Int) : ByteArray := ⟨(ds.map dB).toArray⟩
theorem wordOf_snoc (ds : List Int) {d : Int} (h0 : 0 ≤ d) (h3 : d ≤ 3) : wordOf ds ++ (⟨#[114, 100, 108, 117]⟩ : ByteArray).extract d.toNat (d + 1).toNat = wordOf (ds ++ [d]) := by
  have e : ((⟨#[114, 100, 108, 117]⟩ : ByteArray).extract d.toNat (d + 1).toNat) = ⟨#[dB d]⟩ := by
    have : d = 0 ∨ d = 1 ∨ d = 2 ∨ d = 3 := by omega
    rcases this with rfl | rfl | rfl | rfl <;> rfl
  rw [e]
  apply ByteArray.ext
  simp [wordOf]
theorem dXY (d : Int) : -1 ≤ dX d ∧ dX d ≤ 1 ∧ -1 ≤ dY d ∧ dY d ≤ 1 := by
  unfold dX dY
  repeat' split
  all_goals omega
theorem bw_next {l : List S41} {x0 y0 : Int} {k : Nat} {x y d : Int} {m : List Int} (h : bwRun l x0 y0 k x y d = some m) :
    (x + dX d = x0 ∧ y + dY d = y0 ∧ turnD l (x + dX d) (y + dY d) d = 0 ∧ m = [d]) ∨
    (¬(x + dX d = x0 ∧ y + dY d = y0 ∧ turnD l (x + dX d) (y + dY d) d = 0) ∧ ∃ k' m', k = k' + 1 ∧ bwRun l x0 y0 k' (x + dX d) (y + dY d) (turnD l (x + dX d) (y + dY d) d) = some m' ∧ m = d :: m') := by
  cases k with
  | zero => cases h
  | succ k =>
    rw [bwRun] at h
    by_cases hc : x + dX d = x0 ∧ y + dY d = y0 ∧ turnD l (x + dX d) (y + dY d) d = 0
    · rw [if_pos hc] at h
      injection h with h
      exact .inl ⟨hc.1, hc.2.1, hc.2.2, h.symm⟩
    · rw [if_neg hc, Option.map_eq_some_iff] at h
      obtain ⟨m', h1, h2⟩ := h
      exact .inr ⟨hc, k, m', rfl, h1, h2.symm⟩
theorem turn_hit {l : List S41} {x y d t : Int} (h : ∀ q : Int, 3 ≤ q → q < t → edgeB l x y ((d + q) % 4) = false) (ht : edgeB l x y ((d + t) % 4) = true) (hd : 0 ≤ d ∧ d ≤ 3) (h3 : 3 ≤ t) (h6 : t < 6) : turnD l x y d = (d + t) % 4 := by
  unfold turnD
  rw [Int.tmod_eq_emod_of_nonneg (by omega), Int.tmod_eq_emod_of_nonneg (by omega), Int.tmod_eq_emod_of_nonneg (by omega)]
  have : t = 3 ∨ t = 4 ∨ t = 5 := by omega
  rcases this with rfl | rfl | rfl
  · rw [if_pos ht]
  · rw [h 3 (by omega) (by omega), if_neg (by simp), if_pos ht]
  · rw [h 3 (by omega) (by omega), if_neg (by simp), h 4 (by omega) (by omega), if_neg (by simp), if_pos ht]
theorem turn_none {l : List S41} {x y d : Int} (h : ∀ q : Int, 3 ≤ q → q < 6 → edgeB l x y ((d + q) % 4) = false) (hd : 0 ≤ d ∧ d ≤ 3) : turnD l x y d = d := by
  unfold turnD
  rw [Int.tmod_eq_emod_of_nonneg (by omega), Int.tmod_eq_emod_of_nonneg (by omega), Int.tmod_eq_emod_of_nonneg (by omega)]
  rw [h 3 (by omega) (by omega), if_neg (by simp), h 4 (by omega) (by omega), if_neg (by simp), h 5 (by omega) (by omega), if_neg (by simp)]
def T10 : Bool × List (List Nat × List Nat) := (true, [([], []), ([], []), ([1], [1]), ([0, 2], [0, 2]), ([3], [3]), ([4], [4]), ([4], [4]), ([5, 3, 0, 1, 2, 3, 4, 5], [5])])
def B10 : List Nat := [0, 0, 2, 7, 15, 31, 31, 63]
theorem tab10 : rtab .any (opsOf Try.f24 10) = T10 := by kernel_rfl
theorem bits10 : waitsOk T10.2 B10 = true := by kernel_rfl
attribute [local go_sem high] eqA41
set_option maxHeartbeats 4000000 in
set_option maxRecDepth 100000 in
theorem sBoundYes (A0 : Option Addr) (c0 : Nat) (l0 : List S41) (W : List Int) (w : World) (hr0 : Kd.C k41 w A0 l0.length l0) (hc0 : l0.length ≤ c0) (hH : ∀ W, Below w.heap.size w W → Calls Try.prog 12 #[.slice A0 l0.length c0] W fun e w' => e = .returned (.int .i64 0) ∧ Below W.heap.size W w') (hs : cnB l0 = true) (hp : pinB l0 = false) (hrun : bwRun l0 (rd_T41 l0 0).f0 (rd_T41 l0 0).f1 64 (rd_T41 l0 0).f0 (rd_T41 l0 0).f1 0 = some W) :
    Calls Try.prog 24 #[.slice A0 l0.length c0] w fun e w' => e = .returned (.tuple #[.string (wordOf W), .bool true]) ∧ Below w.heap.size w w' := by
  have hu41 := Try.underlying41
  have HS := Aside0.mk (cnB_split hs).1
  have HC := Aside0.mk (sConn A0 c0 l0 w hr0 hc0)
  have HHO := Aside0.mk hH
  have HPP := Aside0.mk (fun W (hb : Below w.heap.size w W) => sPinched A0 c0 l0 W (Kd.C_below hr0 hb) hc0 HS.out)
  have HR0 := Aside0.mk hr0
  have HRUN := Aside0.mk hrun
  obtain ⟨hl1, hl8⟩ := shape_len HS.out
  have hpos : 0 < (l0.length : Int) := by omega
  have hposn : 0 < l0.length := by omega
  rw [hs] at HC
  rw [hp] at HPP
  clear hr0 hH hrun hs hp
  go_enter Try.func24, Try.ntmps24
  go_upto_region 4 with (first | (go_at_call 45; refine HC.out.mono ?_; rintro e w5 ⟨rfl, hb⟩; have HB5 := Aside0.mk hb; clear hb) | (go_at_call 12; refine (HHO.out _ HB5.out).mono ?_; rintro e w6 ⟨rfl, hb⟩; have HB6 := Aside0.mk (below_step HB5.out hb); clear hb) | (go_at_call 49; refine (HPP.out _ HB6.out).mono ?_; rintro e w7 ⟨rfl, hb⟩; have HB7 := Aside0.mk (below_step HB6.out hb); clear hb))
  clear HC HHO HPP HB5 HB6
  obtain ⟨ad, e, hx0, hx1⟩ := at_T41 (Kd.C_below HR0.out HB7.out) 0 (by omega) hpos
  cases e
  rw [show ((0 : Int).toNat * 2) = 0 from rfl, Addr.add_zero'] at hx0 hx1
  go_upto_region 5 with (((with_reducible refine gate_dst (N := 5) rfl ?_); refine box_c ?hg (N := 5) (t := 41) ?hd ?hr ?_; (case hd => rfl); (case hg => rfl); (case hr => first | (go_simp; done) | (go_simp; rfl)); intro gb w3 BX hz0 hz1 hf0 hf1))
  obtain ⟨q0, q1, q2, q3⟩ := shape_cell HS.out (i := 0) (by omega) hpos
  obtain ⟨W4, hW, HW, hb0, hb1, BC⟩ := BX.put (rd_T41 l0 0).f0 (rd_T41 l0 0).f1
  rw [hW]
  have HB4 := Aside0.mk (below_step HB7.out HW)
  have GB := Aside0.mk (show w.heap.size ≤ gb by rw [BX.hg]; exact HB7.out.size)
  have BK := Aside0.mk BC
  clear hW HW hz0 hz1 hf0 hf1 BX BC hx0 hx1 HB7 hb0 hb1
  have hcell : ∀ W, Below w.heap.size w W → W.cell? ad = some (.int .i64 (rd_T41 l0 0).f0) ∧ W.cell? ⟨ad.block, ad.off + 1, none⟩ = some (.int .i64 (rd_T41 l0 0).f1) := fun W hb => by
    obtain ⟨ad', e, h0, h1⟩ := at_T41 (Kd.C_below HR0.out hb) 0 (by omega) hpos
    cases e
    rw [show ((0 : Int).toNat * 2) = 0 from rfl, Addr.add_zero'] at h0 h1
    exact ⟨h0, h1⟩
  have HCE := Aside0.mk hcell
  clear hcell
  generalize (rd_T41 l0 0).f0 = x0 at *
  generalize (rd_T41 l0 0).f1 = y0 at *
  go_upto_region 7 with (fail)
  go_loopg [4, 6, 7] 65 (fun k v4 v6 v7 w' => ∃ (ds : List Int) (x y d n : Int), v4 = .string (wordOf ds) ∧ v6 = .int .i64 d ∧ v7 = .int .i64 n ∧ 0 ≤ d ∧ d ≤ 3 ∧ 0 ≤ n ∧ n + k ≤ 65 ∧ Aside0 (x - x0 ≤ n ∧ x0 - x ≤ n ∧ y - y0 ≤ n ∧ y0 - y ≤ n) ∧ Aside0 (n = (ds.length : Int)) ∧ Aside0 ((n ≠ 0 ∧ x = x0 ∧ y = y0 ∧ d = 0 ∧ ds = W) ∨ ((n = 0 ∨ ¬(x = x0 ∧ y = y0 ∧ d = 0)) ∧ ∃ k' m, k = k' + 1 ∧ bwRun l0 x0 y0 k' x y d = some m ∧ ds ++ m = W)) ∧ Aside0 (w'.heap[gb]? = some (.cells #[.int .i64 x, .int .i64 y] 41 (0, 0))) ∧ Aside0 (Below w.heap.size w w'))
  case atStart => exact ⟨[], x0, y0, 0, 0, rfl, rfl, rfl, by omega, by omega, by omega, by omega, ⟨by omega⟩, ⟨rfl⟩, ⟨.inr ⟨.inl rfl, 64, W, rfl, HRUN.out, rfl⟩⟩, BK, HB4⟩
  case round =>
    clear HRUN BK HB4
    obtain ⟨ds, x, y, d, n, rfl, rfl, rfl, hd0, hd3, hn0, hnk, HXY, HSZ, HST, BK, HB⟩ := hrel
    obtain ⟨g1, rfl⟩ : ∃ g1, g1 = gk := ⟨gk, rfl⟩
    rcases HST.out with ⟨e1, e2, e3, e4, e5⟩ | ⟨hne, k', m, ek, hr, hm⟩
    · subst e2 e3 e4
      have HN5 := Aside0.mk e5
      have hb0 := BW.cell ((blk_cell BK.out 0).trans rfl : wr.cell? ⟨gb, 0, none⟩ = some (.int .i64 x))
      have hb1 := BW.cell ((blk_cell BK.out 1).trans rfl : wr.cell? ⟨gb, 1, none⟩ = some (.int .i64 y))
      have hc1 := BW.cell (HCE.out wr HB.out).1
      have hc2 := BW.cell (HCE.out wr HB.out).2
      have hnz : (n == 0) = false := by simpa using e1
      have hxx : (x == x) = true := by simp
      have hyy : (y == y) = true := by simp
      clear HST e1
      go_upto_region 7 with (fail)
      refine quiet_b (by kernel_rfl) (by kernel_rfl) ?_
      repeat (with_reducible refine wpQuiet_step ?_; intro K hK; go_simp; first | (with_reducible apply Exists.intro; with_reducible refine ⟨fun _ => ?_, hK _ ?_⟩; (fail); clear hK K) | (with_reducible refine hK _ ?_; clear hK K) | (rw [if_neg (by decide)]; with_reducible refine hK _ ?_; clear hK K))
      with_reducible refine wpQuiet_nil ?_
      refine quiet_end ?_
      intro W5 hb5
      go_wp2
      go_ret2
      exact ⟨rfl, below_step HB.out hb5⟩
    · subst ek
      have HR1 := Aside0.mk hr
      have HM1 := Aside0.mk hm
      clear HST hr hm
      go_upto_region 7 with (fail)
      go_cut [36] (fun v36 wc => v36 = .bool true ∧ Aside0 (wc.heap[gb]? = some (.cells #[.int .i64 x, .int .i64 y] 41 (0, 0))) ∧ Aside0 (Below w.heap.size w wc))
      case first =>
        have hb0 := BW.cell ((blk_cell BK.out 0).trans rfl : wr.cell? ⟨gb, 0, none⟩ = some (.int .i64 x))
        have hb1 := BW.cell ((blk_cell BK.out 1).trans rfl : wr.cell? ⟨gb, 1, none⟩ = some (.int .i64 y))
        have hc1 := BW.cell (HCE.out wr HB.out).1
        have hc2 := BW.cell (HCE.out wr HB.out).2
        have hcs : (n == 0) = true ∨ ((n == 0) = false ∧ (!(x == x0) || !(y == y0)) = true) ∨ ((n == 0) = false ∧ (!(x == x0) || !(y == y0)) = false ∧ (d != 0) = true) := by
          by_cases a1 : n = 0
          · exact .inl (by simpa using a1)
          · by_cases a2 : x = x0 ∧ y = y0
            · refine .inr (.inr ⟨by simpa using a1, by simp [a2.1, a2.2], ?_⟩)
              rcases hne with h | h
              · exact absurd h a1
              · rw [bne_iff_ne]
                exact fun hd => h ⟨a2.1, a2.2, hd⟩
            · refine .inr (.inl ⟨by simpa using a1, ?_⟩)
              simp only [Bool.or_eq_true, Bool.not_eq_true', beq_eq_false_iff_ne]
              omega
        refine quiet_b (by kernel_rfl) (by kernel_rfl) ?_
        rcases hcs with h1 | ⟨h1, h2⟩ | ⟨h1, h2, h3⟩
        all_goals
          repeat (with_reducible refine wpQuiet_step ?_; intro K hK; go_simp; first | (with_reducible apply Exists.intro; with_reducible refine ⟨fun _ => ?_, hK _ ?_⟩; (fail); clear hK K) | (with_reducible refine hK _ ?_; clear hK K) | (rw [if_neg (by decide)]; with_reducible refine hK _ ?_; clear hK K))
          with_reducible refine wpQuiet_nil ?_
          refine quiet_end ?_
          intro W5 hb5
          go_wp2
          go_meet
          case rel => exact ⟨rfl, ⟨blk_below BK.out hb5⟩, ⟨below_step HB.out hb5⟩⟩
      case rest =>
        clear BK HB hne
        obtain ⟨rfl, BK, HB⟩ := hcut
        have hk1 : 1 ≤ k' ∨ k' = 0 := by omega
        have hbt : bt (⟨#[114, 100, 108, 117]⟩ : ByteArray) d = dL d := by
          have : d = 0 ∨ d = 1 ∨ d = 2 ∨ d = 3 := by omega
          rcases this with rfl | rfl | rfl | rfl <;> rfl
        have hxy := HXY.out
        have HST := Aside0.mk (fun W => sStep x y d W (by omega) (by omega) ⟨hd0, hd3⟩)
        rw [← hbt] at HST
        clear hbt hxy hk1
        have HW := Aside0.mk (wordOf_snoc ds hd0 hd3)
        have hsz : (wordOf ds).size + ((⟨#[114, 100, 108, 117]⟩ : ByteArray).extract (d : Int).toNat ((d + 1) : Int).toNat).size ≤ 9223372036854775807 := by
          have e1 : (wordOf ds).size = ds.length := by simp [wordOf, ByteArray.size]
          have e2 := HSZ.out
          have e3 : ((⟨#[114, 100, 108, 117]⟩ : ByteArray).extract (d : Int).toNat ((d + 1) : Int).toNat).size ≤ 4 := by
            have : d = 0 ∨ d = 1 ∨ d = 2 ∨ d = 3 := by omega
            rcases this with rfl | rfl | rfl | rfl <;> decide
          omega
        have hsz2 : (9223372036854775807 < (wordOf ds).size + ((⟨#[114, 100, 108, 117]⟩ : ByteArray).extract (d : Int).toNat ((d + 1) : Int).toNat).size) = False := eq_false (Nat.not_lt.2 hsz)
        have hd4 : d < 4 := by omega
        have hd5 : d ≤ d + 1 := by omega
        have hd6 : d + 1 ≤ 4 := by omega
        generalize wordOf ds = s at *
        go_upto_region 10 with (fail)
        clear hsz hsz2 hd5 hd6
        have n0_ := Aside0.mk (blk_drew BK.out)
        have n1_ := Aside0.mk (below_drew1 HB.out)
        clear BK HB
        have BK := n0_
        have HB := n1_
        clear n0_ n1_
        have p30 : 0 ≤ (d : Int) := hd0
        have q30 : d < (4 : Int) := hd4
        have hx30 := bt_at (⟨#[114, 100, 108, 117]⟩ : ByteArray) d
        replace p30 := eq_true p30
        replace q30 := eq_true q30
        refine start_ (n := 8) (S := fun w' => w'.cell? ⟨gb, 0, none⟩ = some (.int .i64 x) ∧ w'.cell? ⟨gb, 1, none⟩ = some (.int .i64 y)) (ds := [7]) #[false, false, false, false, false, false, false, false] (by kernel_rfl) rfl rfl ⟨(blk_cell BK.out 0).trans rfl, (blk_cell BK.out 1).trans rfl⟩ (fun hHeld => ?_); refine with_tabW tab10 bits10 (fun HT_ HW_ => ?_)
        generalize wc.drew = w32 at BK HB hHeld ⊢
        refine pure_ (i := 1) (N := some 47) (v := ?_) (a' := ?_) #[false, true, false, false, false, false, false, false] rfl rfl (any_of HT_.out (by kernel_rfl)) (fun _ _ _ h => h) (Or.inl ⟨by rfl, ?_⟩) ?_ ?_
        rotate_left
        · intro w'
          go_simp
          with_reducible rfl
        rotate_left
        · simp only [Act.put, List.setIfInBounds_toArray, List.set_cons_zero, List.set_cons_succ, i64_w, i32_w]
          rfl
        refine take_ (i := 0) (N := some 46) (v := ?_) (a' := ?_) #[true, true, false, false, false, false, false, false] rfl rfl (take_ofW HT_.out HW_.out (by kernel_rfl)) (fun _ _ _ h => h) (Or.inl ⟨by rfl, ?_⟩) hHeld ?_ ?_
        rotate_left
        · rintro w' ⟨s0, s1⟩
          go_simp
          with_reducible rfl
        rotate_left
        · simp only [Act.put, List.setIfInBounds_toArray, List.set_cons_zero, List.set_cons_succ, i64_w, i32_w]
          rfl
        refine take_ (i := 2) (N := some 48) (v := ?_) (a' := ?_) #[true, true, true, false, false, false, false, false] rfl rfl (take_ofW HT_.out HW_.out (by kernel_rfl)) (fun _ _ _ h => h) (Or.inl ⟨by rfl, ?_⟩) hHeld ?_ ?_
        rotate_left
        · rintro w' ⟨s0, s1⟩
          go_simp
          with_reducible rfl
        rotate_left
        · simp only [Act.put, List.setIfInBounds_toArray, List.set_cons_zero, List.set_cons_succ, i64_w, i32_w]
          rfl
        refine one_ (i := 3) (N := some 49) #[true, true, true, true, false, false, false, false] rfl rfl (one_of HT_.out (by kernel_rfl)) (by decide) (fun K hK => ?_)
        refine goes_ Try.func50 (by kernel_rfl) rfl #[.agg #[.int .i64 x, .int .i64 y], .int .u8 (bt (⟨#[114, 100, 108, 117]⟩ : ByteArray) d)] (by rfl) rfl rfl (by (try simp only [List.map_toArray, List.map_cons, List.map_nil]); first | done | rfl | (simp only [List.length_drop, List.length_take]; rfl)) ?_
        with_reducible refine (HST.out _).mono ?_
        rintro e w33 ⟨rfl, hb⟩
        refine ⟨_, rfl, ?_⟩
        have n0_ := Aside0.mk (blk_below (g := gb) (o := .cells #[.int .i64 x, .int .i64 y] 41 (0, 0)) (by (with_reducible repeat (first | refine blk_drewN ?_ _ | refine blk_drew ?_ | refine blk_alloc ?_ _)); exact BK.out) hb)
        have n1_ := Aside0.mk (below_step (by repeat (first | (with_reducible first | exact HB.out | apply below_alloc | apply pw_below_drewN | apply below_drew1 | refine below_set ?_ GB.out) | exact HB.out)) hb)
        clear BK
        clear HB
        have BK := n0_
        have HB := n1_
        clear n0_ n1_
        (try clear hb)
        (try clear hb2)
        (try clear hk)
        (try clear hi)
        refine hK.out _ _ ⟨(blk_cell BK.out 0).trans rfl, (blk_cell BK.out 1).trans rfl⟩ (fun hHeld => ?_)
        clear hK K
        refine norm_ (a' := ?_) ?_ ?_
        rotate_left
        · show Act.put _ (some 49) _ = _
          simp only [Act.put, List.setIfInBounds_toArray, List.set_cons_zero, List.set_cons_succ, i64_w, i32_w]
          rfl
        refine pure_ (i := 4) (N := some 45) (v := ?_) (a' := ?_) #[true, true, true, true, true, false, false, false] rfl rfl (any_of HT_.out (by kernel_rfl)) (fun _ _ _ h => h) (Or.inl ⟨by rfl, ?_⟩) ?_ ?_
        rotate_left
        · intro w'
          go_simp
          with_reducible rfl
        rotate_left
        · simp only [Act.put, List.setIfInBounds_toArray, List.set_cons_zero, List.set_cons_succ, i64_w, i32_w]
          rfl
        refine pure_ (i := 5) (N := some 50) (v := ?_) (a' := ?_) #[true, true, true, true, true, true, false, false] rfl rfl (any_of HT_.out (by kernel_rfl)) (fun _ _ _ h => h) (Or.inl ⟨by rfl, ?_⟩) ?_ ?_
        rotate_left
        · intro w'
          go_simp
          with_reducible rfl
        rotate_left
        · simp only [Act.put, List.setIfInBounds_toArray, List.set_cons_zero, List.set_cons_succ, i64_w, i32_w]
          rfl
        refine pure_ (i := 6) (N := some 51) (v := ?_) (a' := ?_) #[true, true, true, true, true, true, true, false] rfl rfl (any_of HT_.out (by kernel_rfl)) (fun _ _ _ h => h) (Or.inl ⟨by rfl, ?_⟩) ?_ ?_
        rotate_left
        · intro w'
          go_simp
          with_reducible rfl
        rotate_left
        · simp only [Act.put, List.setIfInBounds_toArray, List.set_cons_zero, List.set_cons_succ, i64_w, i32_w]
          rfl
        refine last_ (i := 7) (N := none) #[true, true, true, true, true, true, true, true] rfl rfl (one_of HT_.out (by kernel_rfl)) (by decide) (fun K hK => ?_)
        have hs34 : w33.cell? ⟨gb, 0, none⟩ = some (.int .i64 x) := (blk_cell BK.out 0).trans rfl
        have hfs34 := blk_frozen BK.out 0
        have hs35 : w33.cell? ⟨gb, 1, none⟩ = some (.int .i64 y) := (blk_cell BK.out 1).trans rfl
        have hfs35 := blk_frozen BK.out 1
        refine skip_ (w1 := ?_) (by rfl) rfl ?_ ?_
        rotate_left
        · go_simp
          rfl
        refine hK.out _ _ ?_
        clear hK K
        refine done_ (done_of HT_.out (by kernel_rfl)) ?_
        clear hHeld p30 q30 hx30 HT_ HW_ hs34 hfs34 hs35 hfs35
        obtain ⟨W6, hW6⟩ : ∃ W6, W6 = (w33.setCell ⟨gb, 0, none⟩ (.int .i64 (x + dX d))).setCell ⟨gb, 1, none⟩ (.int .i64 (y + dY d)) := ⟨_, rfl⟩
        have BK6 := Aside0.mk (show W6.heap[gb]? = some (.cells #[.int .i64 (x + dX d), .int .i64 (y + dY d)] 41 (0, 0)) by
          rw [hW6]
          refine blk_put (cs := #[.int .i64 (x + dX d), .int .i64 y]) ?_ 1 _ rfl
          exact blk_put BK.out 0 _ rfl)
        have HB6 := Aside0.mk (show Below w.heap.size w W6 by rw [hW6]; exact below_set (below_set HB.out GB.out) GB.out)
        have HNX := Aside0.mk (bw_next HR1.out)
        have hxy := HXY.out
        have hdx := dXY d
        have hX : -1000 ≤ x + dX d ∧ x + dX d ≤ 1000 := by omega
        have hY : -1000 ≤ y + dY d ∧ y + dY d ≤ 1000 := by omega
        have HXY2 := Aside0.mk (show (x + dX d) - x0 ≤ n + 1 ∧ x0 - (x + dX d) ≤ n + 1 ∧ (y + dY d) - y0 ≤ n + 1 ∧ y0 - (y + dY d) ≤ n + 1 by omega)
        try rw [← hW6]
        clear hW6 BK HB HR1 hxy hdx
        generalize x + dX d = X at *
        generalize y + dY d = Y at *
        go_upto_region 12 with (fail)
        go_loopg [6, 8] 4 (fun kq v6 v8 w' => ∃ t : Int, v6 = .int .i64 d ∧ v8 = .int .i64 t ∧ 3 ≤ t ∧ t ≤ 6 ∧ 7 ≤ t + kq ∧ Aside0 (∀ q : Int, 3 ≤ q → q < t → edgeB l0 X Y ((d + q) % 4) = false) ∧ Aside0 (w'.heap[gb]? = some (.cells #[.int .i64 X, .int .i64 Y] 41 (0, 0))) ∧ Aside0 (Below w.heap.size w w'))
        case atStart => exact ⟨3, rfl, rfl, by omega, by omega, by omega, ⟨fun q h0 h1 => absurd h1 (by omega)⟩, BK6, HB6⟩
        case round =>
          clear BK6 HB6
          obtain ⟨t, rfl, rfl, ht3, ht6, htk, HE, BK, HB⟩ := hrel
          obtain ⟨g2, rfl⟩ : ∃ g2, g2 = gk := ⟨gk, rfl⟩
          by_cases hlt : t < 6
          · have hb0 := (blk_cell BK.out 0).trans rfl
            have hb1 := (blk_cell BK.out 1).trans rfl
            obtain ⟨e, he⟩ : ∃ e, (d + t) % 4 = e := ⟨_, rfl⟩
            have he0 : 0 ≤ e ∧ e ≤ 3 := by omega
            have HED := Aside0.mk (fun W (hb : Below w.heap.size w W) => sEdge (some ad) c0 l0 X Y e W (Kd.C_below HR0.out hb) hc0 hX hY he0)
            rcases hed : edgeB l0 X Y e with _ | _
            · rw [hed] at HED
              have HE2 := Aside0.mk (show ∀ q : Int, 3 ≤ q → q < t + 1 → edgeB l0 X Y ((d + q) % 4) = false from fun q h0 h1 => by
                by_cases hq : q = t
                · rw [hq, he]; exact hed
                · exact HE.out q h0 (by omega))
              clear hed HE
              go_wp2_with (first | (go_at_call 51; (with_reducible refine (HED.out _ HB.out).mono ?_); rintro e5 w7 ⟨rfl, hb⟩; have BK7 := Aside0.mk (blk_below BK.out hb); have HB7 := Aside0.mk (below_step HB.out hb); clear hb BK HB))
              go_roundg (g2 - 1)
              case measure => omega
              case rel => exact ⟨t + 1, rfl, rfl, by omega, by omega, by omega, HE2, BK7, HB7⟩
            · rw [hed] at HED
              have HT := Aside0.mk (turn_hit (d := d) HE.out (by rw [he]; exact hed) ⟨hd0, hd3⟩ (by omega) hlt)
              rw [he] at HT
              clear hed HE
              go_wp2_with (first | (go_at_call 51; (with_reducible refine (HED.out _ HB.out).mono ?_); rintro e5 w7 ⟨rfl, hb⟩; have BK7 := Aside0.mk (blk_below BK.out hb); have HB7 := Aside0.mk (below_step HB.out hb); clear hb BK HB))
              rw [HT.out] at HNX
              rcases HNX.out with ⟨n1, n2, n3, n4⟩ | ⟨nn, k2, m2, rfl, n2, n3⟩
              · go_roundg k'
                case measure => omega
                case rel => exact ⟨ds ++ [d], X, Y, e, n + 1, by rw [HW.out], by rw [he], rfl, he0.1, he0.2, by omega, by omega, HXY2, ⟨by rw [HSZ.out]; simp⟩, ⟨.inl ⟨by omega, n1, n2, n3, by rw [← n4]; exact HM1.out⟩⟩, BK7, HB7⟩
              · go_roundg (k2 + 1)
                case measure => omega
                case rel => exact ⟨ds ++ [d], X, Y, e, n + 1, by rw [HW.out], by rw [he], rfl, he0.1, he0.2, by omega, by omega, HXY2, ⟨by rw [HSZ.out]; simp⟩, ⟨.inr ⟨.inr nn, k2, m2, rfl, n2, by rw [← HM1.out, n3]; simp⟩⟩, BK7, HB7⟩
          · have HT := Aside0.mk (turn_none (d := d) (fun q h0 h1 => HE.out q h0 (by omega)) ⟨hd0, hd3⟩)
            clear HE
            go_wp2
            rw [HT.out] at HNX
            rcases HNX.out with ⟨n1, n2, n3, n4⟩ | ⟨nn, k2, m2, rfl, n2, n3⟩
            · go_roundg k'
              case measure => omega
              case rel => exact ⟨ds ++ [d], X, Y, d, n + 1, by rw [HW.out], rfl, rfl, hd0, hd3, by omega, by omega, HXY2, ⟨by rw [HSZ.out]; simp⟩, ⟨.inl ⟨by omega, n1, n2, n3, by rw [← n4]; exact HM1.out⟩⟩, BK, HB⟩
            · go_roundg (k2 + 1)
              case measure => omega
              case rel => exact ⟨ds ++ [d], X, Y, d, n + 1, by rw [HW.out], rfl, rfl, hd0, hd3, by omega, by omega, HXY2, ⟨by rw [HSZ.out]; simp⟩, ⟨.inr ⟨.inr nn, k2, m2, rfl, n2, by rw [← HM1.out, n3]; simp⟩⟩, BK, HB⟩
end Go.Proofs.Ytlohfeicfhmlmaa.PFnOutlines

namespace Go.Proofs.Ytlohfeicfhmlmaa.PFnOutlines
open Go.RowKit Go.Proofs.YtlohfeicfhmlmaaW.PrintWords Go.Proofs.YtlohfeicfhmlmaaW.PrintLast Go.Proofs.YtlohfeicfhmlmaaW.PrintMore
attribute [local go_sem] max2_int min2_int max_two min_two max_three min_three max_four min_four   -- for this text's walks alone
set_option linter.unusedVariables false
set_option linter.unusedSimpArgs false
attribute [local go_sem high] eqA41
def cEnc (c : S41) : List Value := [.int .i64 c.f0, .int .i64 c.f1]
def cLt (a b : S41) : Bool := decide (a.f1 < b.f1) || (decide (a.f1 = b.f1) && decide (a.f0 < b.f0))
instance : Inhabited S41 := ⟨z41⟩
set_option maxHeartbeats 2000000 in
theorem before_grow (a b : S41) (w : World) :
    Calls Try.prog 63 #[.agg #[.int .i64 a.f0, .int .i64 a.f1], .agg #[.int .i64 b.f0, .int .i64 b.f1]] w fun e w' => e = .returned (.bool (cLt a b)) ∧ ∃ n os, w' = Sort.grow (w.drewN n) os := by
  have hu := Try.underlying41
  obtain ⟨a0, a1⟩ := a
  obtain ⟨b0, b1⟩ := b
  have fin : ∀ o1 o2, ∃ n os, (w.alloc o1).alloc o2 = Sort.grow (w.drewN n) os := fun o1 o2 => ⟨0, #[o1] ++ #[o2], by rw [Sort.alloc_eq_grow, Sort.alloc_eq_grow, Sort.grow_grow]; rfl⟩
  have FIN : Hid _ := fin
  clear fin
  by_cases h1 : a1 < b1
  · have d1 : decide (a1 < b1) = true := decide_eq_true h1
    go_enter Try.func63, Try.ntmps63
    go_wp2
    go_ret
    exact ⟨by simp [cLt, h1], FIN.out _ _⟩
  · have d1 : decide (a1 < b1) = false := decide_eq_false h1
    by_cases h2 : a1 = b1
    · have d2 : (a1 == b1) = true := by simpa using h2
      have H2 : Hid (a1 = b1) := h2
      clear h2
      go_enter Try.func63, Try.ntmps63
      go_wp2
      go_ret
      exact ⟨by simp [cLt, H2.out], FIN.out _ _⟩
    · have d2 : (a1 == b1) = false := by simpa using h2
      go_enter Try.func63, Try.ntmps63
      go_wp2
      go_ret
      exact ⟨by simp [cLt, h1, h2], FIN.out _ _⟩
set_option maxHeartbeats 2000000 in
theorem less_grow (blk off c Bs size : Nat) (W : World) (x y : S41) (hs : W.cell? ⟨Bs, 0, none⟩ = some (.slice (some ⟨blk, off, none⟩) size c)) (i j : Nat) (hi : i < size) (hj : j < size) (hsz : size < 4611686018427387904)
    (h1 : W.cell? ⟨blk, off + i * 2, none⟩ = some (.int .i64 x.f0)) (h2 : W.cell? ⟨blk, off + i * 2 + 1, none⟩ = some (.int .i64 x.f1))
    (h3 : W.cell? ⟨blk, off + j * 2, none⟩ = some (.int .i64 y.f0)) (h4 : W.cell? ⟨blk, off + j * 2 + 1, none⟩ = some (.int .i64 y.f1)) :
    Calls Try.prog 80 #[.int .i64 i, .int .i64 j, .pointer (some ⟨Bs, 0, none⟩)] W fun e w' => e = .returned (.bool (cLt x y)) ∧ ∃ n os, w' = Sort.grow (W.drewN n) os := by
  have hu := Try.underlying41
  have lt_ : ∀ {a v}, W.cell? a = some v → a.block < W.heap.size := fun h => World.block_lt_of_cell? W _ h
  have cs := _root_.Go.cell_grown (lt_ hs) hs
  have ci := _root_.Go.cell_grown (lt_ h1) h1
  have ci2 := _root_.Go.cell_grown (lt_ h2) h2
  have cj := _root_.Go.cell_grown (lt_ h3) h3
  have cj2 := _root_.Go.cell_grown (lt_ h4) h4
  have hbf := fun W' => before_grow x y W'
  have HBF : Hid _ := hbf
  clear hbf hs h1 h2 h3 h4 lt_
  go_enter Try.func80, Try.ntmps80
  go_wp2
  refine wp_region_quiet_grown (by kernel_rfl) (by kernel_rfl) ?_
  repeat (quiet_step ((go_at_call 63; exact Calls.grown_of (HBF.out _))))
  refine wpQuiet_nil ?_
  intro _ hw'
  obtain ⟨⟨nq, osq⟩, hw''⟩ := hw'
  subst hw''
  go_wp2
  go_ret
  exact ⟨rfl, nq, osq, rfl⟩
theorem cLt_swo : Sort.SWO cLt where
  irrefl := fun x => by simp [cLt]
  trans := fun x y z h1 h2 => by simp [cLt] at h1 h2 ⊢; omega
  ntrans := fun x y z h1 h2 => by simp [cLt] at h1 h2 ⊢; omega
theorem cLt_tri (x y : S41) (h1 : cLt x y = false) (h2 : cLt y x = false) : x = y := by
  obtain ⟨a, b⟩ := x
  obtain ⟨c, d⟩ := y
  simp [cLt] at h1 h2
  simp only [S41.mk.injEq]
  omega
noncomputable def iSl : TypeInfo := (Try.prog.info? 24).get (by kernel_rfl)
noncomputable def iEl : TypeInfo := (Try.prog.info? 41).get (by kernel_rfl)
theorem swap_no (n : Nat) (h2 : 2 ≤ n) : Lib.swapperK n iEl 25 = 9 := by
  have a : iEl.hasPointers = false := by kernel_rfl
  have b : iEl.bytes = 16 := by kernel_rfl
  have c : (n == 0) = false := by simp; omega
  have d : (n == 1) = false := by simp; omega
  simp [Lib.swapperK, a, b, c, d]
theorem heap_world {w : World} {blk off m : Nat} {dk : Array S41} {os : Array Obj} {b : Nat} (hb : b < w.heap.size) (hne : b ≠ blk) :
    (sortWorldK cEnc 2 w blk off m dk os).heap[b]? = w.heap[b]? := by
  have hs : b < (Sort.putRowK cEnc 2 (Sort.ahead w m) blk off dk).heap.size := by rw [ESort.size_putRowK']; exact hb
  unfold sortWorldK Sort.grow
  show ((Sort.putRowK cEnc 2 (Sort.ahead w m) blk off dk).heap ++ os)[b]? = _
  rw [Array.getElem?_append_left hs]
  unfold Sort.putRowK Sort.putRow Sort.mapBlock
  simp [Array.getElem?_modify, Ne.symm hne, Sort.ahead]
theorem below_world {B : Nat} {w0 w : World} {blk off m : Nat} {dk : Array S41} {os : Array Obj} (h : Below B w0 w) (hB : B ≤ blk) (hs : B ≤ w.heap.size) : Below B w0 (sortWorldK cEnc 2 w blk off m dk os) :=
  ⟨h.os, h.tape, h.output, by
    have : (sortWorldK cEnc 2 w blk off m dk os).heap.size = w.heap.size + os.size := by
      unfold sortWorldK; rw [Sort.size_grow, ESort.size_putRowK']; rfl
    rw [this]; have := h.size; omega, fun i hi => by rw [heap_world (by omega) (by omega)]; exact h.block i hi⟩
def Srt (ys l : List S41) : Prop := ys.Perm l ∧ ys.Pairwise (fun a b => cLt b a = false)
theorem own_form {w : World} {base e n c : Nat} {ok : Nat → Prop} {A : Option Addr} {xs : List S41} (h : Kd.R k41 e w base ok (.slice A n c) xs) (hn : 0 < xs.length) :
    ∃ g cur, A = some ⟨g, 0, none⟩ ∧ n = xs.length ∧ base ≤ g ∧ w.heap[g]? = some (.cells cur e (0, 0)) ∧ (∀ t x, xs[t]? = some x → cur[t * 2]? = some (.int .i64 x.f0) ∧ cur[t * 2 + 1]? = some (.int .i64 x.f1)) := by
  obtain ⟨_, inner, ⟨hl, ho⟩, hr⟩ := h
  rcases ho with ⟨_, h0⟩ | ⟨g, cap, cur, hv, hg, hh, h1, h2, h3, h4⟩
  · omega
  · injection hv with e1 e2 e3
    subst e1
    refine ⟨g, cur, rfl, e2, hg, hh, fun t x hx => ?_⟩
    have hk := k41_openM (hr.2 t x hx)
    have htl : t < xs.length := (List.getElem?_eq_some_iff.1 hx).1
    have hsz : k41.sz = 2 := rfl
    rw [hsz] at hk h4 hr
    have e : ∀ j, j < 2 → cur[t * 2 + j]? = [Value.int .i64 x.f0, .int .i64 x.f1][j]? := fun j hj => by
      rw [← hk, List.getElem?_take, if_pos hj, List.getElem?_drop, ← h4, List.getElem?_take, if_pos (by omega), Array.getElem?_toList]
    exact ⟨by simpa using e 0 (by omega), by simpa using e 1 (by omega)⟩
theorem C_of_cells {w : World} {A : Option Addr} {xs : List S41} (hm : xs.length ≤ 9223372036854775807) (h : 0 < xs.length → ∃ g, A = some ⟨g, 0, none⟩ ∧ ∀ t x, xs[t]? = some x → w.cell? ⟨g, t * 2, none⟩ = some (.int .i64 x.f0) ∧ w.cell? ⟨g, t * 2 + 1, none⟩ = some (.int .i64 x.f1)) :
    Kd.C k41 w A xs.length xs := by
  refine ⟨rfl, hm, fun hn => ?_⟩
  obtain ⟨g, rfl, hc⟩ := h hn
  refine ⟨_, rfl, fun j p hj => ⟨_, rfl, k41_mk w p, fun i u hu => ?_⟩⟩
  rw [add_plain]
  show w.cell? ⟨g, j * 2 + i, none⟩ = some u
  obtain ⟨h0, h1⟩ := hc j p hj
  rcases i with _ | _ | i
  · simp only [List.getElem?_cons_zero, Option.some.injEq] at hu; subst hu; exact h0
  · simp only [Nat.zero_add, List.getElem?_cons_succ, List.getElem?_cons_zero, Option.some.injEq] at hu; subst hu; exact h1
  · simp at hu
theorem world_drew (w : World) (g m n : Nat) (dk : Array S41) (os os' : Array Obj) :
    Sort.grow ((sortWorldK cEnc 2 w g 0 m dk os).drewN n) os' = sortWorldK cEnc 2 w g 0 (m + n) dk (os ++ os') := by
  have e : (sortWorldK cEnc 2 w g 0 m dk os).drewN n = sortWorldK cEnc 2 w g 0 (m + n) dk os := by
    unfold sortWorldK
    rw [← Sort.putRowK_drewN cEnc 2 w m n g 0 dk]
    rfl
  rw [e]
  unfold sortWorldK
  rw [Sort.grow_grow]
theorem arr_get (l : List S41) (t : Nat) (ht : t < l.length) : l[t]? = some l.toArray[t]! := by
  rw [List.getElem?_eq_getElem ht]; simp [ht]
theorem sort_call (w w1 : World) (A1 : Option Addr) (c1 : Nat) (l0 : List S41) (HO : Kd.R k41 41 w1 w.heap.size (fun _ => True) (.slice A1 l0.length c1) l0) (HB : Below w.heap.size w w1) (h12 : l0.length ≤ 12) :
    Calls Try.prog 79 #[.iface 24 (.slice A1 l0.length c1), .func (.func 80) #[] #[.pointer (some ⟨w1.heap.size, 0, none⟩)]] (w1.alloc (.cells #[.slice A1 l0.length c1] 24)) fun e w' =>
      e = .returned (.tuple #[]) ∧ ∃ ys : List S41, Srt ys l0 ∧ Kd.C k41 w' A1 ys.length ys ∧ (∀ ad, A1 = some ad → 0 < l0.length → ad.block < w1.heap.size) ∧ w'.heap[w1.heap.size]? = some (.cells #[.slice A1 l0.length c1] 24 (0, 0)) ∧ Below w.heap.size w w' := by
  have hB1 := below_alloc HB (.cells #[.slice A1 l0.length c1] 24)
  have hsz := HB.size
  by_cases h2 : 2 ≤ l0.length
  · obtain ⟨g, cur, rfl, _, hg, hh, hc⟩ := own_form HO (by omega)
    have hgl : g < w1.heap.size := blk_lt hh
    obtain ⟨W3, hW3⟩ : ∃ W3, W3 = w1.alloc (.cells #[.slice (some ⟨g, 0, none⟩) l0.length c1] 24) := ⟨_, rfl⟩
    have hs3 : W3.heap.size = w1.heap.size + 1 := by rw [hW3]; simp
    have hh3 : W3.heap[g]? = some (.cells cur 41 (0, 0)) := by rw [hW3]; exact blk_alloc hh _
    have hbx : W3.heap[w1.heap.size]? = some (.cells #[.slice (some ⟨g, 0, none⟩) l0.length c1] 24 (0, 0)) := by rw [hW3]; exact blk_new _ _
    rw [← hW3] at hB1 ⊢
    clear hW3
    have hH : Sort.HoldsK cEnc 2 W3 g 0 l0.toArray := fun j hj => by
      rw [Sort.size_flatK, List.size_toArray] at hj
      rw [Nat.zero_add, blk_cell hh3, blk_frozen hh3, Sort.get_flatK _ _ _ _ (by simpa using hj)]
      refine ⟨?_, rfl⟩
      have hx := hc (j / 2) _ (arr_get l0 (j / 2) (by omega))
      have hj2 : j / 2 * 2 + j % 2 = j := by omega
      rcases Nat.mod_two_eq_zero_or_one j with h | h
      · rw [h] at hj2 ⊢; rw [← hj2]; simpa [cEnc] using hx.1
      · rw [h] at hj2 ⊢; conv => lhs; rw [← hj2]
        rw [hx.2]; rfl
    have hrow : ∀ m (dk : Array S41) os, dk.size = l0.length → ∀ t, t < l0.length → (sortWorldK cEnc 2 W3 g 0 m dk os).cell? ⟨g, t * 2, none⟩ = some (.int .i64 dk[t]!.f0) ∧ (sortWorldK cEnc 2 W3 g 0 m dk os).cell? ⟨g, t * 2 + 1, none⟩ = some (.int .i64 dk[t]!.f1) := fun m dk os hd t ht => by
      have hw := ESort.holds_world hH (show g < W3.heap.size by rw [hs3]; omega) m dk (by simpa using hd) os
      have c0 := (hw.cell (i := t) (c := 0) (by omega) (by omega)).1
      have c1 := (hw.cell (i := t) (c := 1) (by omega) (by omega)).1
      rw [Nat.zero_add] at c0 c1
      exact ⟨c0, c1⟩
    have hless : ESort.LessG Try.prog 80 #[.pointer (some ⟨w1.heap.size, 0, none⟩)] cEnc 2 cLt g 0 l0.toArray.size W3 := fun m os dk hs i j hi hj => by
      rw [List.size_toArray] at hs hi hj
      have hbc : (sortWorldK cEnc 2 W3 g 0 m dk os).cell? ⟨w1.heap.size, 0, none⟩ = some (.slice (some ⟨g, 0, none⟩) l0.length c1) := by
        rw [ESort.cell_world (by rw [hs3]; omega) (Nat.ne_of_gt hgl), blk_cell hbx]; rfl
      have hi' := hrow m dk os hs i hi
      have hj' := hrow m dk os hs j hj
      refine (less_grow g 0 c1 w1.heap.size l0.length _ dk[i]! dk[j]! hbc i j hi hj (by omega) (by rw [Nat.zero_add]; exact hi'.1) (by rw [Nat.zero_add]; exact hi'.2) (by rw [Nat.zero_add]; exact hj'.1) (by rw [Nat.zero_add]; exact hj'.2)).mono ?_
      rintro e w' ⟨rfl, n, os', rfl⟩
      exact ⟨rfl, m + n, os', world_drew ..⟩
    have hs := ESort.slice (P := Try.prog) Try.laysGg6 24 41 iSl iEl (by kernel_rfl) (by kernel_rfl) (by kernel_rfl) (by kernel_rfl) 25 (fun _ => by kernel_rfl) cEnc 2 (fun _ => rfl) (by kernel_rfl) (fun _ => by kernel_rfl)
      (fun x v hv => by simp [cEnc] at hv; rcases hv with rfl | rfl <;> rfl) cLt cLt_swo 80 #[.pointer (some ⟨w1.heap.size, 0, none⟩)]
      (enters_of Try.func80 (by kernel_rfl) rfl) g 0 c1 l0.toArray (by simpa using h2) (by simpa using h12) 96 (by rw [swap_no _ (by simpa using h2)]; kernel_rfl) false
      (fun args W => run_callFunc_extern Try.func96 (by kernel_rfl) (by kernel_rfl) (by kernel_rfl) (e := Extern.ReflectliteSwapper.swap false) (by kernel_rfl) args W) W3 hless hH (by omega)
    rw [List.size_toArray] at hs
    refine hs.mono ?_
    rintro e w' ⟨rfl, d', n, os, ⟨hp1, _, hp⟩, hso, rfl⟩
    replace hp1 : d'.size = l0.length := by simpa using hp1
    have hd' : d'.toList.length = l0.length := by simpa using hp1
    refine ⟨rfl, d'.toList, ⟨?_, ?_⟩, ?_, fun ad e _ => by cases e; exact hgl, ?_, ?_⟩
    · rw [Array.extract_eq_self_of_le (Nat.le_of_eq hp1), Array.extract_eq_self_of_le (by simp)] at hp
      simpa using hp
    · rw [List.pairwise_iff_getElem]
      intro i j hi hj hij
      have := hso i j (Nat.zero_le _) hij (by omega)
      rw [hd'] at hi hj
      rw [getElem!_pos d' i (by omega), getElem!_pos d' j (by omega)] at this
      simpa using this
    · refine C_of_cells (by omega) (fun _ => ⟨g, rfl, fun t x hx => ?_⟩)
      have ht : t < l0.length := by have := (List.getElem?_eq_some_iff.1 hx).1; omega
      have e := hrow n d' os hp1 t ht
      have ex : d'[t]! = x := by
        have hlt : t < d'.size := by rw [hp1]; exact ht
        rw [getElem!_pos d' t hlt]
        rw [List.getElem?_eq_getElem (by rw [hd']; exact ht)] at hx
        simpa using hx
      rwa [ex] at e
    · rw [heap_world (by rw [hs3]; omega) (Nat.ne_of_gt hgl)]; exact hbx
    · exact below_world hB1 hg (by omega)
  · have h1 : l0.length ≤ 1 := by omega
    have hS : Srt l0 l0 := ⟨List.Perm.refl _, by
      rcases l0 with _ | ⟨x, _ | ⟨y, l⟩⟩
      · exact List.Pairwise.nil
      · exact List.pairwise_singleton _ _
      · simp at h1⟩
    have fin : ∀ os, ∃ ys : List S41, Srt ys l0 ∧ Kd.C k41 (Sort.grow (w1.alloc (.cells #[.slice A1 l0.length c1] 24)) os) A1 ys.length ys ∧ (∀ ad, A1 = some ad → 0 < l0.length → ad.block < w1.heap.size) ∧ (Sort.grow (w1.alloc (.cells #[.slice A1 l0.length c1] 24)) os).heap[w1.heap.size]? = some (.cells #[.slice A1 l0.length c1] 24 (0, 0)) ∧ Below w.heap.size w (Sort.grow (w1.alloc (.cells #[.slice A1 l0.length c1] 24)) os) := fun os => by
      have hg : Below (w1.alloc (.cells #[.slice A1 l0.length c1] 24)).heap.size (w1.alloc (.cells #[.slice A1 l0.length c1] 24)) (Sort.grow (w1.alloc (.cells #[.slice A1 l0.length c1] 24)) os) :=
        ⟨rfl, rfl, rfl, by rw [Sort.size_grow]; omega, fun i hi => by unfold Sort.grow; exact Array.getElem?_append_left hi⟩
      refine ⟨l0, hS, ?_, ?_, blk_below (blk_new _ _) hg, below_step hB1 hg⟩
      · exact Kd.C_below (Kd.C_alloc (Kd.R_reads' HO).2.2 _) hg
      · intro ad e hn
        obtain ⟨g, cur, rfl, _, _, hh, _⟩ := own_form HO hn
        cases e
        exact blk_lt hh
    have key : ∀ n f, l0.length = n → (Try.prog.funcs.findIdx? (·.name == "internal/reflectlite" ++ ".Swapper$" ++ toString (Lib.swapperK n iEl 25)) = some f) → Calls Try.prog 79 #[.iface 24 (.slice A1 l0.length c1), .func (.func 80) #[] #[.pointer (some ⟨w1.heap.size, 0, none⟩)]] (w1.alloc (.cells #[.slice A1 l0.length c1] 24)) fun e w' => e = .returned (.tuple #[]) ∧ ∃ os, w' = Sort.grow (w1.alloc (.cells #[.slice A1 l0.length c1] 24)) os := fun n f hn hf =>
      Any.sort_Slice_tiny (P := Try.prog) Try.laysGg6 24 41 iSl iEl (by kernel_rfl) (by kernel_rfl) (by kernel_rfl) (by kernel_rfl) 25 (fun _ => by kernel_rfl) A1 l0.length c1 h1 f (by rw [hn]; exact hf) (.func 80) #[] _ _
    rcases (by omega : l0.length = 0 ∨ l0.length = 1) with h | h
    · refine (key 0 88 h (by kernel_rfl)).mono ?_
      rintro e w' ⟨rfl, os, rfl⟩
      exact ⟨rfl, fin os⟩
    · refine (key 1 89 h (by kernel_rfl)).mono ?_
      rintro e w' ⟨rfl, os, rfl⟩
      exact ⟨rfl, fin os⟩
/-- what has been put out after i rounds -/
def ddTo (ys : List S41) : Nat → List S41
  | 0 => []
  | i + 1 => if i = 0 ∨ (rd_T41 ys ((i : Int) - 1)).f0 ≠ (rd_T41 ys i).f0 ∨ (rd_T41 ys ((i : Int) - 1)).f1 ≠ (rd_T41 ys i).f1 then ddTo ys i ++ [rd_T41 ys i] else ddTo ys i
theorem ddTo_le (ys : List S41) : ∀ i, (ddTo ys i).length ≤ i
  | 0 => by simp [ddTo]
  | i + 1 => by
    have := ddTo_le ys i
    unfold ddTo
    split
    · rw [List.length_append]; simp; omega
    · omega
theorem ddTo_yes (ys : List S41) {i : Int} (h0 : 0 ≤ i) (h : i = 0 ∨ (rd_T41 ys (i - 1)).f0 ≠ (rd_T41 ys i).f0 ∨ (rd_T41 ys (i - 1)).f1 ≠ (rd_T41 ys i).f1) : ddTo ys (i + 1).toNat = ddTo ys i.toNat ++ [rd_T41 ys i] := by
  obtain ⟨n, rfl⟩ := Int.eq_ofNat_of_zero_le h0
  rw [show ((n : Int) + 1).toNat = n + 1 from by omega, Int.toNat_natCast, ddTo, if_pos (by simpa using h)]
theorem ddTo_no (ys : List S41) {i : Int} (h0 : 0 ≤ i) (h : ¬ (i = 0 ∨ (rd_T41 ys (i - 1)).f0 ≠ (rd_T41 ys i).f0 ∨ (rd_T41 ys (i - 1)).f1 ≠ (rd_T41 ys i).f1)) : ddTo ys (i + 1).toNat = ddTo ys i.toNat := by
  obtain ⟨n, rfl⟩ := Int.eq_ofNat_of_zero_le h0
  rw [show ((n : Int) + 1).toNat = n + 1 from by omega, Int.toNat_natCast, ddTo, if_neg (by simpa using h)]
theorem C_grown {w w1 : World} {A : Option Addr} {n : Nat} {xs : List S41} {row : Option Nat} (h : Kd.C k41 w A n xs) (hg : w.grownBy w1 row) (hne : ∀ ad, A = some ad → 0 < n → some ad.block ≠ row) : Kd.C k41 w1 A n xs := by
  refine ⟨h.1, h.2.1, fun hn => ?_⟩
  obtain ⟨ad, e, hc⟩ := h.2.2 hn
  refine ⟨ad, e, fun j p hj => ?_⟩
  obtain ⟨c, hs, hr, hcell⟩ := hc j p hj
  refine ⟨c, hs, by rw [k41_open hr]; exact k41_mk _ _, fun i u hu => ?_⟩
  have h1 := hcell i u hu
  have hb : (ad.add (j * k41.sz + i)).block = ad.block := by unfold Addr.add; split <;> rfl
  have hlt : ad.block < w.heap.size := by have := World.block_lt_of_cell? w _ h1; rwa [hb] at this
  rw [← h1]
  unfold World.cell?
  rw [hb, hg.block _ hlt (hne ad e hn)]
theorem rd_get (ys : List S41) (i : Nat) (h : i < ys.length) : rd_T41 ys i = ys[i] := by
  simp [rd_T41, h]
theorem ddTo_tells (ys : List S41) (hs : ys.Pairwise (fun a b => cLt b a = false)) : ∀ n, n ≤ ys.length →
    (ddTo ys n).Pairwise (fun a b => cLt a b = true) ∧ (∀ x, x ∈ ddTo ys n ↔ ∃ t : Nat, t < n ∧ rd_T41 ys t = x) ∧ (0 < n → ∀ x, x ∈ ddTo ys n → x = rd_T41 ys ((n : Int) - 1) ∨ cLt x (rd_T41 ys ((n : Int) - 1)) = true)
  | 0, _ => ⟨by simp [ddTo], fun x => by simp [ddTo], fun h => by omega⟩
  | n + 1, hn => by
    obtain ⟨h1, h2, h3⟩ := ddTo_tells ys hs n (by omega)
    have hlast : rd_T41 ys (((n + 1 : Nat) : Int) - 1) = rd_T41 ys n := by congr 1; omega
    rw [hlast]
    by_cases hc : n = 0 ∨ (rd_T41 ys ((n : Int) - 1)).f0 ≠ (rd_T41 ys n).f0 ∨ (rd_T41 ys ((n : Int) - 1)).f1 ≠ (rd_T41 ys n).f1
    · rw [ddTo, if_pos hc]
      have hlt : ∀ x, x ∈ ddTo ys n → cLt x (rd_T41 ys n) = true := fun x hx => by
        have h0 : n ≠ 0 := by rintro rfl; simp [ddTo] at hx
        have e1 : rd_T41 ys ((n : Int) - 1) = ys[n - 1] := by rw [← rd_get ys (n - 1) (by omega)]; congr 1; omega
        have e2 : rd_T41 ys n = ys[n] := rd_get ys n (by omega)
        have hle : cLt (rd_T41 ys n) (rd_T41 ys ((n : Int) - 1)) = false := by
          rw [e1, e2]; exact List.pairwise_iff_getElem.1 hs (n - 1) n (by omega) (by omega) (by omega)
        have hl : cLt (rd_T41 ys ((n : Int) - 1)) (rd_T41 ys n) = true := by
          cases hb : cLt (rd_T41 ys ((n : Int) - 1)) (rd_T41 ys n) with
          | true => rfl
          | false => have e := cLt_tri _ _ hb hle; rw [e] at hc; simp [h0] at hc
        rcases h3 (by omega) x hx with e | e
        · rw [e]; exact hl
        · exact cLt_swo.trans _ _ _ e hl
      refine ⟨?_, fun x => ?_, fun _ x hx => ?_⟩
      · rw [List.pairwise_append]
        exact ⟨h1, List.pairwise_singleton _ _, fun a ha b hb => by rw [List.mem_singleton.1 hb]; exact hlt a ha⟩
      · rw [List.mem_append, List.mem_singleton, h2]
        constructor
        · rintro (⟨t, ht, e⟩ | e)
          · exact ⟨t, by omega, e⟩
          · exact ⟨n, by omega, e.symm⟩
        · rintro ⟨t, ht, e⟩
          by_cases h : t = n
          · subst h; exact Or.inr e.symm
          · exact Or.inl ⟨t, by omega, e⟩
      · rcases List.mem_append.1 hx with h | h
        · exact Or.inr (hlt x h)
        · exact Or.inl (List.mem_singleton.1 h)
    · rw [ddTo, if_neg hc]
      have h0 : n ≠ 0 := fun e => hc (Or.inl e)
      have e : rd_T41 ys ((n : Int) - 1) = rd_T41 ys n := by
        generalize rd_T41 ys ((n : Int) - 1) = a at hc ⊢
        generalize rd_T41 ys n = b at hc ⊢
        obtain ⟨a0, a1⟩ := a
        obtain ⟨b0, b1⟩ := b
        simp only [S41.mk.injEq]
        simp only [] at hc
        omega
      refine ⟨h1, fun x => ?_, fun _ x hx => by rw [← e]; exact h3 (by omega) x hx⟩
      rw [h2]
      constructor
      · rintro ⟨t, ht, e⟩
        exact ⟨t, by omega, e⟩
      · rintro ⟨t, ht, e'⟩
        by_cases h : t = n
        · subst h
          exact ⟨t - 1, by omega, by rw [← e', ← e]; congr 1; omega⟩
        · exact ⟨t, by omega, e'⟩
theorem ddTo_sortB (ys l : List S41) (h : Srt ys l) : ddTo ys ys.length = ESort.sortB cLt l := by
  obtain ⟨h1, h2, _⟩ := ddTo_tells ys h.2 ys.length (Nat.le_refl _)
  refine ESort.strict_ext cLt_swo.irrefl cLt_swo.trans _ _ h1 (ESort.strict_sortB cLt_swo.trans cLt_tri l) fun x => ?_
  rw [h2, ESort.mem_sortB cLt_tri, ← h.1.mem_iff]
  constructor
  · rintro ⟨t, ht, rfl⟩
    rw [rd_get ys t ht]; exact List.getElem_mem _
  · intro hx
    obtain ⟨t, ht, e⟩ := List.getElem_of_mem hx
    exact ⟨t, ht, by rw [rd_get ys t ht]; exact e⟩
set_option maxHeartbeats 4000000 in
set_option maxRecDepth 100000 in
theorem SortCells_calls (A0 : Option Addr) (c0 : Nat) (l0 : List S41) (w : World) (hr0 : Kd.C k41 w A0 l0.length l0) (_hc : l0.length ≤ c0) (h12 : l0.length ≤ 12) :
    Calls Try.prog 70 #[.slice A0 l0.length c0] w fun e w' => ∃ v0_ : Value, e = .returned (v0_) ∧ (∃ ys, Srt ys l0 ∧ Kd.R k41 41 w' w.heap.size (fun _ => True) v0_ (ddTo ys ys.length)) ∧ Below w.heap.size w w' := by
  have hu41 := Try.underlying41
  have HR0 := Aside0.mk hr0
  have H12 := Aside0.mk h12
  clear hr0 h12
  have HB := Aside0.mk (Below.refl w.heap.size w)
  go_enter Try.func70, Try.ntmps70
  go_wp2_with (first
    | ((with_reducible refine gate_builtin (b := .append) (xs := #[.const (.slice none 0 0), .tmp 7]) rfl ?_); at_builtin; refine Kd.R_append_rows k41 (w0 := w) w.heap.size rfl (.const (.slice none 0 0)) (.tmp 7) 24 41 (.agg #[(.int .i64 0), (.int .i64 0)]) 16 rfl Try.underlying24 info41 rfl (by decide) (by omega) (.slice none 0 0) [] l0 A0 l0.length c0 (fun _ => True) (fun _ => False) rfl rfl (Kd.R_nil _ _ _ _ _) HR0.out (fun _ _ h => h) (fun _ h => h.elim) (fun _ _ => trivial) HB.out (Nat.le_refl _) (by have := H12.out; simp; omega) ?_; intro v1 w1 ho hb hg hat; rw [List.nil_append] at ho; have HO := Aside0.mk ho; clear HB; have HB := Aside0.mk hb; clear ho hb hg hat; obtain ⟨A1, c1, rfl⟩ := Kd.R_slice HO.out))
  refine (sort_call w w1 A1 c1 l0 HO.out HB.out H12.out).mono ?_
  rintro e w2 ⟨rfl, ys, hS, hC, hlt, hbox, hb⟩
  have hlen := hS.1.length_eq
  have HS := Aside0.mk hS
  have HC := Aside0.mk hC
  have HLT := Aside0.mk hlt
  have BK := Aside0.mk hbox
  have HL := Aside0.mk hlen
  clear HB
  have HB := Aside0.mk hb
  have hcb := (blk_cell BK.out 0).trans rfl
  clear hS hC hlt hbox hb HO hlen
  obtain ⟨B, hB⟩ : ∃ B, B = w1.heap.size := ⟨_, rfl⟩
  rw [← hB] at BK HLT hcb ⊢
  clear hB
  go_wp2
  go_loopw [4, 15] (fun v4 v15 wr => ∃ i : Int, v15 = .int .i64 i ∧ 0 ≤ i ∧ i ≤ l0.length ∧ Aside0 (Kd.R k41 41 wr w.heap.size (fun k_ => ∀ ad, A1 = some ad → 0 < l0.length → k_ ≠ ad.block) v4 (ddTo ys i.toNat)) ∧ Aside0 (Kd.C k41 wr A1 ys.length ys) ∧ Aside0 (wr.heap[B]? = some (.cells #[.slice A1 l0.length c1] 24 (0, 0))) ∧ Aside0 (Below w.heap.size w wr)) (fun _ v15 _ => l0.length - (intOf v15).toNat)
  case atStart => exact ⟨0, rfl, by omega, by omega, ⟨Kd.R_nil _ _ _ _ _⟩, HC, BK, HB⟩
  case round =>
    clear HC BK HB hcb
    obtain ⟨i, rfl, hi0, hin, HO4, HC, BK, HB⟩ := hrel
    have hcb := (blk_cell BK.out 0).trans rfl
    have h12 : (l0.length : Int) ≤ 12 := by have := H12.out; omega
    by_cases hlt : i < (l0.length : Int)
    · obtain ⟨ad, e, hx0, hx1⟩ := at_T41 HC.out i hi0 (by rw [HL.out]; exact hlt)
      cases e
      go_wp2_with (first
        | ((with_reducible refine gate_dst (N := 6) rfl ?_); refine box_event ?hg (N := 6) ?hd (cs := #[.int .i64 0, .int .i64 0]) (t := 41) ?hr ?_; (case hd => rfl); (case hg => rfl); (case hr => first | (go_simp; done) | (go_simp; rfl)); intro gb hg w3 hbox hb; have hgb := blk_lt BK.out; rw [← hg] at hgb; have hcz0 : w3.cell? ⟨gb, 0, none⟩ = some (.int .i64 0) := (blk_cell hbox 0).trans rfl; have hcz1 : w3.cell? ⟨gb, 1, none⟩ = some (.int .i64 0) := (blk_cell hbox 1).trans rfl; have hfz0 := blk_frozen hbox 0; have hfz1 := blk_frozen hbox 1; have BC := Aside0.mk hbox; have HW := Aside0.mk hb; have HG := Aside0.mk hg; clear hbox hb hg))
      have hadl : ad.block < B := HLT.out ad rfl (by omega)
      obtain ⟨W4, hW4⟩ : ∃ W4, W4 = (w3.setCell ⟨gb, 0, none⟩ (.int .i64 (rd_T41 ys i).f0)).setCell ⟨gb, 1, none⟩ (.int .i64 (rd_T41 ys i).f1) := ⟨_, rfl⟩
      have hgw : w.heap.size ≤ gb := by rw [HG.out]; exact HB.out.size
      have HB4 := Aside0.mk (show Below w.heap.size w W4 by rw [hW4]; exact below_set (below_set (below_step HB.out HW.out) hgw) hgw)
      have HW4 : Below wr.heap.size wr W4 := by rw [hW4]; exact below_set (below_set HW.out (Nat.le_of_eq HG.out.symm)) (Nat.le_of_eq HG.out.symm)
      have HC4 := Aside0.mk (Kd.C_below HC.out HW4)
      have BK4 := Aside0.mk (blk_below BK.out HW4)
      have HO44 := Aside0.mk (Kd.R_below HO4.out HW4)
      have BC4 := Aside0.mk (show W4.heap[gb]? = some (.cells #[.int .i64 (rd_T41 ys i).f0, .int .i64 (rd_T41 ys i).f1] 41 (0, 0)) by rw [hW4]; refine blk_put (cs := #[.int .i64 (rd_T41 ys i).f0, .int .i64 0]) ?_ 1 _ rfl; exact blk_put BC.out 0 _ rfl)
      have HW4' := Aside0.mk HW4
      have hs4 : gb < W4.heap.size := blk_lt BC4.out
      rw [← hW4]
      clear hW4 HW4 hcz0 hcz1 hfz0 hfz1 BC HW hx0 hx1 HB HC BK HO4 hcb
      obtain ⟨ad0, e0, hx0, hx1⟩ := at_T41 HC4.out i hi0 (by rw [HL.out]; exact hlt)
      obtain rfl : ad = ad0 := by injection e0
      clear e0
      have hcb := (blk_cell BK4.out 0).trans rfl
      have hc0 := (blk_cell BC4.out 0).trans rfl
      have hc1 := (blk_cell BC4.out 1).trans rfl
      by_cases hz : i = 0
      · have hz1 : (i == 0) = true := by simpa using hz
        have HZ := Aside0.mk hz
        clear hz
        go_quiet (fail)
        go_wp2_with (first
          | ((with_reducible refine gate_builtin (b := .append) (xs := #[.tmp 31, .tmp 33]) rfl ?_); at_builtin; refine Kd.R_append k41 (w0 := w) w.heap.size rfl (.tmp 31) (.tmp 33) 24 41 (.agg #[(.int .i64 0), (.int .i64 0)]) 16 rfl Try.underlying24 info41 rfl (by decide) (by omega) u4 (ddTo ys i.toNat) (⟨(rd_T41 ys i).f0, (rd_T41 ys i).f1⟩ : S41) [.int .i64 (rd_T41 ys i).f0, .int .i64 (rd_T41 ys i).f1] (fun k_ => ∀ ad_1, some ad = some ad_1 → 0 < l0.length → k_ ≠ ad_1.block) (fun _ => False) rfl (by first | (go_simp; done) | (go_simp; rfl)) (k41_mkM _ _ _ (⟨(rd_T41 ys i).f0, (rd_T41 ys i).f1⟩ : S41)) (fun _ hk => hk.elim) ?aF ?aO ?aB ?aS ?aL ?_; (case aF => intro k_ hk ad1 e1 _; cases e1; have hk' : W4.heap.size ≤ k_ := hk; omega); (case aO => exact Kd.R_drewN HO44.out _); (case aB => exact pw_below_drewN HB4.out _); (case aS => exact HB4.out.size); (case aL => have := ddTo_le ys i.toNat; have := H12.out; omega); intro v5 w5 ho hb hg hat; have HO5 := Aside0.mk ho; have HB5 := Aside0.mk hb; have HC5 := Aside0.mk (C_grown (Kd.C_drewN HC4.out _) hg (fun ad1 e1 hn he => HO44.out.1 _ he.symm ad1 e1 (by rw [← HL.out]; exact hn) rfl)); have hb4 := blk_drewN BK4.out nq; have hne4 := Kd.R_ne (Kd.R_drewN HO44.out nq) hb4 (by decide); have BK5 := Aside0.mk (blk_grown hb4 hg hne4); clear hb4 hne4; clear ho hb hg hat))
        go_roundw
        case rel => exact ⟨i + 1, rfl, by omega, by omega, ⟨by rw [ddTo_yes ys hi0 (Or.inl HZ.out)]; exact HO5.out⟩, HC5, BK5, HB5⟩
        case measure => simp [intOf]; omega
      · have hz1 : (i == 0) = false := by simpa using hz
        have hi1 : 1 ≤ i := by omega
        clear hz
        obtain ⟨j, hj⟩ : ∃ j, i - 1 = j := ⟨_, rfl⟩
        have hj0 : 0 ≤ j := by omega
        have hjn : j < (l0.length : Int) := by omega
        obtain ⟨ad0, e0, hy0, hy1⟩ := at_T41 HC4.out j hj0 (by rw [HL.out]; omega)
        obtain rfl : ad = ad0 := by injection e0
        clear e0
        go_quiet (fail)
        by_cases hne : (rd_T41 ys j).f0 = (rd_T41 ys i).f0 ∧ (rd_T41 ys j).f1 = (rd_T41 ys i).f1
        · have hb : (!((rd_T41 ys j).f0 == (rd_T41 ys i).f0) || (!((rd_T41 ys j).f1 == (rd_T41 ys i).f1))) = false := by simp [hne.1, hne.2]
          have HN := Aside0.mk hne
          rw [hb]
          clear hne hb
          go_wp2
          go_roundw
          case rel => exact ⟨i + 1, rfl, by omega, by omega, ⟨by rw [ddTo_no ys hi0 (by rw [hj]; have := HN.out; omega)]; exact Kd.R_drewN HO44.out _⟩, ⟨Kd.C_drewN HC4.out _⟩, ⟨blk_drewN BK4.out _⟩, ⟨pw_below_drewN HB4.out _⟩⟩
          case measure => simp [intOf]; omega
        · have hb : (!((rd_T41 ys j).f0 == (rd_T41 ys i).f0) || (!((rd_T41 ys j).f1 == (rd_T41 ys i).f1))) = true := by
            simp only [Bool.or_eq_true, Bool.not_eq_true', beq_eq_false_iff_ne]; omega
          have HN := Aside0.mk hne
          rw [hb]
          clear hne hb
          go_wp2_with (first
            | ((with_reducible refine gate_builtin (b := .append) (xs := #[.tmp 31, .tmp 33]) rfl ?_); at_builtin; refine Kd.R_append k41 (w0 := w) w.heap.size rfl (.tmp 31) (.tmp 33) 24 41 (.agg #[(.int .i64 0), (.int .i64 0)]) 16 rfl Try.underlying24 info41 rfl (by decide) (by omega) u4 (ddTo ys i.toNat) (⟨(rd_T41 ys i).f0, (rd_T41 ys i).f1⟩ : S41) [.int .i64 (rd_T41 ys i).f0, .int .i64 (rd_T41 ys i).f1] (fun k_ => ∀ ad_1, some ad = some ad_1 → 0 < l0.length → k_ ≠ ad_1.block) (fun _ => False) rfl (by first | (go_simp; done) | (go_simp; rfl)) (k41_mkM _ _ _ (⟨(rd_T41 ys i).f0, (rd_T41 ys i).f1⟩ : S41)) (fun _ hk => hk.elim) ?aF ?aO ?aB ?aS ?aL ?_; (case aF => intro k_ hk ad1 e1 _; cases e1; have hk' : W4.heap.size ≤ k_ := hk; omega); (case aO => exact Kd.R_drewN HO44.out _); (case aB => exact pw_below_drewN HB4.out _); (case aS => exact HB4.out.size); (case aL => have := ddTo_le ys i.toNat; have := H12.out; omega); intro v5 w5 ho hb hg hat; have HO5 := Aside0.mk ho; have HB5 := Aside0.mk hb; have HC5 := Aside0.mk (C_grown (Kd.C_drewN HC4.out _) hg (fun ad1 e1 hn he => HO44.out.1 _ he.symm ad1 e1 (by rw [← HL.out]; exact hn) rfl)); have hb4 := blk_drewN BK4.out nq; have hne4 := Kd.R_ne (Kd.R_drewN HO44.out nq) hb4 (by decide); have BK5 := Aside0.mk (blk_grown hb4 hg hne4); clear hb4 hne4; clear ho hb hg hat))
          go_roundw
          case rel => exact ⟨i + 1, rfl, by omega, by omega, ⟨by rw [ddTo_yes ys hi0 (by rw [hj]; have := HN.out; omega)]; exact HO5.out⟩, HC5, BK5, HB5⟩
          case measure => simp [intOf]; omega
    · go_wp2
      go_ret
      exact ⟨_, rfl, ⟨ys, HS.out, by rw [HL.out, show l0.length = i.toNat by omega]; exact Kd.R_mono HO4.out (fun _ _ => trivial)⟩, HB.out⟩
def impl_SortCells.f (l0 : List (S41)) : Option ((List (S41))) := if l0.length ≤ 12 then some (ESort.sortB cLt l0) else none
theorem impl_SortCells.calls (A0 : Option Addr) (c0 : Nat) (l0 : List (S41)) (r : List (S41)) (w : World) (hr0 : Kd.C k41 w A0 l0.length l0) (hc0 : l0.length ≤ c0) (h : impl_SortCells.f l0 = some r) :
    Calls Try.prog 70 #[.slice A0 l0.length c0] w fun e w' => ∃ v0_ : Value, e = .returned (v0_) ∧ Kd.R k41 41 w' w.heap.size (fun _ => True) v0_ r ∧ Below w.heap.size w w' := by
  unfold impl_SortCells.f at h
  by_cases h12 : l0.length ≤ 12
  · rw [if_pos h12] at h
    obtain rfl := Option.some.inj h
    refine (SortCells_calls A0 c0 l0 w hr0 hc0 h12).mono ?_
    rintro e w' ⟨v, he, ⟨ys, hs, hv⟩, hb⟩
    exact ⟨v, he, by rw [← ddTo_sortB ys l0 hs]; exact hv, hb⟩
  · rw [if_neg h12] at h
    exact absurd h (by simp)
def impl_moved.l0 : Nat → Int → Int → List (S41) → List (S41) → Int → Int → Option ((List (S41)))
  | 0, _, _, _, _, _, _ => none
  | k + 1, x1, x2, x7, x10, x11, x12 => if x12 < x11 then (if 0 ≤ x12 then (if x12 < (x10.length : Int) then (if x7.length < 8796093022208 then (impl_moved.l0 k x1 x2 (x7 ++ [(⟨wrap64 (((rd_T41 x10 x12).f0) + x1), wrap64 (((rd_T41 x10 x12).f1) + x2)⟩ : S41)]) x10 x11 (wrap64 (x12 + 1))) else (none)) else (none)) else (none)) else (some x7)
def impl_moved.f (k : Nat) (l0 : List (S41)) (a1 : Int) (a2 : Int) : Option ((List (S41))) := impl_moved.l0 k a1 a2 ([] : List (S41)) l0 (l0.length : Int) 0
theorem impl_moved.mono_l : ∀ k, (∀ y0 y1 y2 y3 y4 y5, LeO (impl_moved.l0 k y0 y1 y2 y3 y4 y5) (impl_moved.l0 (k + 1) y0 y1 y2 y3 y4 y5))
  | 0 => fun _ _ _ _ _ _ r h => by simp [impl_moved.l0] at h
  | k + 1 => by
    have ih0 := impl_moved.mono_l k
    · intro y0 y1 y2 y3 y4 y5
      unfold impl_moved.l0
      repeat' first
      | (with_reducible exact ih0 _ _ _ _ _ _)
      | (with_reducible exact LeO.refl _)
      | (with_reducible exact LeO.none _)
      | (with_reducible refine LeO.ite ?_ ?_)
      | (with_reducible refine LeO.bind ?_ (fun _ => ?_))
      | exact ih0 _ _ _ _ _ _
      | exact LeO.none _
      | refine LeO.ite ?_ ?_
      | refine LeO.bind ?_ (fun _ => ?_)
theorem impl_moved.mono : ∀ a0 a1 a2 k, LeO (impl_moved.f k a0 a1 a2) (impl_moved.f (k + 1) a0 a1 a2) := by
  intro a0 a1 a2 k
  have ih0 := impl_moved.mono_l k
  unfold impl_moved.f
  repeat' first
      | (with_reducible exact ih0 _ _ _ _ _ _)
      | (with_reducible exact LeO.refl _)
      | (with_reducible exact LeO.none _)
      | (with_reducible refine LeO.ite ?_ ?_)
      | (with_reducible refine LeO.bind ?_ (fun _ => ?_))
      | exact ih0 _ _ _ _ _ _
      | exact LeO.none _
      | refine LeO.ite ?_ ?_
      | refine LeO.bind ?_ (fun _ => ?_)
set_option maxHeartbeats 8000000 in
set_option maxRecDepth 100000 in
theorem impl_moved.calls (k : Nat) (A0 : Option Addr) (c0 : Nat) (l0 : List (S41)) (a1 : Int) (a2 : Int) (r : List (S41)) (w : World) (hr0 : Kd.C k41 w A0 l0.length l0) (hc0 : l0.length ≤ c0) (h : impl_moved.f k l0 a1 a2 = some r) :
    Calls Try.prog 71 #[.slice A0 l0.length c0, .int .i64 a1, .int .i64 a2] w fun e w' => ∃ v0_ : Value, e = .returned (v0_) ∧ Kd.R k41 41 w' w.heap.size (fun _ => True) v0_ r ∧ Below w.heap.size w w' := by
  have hu41 := Try.underlying41
  have HR0 := Aside0.mk hr0
  have HC0 := Aside0.mk hc0
  clear hr0 hc0
  have HB := Aside0.mk (Below.refl w.heap.size w)
  have H : (impl_moved.l0 k a1 a2 ([] : List (S41)) l0 (l0.length : Int) 0) = some r := h
  clear h
  have H' := Aside0.mk H
  clear H
  go_enter Try.func71, Try.ntmps71
  go_wp2
  go_loopg [7, 12] k (fun kq v7 v12 w' => ∃ (x7_1 : List (S41)) (x12_1 : Int), v12 = .int .i64 x12_1 ∧ Aside0 (impl_moved.l0 kq a1 a2 x7_1 l0 (l0.length : Int) x12_1 = some r) ∧ Aside0 (kq ≤ k) ∧ Aside0 (Kd.R k41 41 w' w.heap.size (fun _ => True) v7 x7_1) ∧ Aside0 (Below w.heap.size w w'))
  case atStart => exact ⟨(([] : List (S41))), (0), (by first | rfl | (simp; done) | (simp [*]; done)), H', ⟨Nat.le_refl _⟩, ⟨by first | exact Kd.R_nil _ _ _ _ _ | exact Kd.N_nil _ _ _ _ _ | exact Kd.V_nil _ _ _ _ _ | exact Kd.Q_nil _ _ _ _ _ | exact Kd.S_nil _ _ _ _ _⟩, ⟨by repeat (first | (with_reducible first | exact HB.out | apply below_alloc | apply pw_below_drewN | apply below_drew1) | exact HB.out)⟩⟩
  case round =>
    clear H'
    try clear p2
    obtain ⟨x7_1, x12_1, rfl, HA, HK1, HO_7, HB⟩ := hrel
    cases gk with
    | zero => exact absurd HA.out (by simp [impl_moved.l0])
    | succ k1 =>
      have H := HA.out
      clear HA
      simp only [impl_moved.l0] at H
      by_cases c4 : x12_1 < (l0.length : Int)
      · rw [if_pos c4] at H
        have c4b0 : decide (x12_1 < (l0.length : Int)) = true := decide_eq_true c4
        clear c4
        by_cases c5 : 0 ≤ x12_1
        · rw [if_pos c5] at H
          have c5b0 : decide (0 ≤ x12_1) = true := decide_eq_true c5
          clear c5
          by_cases c6 : x12_1 < (l0.length : Int)
          · rw [if_pos c6] at H
            have c6b0 : decide (x12_1 < (l0.length : Int)) = true := decide_eq_true c6
            clear c6
            by_cases c7 : x7_1.length < 8796093022208
            · rw [if_pos c7] at H
              have LMc7 := Aside0.mk c7
              clear c7
              obtain ⟨y392, hy392⟩ : ∃ y_ : List (S41), y_ = (x7_1 ++ [(⟨wrap64 (((rd_T41 l0 x12_1).f0) + a1), wrap64 (((rd_T41 l0 x12_1).f1) + a2)⟩ : S41)]) := ⟨_, rfl⟩
              replace H : (impl_moved.l0 k1 a1 a2 y392 l0 (l0.length : Int) (wrap64 (x12_1 + 1))) = some r := by first | (rw [hy392]; with_reducible exact H) | (have H2_ := (Option.bind_some _ _).symm.trans H; rw [hy392]; with_reducible exact H2_) | (have H2_ := (Option.bind_some _ _).symm.trans H; with_reducible exact H2_) | with_reducible exact H | (rw [hy392]; exact H) | exact H
              have Ny392 := Aside0.mk hy392
              clear hy392
              have H' := Aside0.mk H
              clear H
              have p390 : 0 ≤ (x12_1 : Int) := of_decide_eq_true (by first | (with_reducible assumption) | assumption)
              have q390 : x12_1 < (l0.length : Int) := of_decide_eq_true (by first | (with_reducible assumption) | assumption)
              obtain ⟨ad390, e390, hx390_0, hx390_1⟩ := at_T41 HR0.out x12_1 p390 q390
              cases e390
              replace hx390_0 := (HB.out.cell (World.block_lt_of_cell? w _ hx390_0)).trans hx390_0
              replace hx390_1 := (HB.out.cell (World.block_lt_of_cell? w _ hx390_1)).trans hx390_1
              replace p390 := eq_true p390
              replace q390 := eq_true q390
              go_wp2_with (first | ((with_reducible refine gate_dst (N := 9) rfl ?_); refine box_event ?hg (N := 9) ?hd (cs := #[.int .i64 0, .int .i64 0]) (t := 41) ?hr ?_; (case hd => rfl); (case hg => rfl); (case hr => first | (go_simp; done) | (go_simp; rfl)); intro gb391 hg w8 hbox hb; have n0_ := Aside0.mk (Kd.R_below (Kd.R_elderB (by (with_reducible repeat (first | apply Kd.R_alloc | apply Kd.R_drewN | apply Kd.R_drew)); exact HO_7.out) gb391 (Nat.le_of_eq hg.symm)) hb); have n1_ := Aside0.mk (below_step (by repeat (first | (with_reducible first | exact HB.out | apply below_alloc | apply pw_below_drewN | apply below_drew1) | exact HB.out)) hb); have n2_ := Aside0.mk (hbox); have n3_ := Aside0.mk ((by rw [hg]; exact (below_size (by repeat (first | (with_reducible first | exact HB.out | apply below_alloc | apply pw_below_drewN | apply below_drew1) | exact HB.out))) : w.heap.size ≤ gb391)); have n4_ := Aside0.mk ((by rw [hg]; exact (below_size (by repeat (first | (with_reducible first | exact HB.out | apply below_alloc | apply pw_below_drewN | apply below_drew1) | exact HB.out))) : w.heap.size ≤ gb391)); clear HO_7; clear HB; have HO_7 := n0_; have HB := n1_; have BK391 := n2_; have GW391 := n3_; have GE391 := n4_; clear n0_ n1_ n2_ n3_ n4_; clear hb hbox hg; have hcz9_0 : w8.cell? ⟨gb391, 0, none⟩ = some (.int .i64 0) := (blk_cell BK391.out 0).trans rfl; have hcz9_1 : w8.cell? ⟨gb391, 1, none⟩ = some (.int .i64 0) := (blk_cell BK391.out 1).trans rfl; have hfz9_0 := blk_frozen BK391.out 0; have hfz9_1 := blk_frozen BK391.out 1) | ((with_reducible refine gate_builtin (b := .append) (xs := #[.tmp 16, .tmp 26]) rfl ?_); at_builtin; refine Kd.R_append k41 (w0 := w) w.heap.size rfl (.tmp 16) (.tmp 26) 24 41 (.agg #[(.int .i64 0), (.int .i64 0)]) 16 rfl Try.underlying24 info41 rfl (by decide) (by omega) u7 x7_1 (⟨wrap64 (((rd_T41 l0 x12_1).f0) + a1), wrap64 (((rd_T41 l0 x12_1).f1) + a2)⟩ : S41) [.int .i64 (wrap64 (((rd_T41 l0 x12_1).f0) + a1)), .int .i64 (wrap64 (((rd_T41 l0 x12_1).f1) + a2))] (fun k_ => k_ ≠ gb391) (fun _ => False) rfl (by first | (go_simp; done) | (go_simp; rfl)) ?aP (fun _ hk => hk.elim) ?aF ?aO ?aB ?aS ?aL ?_; (case aP => exact k41_mkM _ _ _ (⟨wrap64 (((rd_T41 l0 x12_1).f0) + a1), wrap64 (((rd_T41 l0 x12_1).f1) + a2)⟩ : S41)); (case aB => exact (by repeat (first | (with_reducible first | exact HB.out | apply below_alloc | apply pw_below_drewN | apply below_drew1 | refine below_set ?_ GE391.out) | exact HB.out))); (case aF => exact (fun k_ hk => Kd.freshB (g := gb391) (o := .cells #[.int .i64 ((rd_T41 l0 x12_1).f0), .int .i64 ((rd_T41 l0 x12_1).f1)] 41 (0, 0)) (by (with_reducible repeat (first | refine blk_drewN ?_ _ | refine blk_drew ?_ | refine blk_alloc ?_ _)); refine blk_put (cs := #[.int .i64 ((rd_T41 l0 x12_1).f0), .int .i64 0]) ?_ 1 _ rfl; (with_reducible repeat (first | refine blk_drewN ?_ _ | refine blk_drew ?_ | refine blk_alloc ?_ _)); refine blk_put (cs := #[.int .i64 0, .int .i64 0]) ?_ 0 _ rfl; (with_reducible repeat (first | refine blk_drewN ?_ _ | refine blk_drew ?_ | refine blk_alloc ?_ _)); exact BK391.out) k_ hk)); (case aO => exact (by (with_reducible repeat (first | apply Kd.R_alloc | apply Kd.R_drewN | apply Kd.R_drew)); exact Kd.R_mono (Kd.R_far (p := ⟨gb391, 1, none⟩) (Kd.R_far (p := ⟨gb391, 0, none⟩) (Kd.R_mono HO_7.out (fun k_ hk => (⟨hk, hk.2⟩ : _ ∧ k_ ≠ gb391))) (fun _ hk => hk.2) (.int .i64 ((rd_T41 l0 x12_1).f0))) (fun _ hk => hk.2) (.int .i64 ((rd_T41 l0 x12_1).f1))) (fun _ hk => hk.1.2))); (case aS => exact (below_size (by repeat (first | (with_reducible first | exact HB.out | apply below_alloc | apply pw_below_drewN | apply below_drew1 | refine below_set ?_ GE391.out) | exact HB.out)))); (case aL => have := LMc7.out; omega); intro v393 w10 ho hb hg hat; rw [← Ny392.out] at ho; have n0_ := Aside0.mk (blk_grown (g := gb391) (o := .cells #[.int .i64 ((rd_T41 l0 x12_1).f0), .int .i64 ((rd_T41 l0 x12_1).f1)] 41 (0, 0)) (by (with_reducible repeat (first | refine blk_drewN ?_ _ | refine blk_drew ?_ | refine blk_alloc ?_ _)); refine blk_put (cs := #[.int .i64 ((rd_T41 l0 x12_1).f0), .int .i64 0]) ?_ 1 _ rfl; (with_reducible repeat (first | refine blk_drewN ?_ _ | refine blk_drew ?_ | refine blk_alloc ?_ _)); refine blk_put (cs := #[.int .i64 0, .int .i64 0]) ?_ 0 _ rfl; (with_reducible repeat (first | refine blk_drewN ?_ _ | refine blk_drew ?_ | refine blk_alloc ?_ _)); exact BK391.out) hg (Kd.R_away HO_7.out (fun _ hk => hk.2))); have n1_ := Aside0.mk (hb); have n2_ := Aside0.mk (ho); clear BK391; clear HB; clear HO_7; have BK391 := n0_; have HB := n1_; have HO394 := n2_; clear n0_ n1_ n2_; clear ho hb hg hat))
              go_roundg k1
              case measure => have := HK1.out; omega
              case rel => exact ⟨(y392), (wrap64 (x12_1 + 1)), (by first | rfl | (simp; done) | (simp [*]; done)), H', ⟨by have := HK1.out; omega⟩, ⟨by (with_reducible repeat (first | apply Kd.R_alloc | apply Kd.R_drewN | apply Kd.R_drew)); exact Kd.R_mono HO394.out (fun _ hk => trivial)⟩, ⟨by repeat (first | (with_reducible first | exact HB.out | apply below_alloc | apply pw_below_drewN | apply below_drew1 | refine below_set ?_ GE391.out) | exact HB.out)⟩⟩
            · rw [if_neg c7] at H
              exact absurd H (by simp)
          · rw [if_neg c6] at H
            exact absurd H (by simp)
        · rw [if_neg c5] at H
          exact absurd H (by simp)
      · rw [if_neg c4] at H
        have c4b0 : decide (x12_1 < (l0.length : Int)) = false := decide_eq_false c4
        clear c4
        obtain rfl := Option.some.inj H
        go_wp2
        go_ret
        exact ⟨_, by first | rfl | (simp [errW_none, errW_some] <;> rfl) | (simp [*, errW_none, errW_some] <;> rfl), by (with_reducible repeat (first | apply Kd.R_alloc | apply Kd.R_drewN | apply Kd.R_drew)); exact HO_7.out, by repeat (first | (with_reducible first | exact HB.out | apply below_alloc | apply pw_below_drewN | apply below_drew1) | exact HB.out)⟩
def impl_corner.l0 : Nat → List (S41) → Int → Int → List (S41) → Int → Int → Option ((List (S41)))
  | 0, _, _, _, _, _, _ => none
  | k + 1, x0, x3, x4, x15, x16, x17 => if x17 < x16 then (if 0 ≤ x17 then (if x17 < (x15.length : Int) then (impl_corner.l0 k x0 (mn x3 ((rd_T41 x15 x17).f0)) (mn x4 ((rd_T41 x15 x17).f1)) x15 x16 (wrap64 (x17 + 1))) else (none)) else (none)) else ((impl_moved.f k x0 (wrap64 (-x3)) (wrap64 (-x4))).bind fun t399 => ((impl_SortCells.f t399).bind fun t402 => (some t402)))
def impl_corner.f (k : Nat) (l0 : List (S41)) : Option ((List (S41))) := if 0 < (l0.length : Int) then (impl_corner.l0 k l0 ((rd_T41 l0 0).f0) ((rd_T41 l0 0).f1) l0 (l0.length : Int) 0) else (none)
theorem impl_corner.mono_l : ∀ k, (∀ y0 y1 y2 y3 y4 y5, LeO (impl_corner.l0 k y0 y1 y2 y3 y4 y5) (impl_corner.l0 (k + 1) y0 y1 y2 y3 y4 y5))
  | 0 => fun _ _ _ _ _ _ r h => by simp [impl_corner.l0] at h
  | k + 1 => by
    have ih0 := impl_corner.mono_l k
    · intro y0 y1 y2 y3 y4 y5
      unfold impl_corner.l0
      repeat' first
      | (with_reducible exact ih0 _ _ _ _ _ _)
      | (with_reducible exact impl_moved.mono _ _ _ _)
      | (with_reducible exact LeO.refl _)
      | (with_reducible exact LeO.none _)
      | (with_reducible refine LeO.ite ?_ ?_)
      | (with_reducible refine LeO.bind ?_ (fun _ => ?_))
      | exact ih0 _ _ _ _ _ _
      | exact impl_moved.mono _ _ _ _
      | exact LeO.none _
      | refine LeO.ite ?_ ?_
      | refine LeO.bind ?_ (fun _ => ?_)
theorem impl_corner.mono : ∀ a0 k, LeO (impl_corner.f k a0) (impl_corner.f (k + 1) a0) := by
  intro a0 k
  have ih0 := impl_corner.mono_l k
  unfold impl_corner.f
  repeat' first
      | (with_reducible exact ih0 _ _ _ _ _ _)
      | (with_reducible exact impl_moved.mono _ _ _ _)
      | (with_reducible exact LeO.refl _)
      | (with_reducible exact LeO.none _)
      | (with_reducible refine LeO.ite ?_ ?_)
      | (with_reducible refine LeO.bind ?_ (fun _ => ?_))
      | exact ih0 _ _ _ _ _ _
      | exact impl_moved.mono _ _ _ _
      | exact LeO.none _
      | refine LeO.ite ?_ ?_
      | refine LeO.bind ?_ (fun _ => ?_)
set_option maxHeartbeats 8000000 in
set_option maxRecDepth 100000 in
theorem impl_corner.calls (k : Nat) (A0 : Option Addr) (c0 : Nat) (l0 : List (S41)) (r : List (S41)) (w : World) (hr0 : Kd.C k41 w A0 l0.length l0) (hc0 : l0.length ≤ c0) (h : impl_corner.f k l0 = some r) :
    Calls Try.prog 55 #[.slice A0 l0.length c0] w fun e w' => ∃ v0_ : Value, e = .returned (v0_) ∧ Kd.R k41 41 w' w.heap.size (fun _ => True) v0_ r ∧ Below w.heap.size w w' := by
  have hu41 := Try.underlying41
  have HR0 := Aside0.mk hr0
  have HC0 := Aside0.mk hc0
  clear hr0 hc0
  have HB := Aside0.mk (Below.refl w.heap.size w)
  have H : (if 0 < (l0.length : Int) then (impl_corner.l0 k l0 ((rd_T41 l0 0).f0) ((rd_T41 l0 0).f1) l0 (l0.length : Int) 0) else (none)) = some r := h
  clear h
  by_cases c2 : 0 < (l0.length : Int)
  · rw [if_pos c2] at H
    have c2b0 : decide (0 < (l0.length : Int)) = true := decide_eq_true c2
    have c2b1 : decide (0 < l0.length) = true := decide_eq_true (by omega)
    clear c2
    have H' := Aside0.mk H
    clear H
    have p395 : 0 ≤ (0 : Int) := (by omega)
    have q395 : 0 < (l0.length : Int) := of_decide_eq_true (by first | (with_reducible assumption) | assumption)
    obtain ⟨ad395, e395, hx395_0, hx395_1⟩ := at_T41 HR0.out 0 p395 q395
    cases e395
    have qi395 : (0 < l0.length) = True := eq_true (by omega)
    (try rw [show ((0 : Int)).toNat = 0 from rfl] at hx395_0)
    (try rw [show 0 * 2 = 0 from rfl] at hx395_0)
    (try rw [Addr.add_zero'] at hx395_0)
    (try rw [show ((0 : Int)).toNat = 0 from rfl] at hx395_1)
    (try rw [show 0 * 2 = 0 from rfl] at hx395_1)
    (try rw [Addr.add_zero'] at hx395_1)
    replace p395 := eq_true p395
    replace q395 := eq_true q395
    have p396 : 0 ≤ (0 : Int) := (by omega)
    have q396 : 0 < (l0.length : Int) := of_decide_eq_true (by first | (with_reducible assumption) | assumption)
    obtain ⟨ad396, e396, hx396_0, hx396_1⟩ := at_T41 HR0.out 0 p396 q396
    obtain rfl : ad395 = ad396 := (by injection e396)
    have qi396 : (0 < l0.length) = True := eq_true (by omega)
    (try rw [show ((0 : Int)).toNat = 0 from rfl] at hx396_0)
    (try rw [show 0 * 2 = 0 from rfl] at hx396_0)
    (try rw [Addr.add_zero'] at hx396_0)
    (try rw [show ((0 : Int)).toNat = 0 from rfl] at hx396_1)
    (try rw [show 0 * 2 = 0 from rfl] at hx396_1)
    (try rw [Addr.add_zero'] at hx396_1)
    replace p396 := eq_true p396
    replace q396 := eq_true q396
    go_enter Try.func55, Try.ntmps55
    go_wp2
    repeat (go_quiet (fail); try go_wp2)
    go_loopg [3, 4, 17] k (fun kq v3 v4 v17 w' => ∃ (x3_1 : Int) (x4_1 : Int) (x17_1 : Int), v3 = .int .i64 x3_1 ∧ v4 = .int .i64 x4_1 ∧ v17 = .int .i64 x17_1 ∧ Aside0 (impl_corner.l0 kq l0 x3_1 x4_1 l0 (l0.length : Int) x17_1 = some r) ∧ Aside0 (kq ≤ k) ∧ Aside0 (Below w.heap.size w w'))
    case atStart => exact ⟨((rd_T41 l0 0).f0), ((rd_T41 l0 0).f1), (0), (by first | rfl | (simp; done) | (simp [*]; done)), (by first | rfl | (simp; done) | (simp [*]; done)), (by first | rfl | (simp; done) | (simp [*]; done)), H', ⟨Nat.le_refl _⟩, ⟨by repeat (first | (with_reducible first | exact HB.out | apply below_alloc | apply pw_below_drewN | apply below_drew1) | exact HB.out)⟩⟩
    case round =>
      clear H'
      try clear c2
      try clear c2b0
      try clear c2b1
      try clear p2
      try clear hx395_0
      try clear hx395_1
      try clear hx396_0
      try clear hx396_1
      try clear p395
      try clear p396
      try clear q395
      try clear q396
      obtain ⟨x3_1, x4_1, x17_1, rfl, rfl, rfl, HA, HK1, HB⟩ := hrel
      cases gk with
      | zero => exact absurd HA.out (by simp [impl_corner.l0])
      | succ k1 =>
        have H := HA.out
        clear HA
        simp only [impl_corner.l0] at H
        by_cases c3 : x17_1 < (l0.length : Int)
        · rw [if_pos c3] at H
          have c3b0 : decide (x17_1 < (l0.length : Int)) = true := decide_eq_true c3
          clear c3
          by_cases c4 : 0 ≤ x17_1
          · rw [if_pos c4] at H
            have c4b0 : decide (0 ≤ x17_1) = true := decide_eq_true c4
            clear c4
            by_cases c5 : x17_1 < (l0.length : Int)
            · rw [if_pos c5] at H
              have c5b0 : decide (x17_1 < (l0.length : Int)) = true := decide_eq_true c5
              clear c5
              obtain ⟨ji6, hji6⟩ : ∃ j_ : Int, (mn x3_1 ((rd_T41 l0 x17_1).f0)) = j_ := ⟨_, rfl⟩
              replace H : (impl_corner.l0 k1 l0 ji6 (mn x4_1 ((rd_T41 l0 x17_1).f1)) l0 (l0.length : Int) (wrap64 (x17_1 + 1))) = some r := by first | (rw [hji6] at H; exact H) | (simp only [hji6] at H ⊢; exact H)
              have hji6_ : (if ((rd_T41 l0 x17_1).f0) < x3_1 then ((rd_T41 l0 x17_1).f0) else x3_1) = ji6 := hji6
              obtain ⟨ji7, hji7⟩ : ∃ j_ : Int, (mn x4_1 ((rd_T41 l0 x17_1).f1)) = j_ := ⟨_, rfl⟩
              replace H : (impl_corner.l0 k1 l0 ji6 ji7 l0 (l0.length : Int) (wrap64 (x17_1 + 1))) = some r := by first | (rw [hji7] at H; exact H) | (simp only [hji7] at H ⊢; exact H)
              have hji7_ : (if ((rd_T41 l0 x17_1).f1) < x4_1 then ((rd_T41 l0 x17_1).f1) else x4_1) = ji7 := hji7
              have H' := Aside0.mk H
              clear H
              have p397 : 0 ≤ (x17_1 : Int) := of_decide_eq_true (by first | (with_reducible assumption) | assumption)
              have q397 : x17_1 < (l0.length : Int) := of_decide_eq_true (by first | (with_reducible assumption) | assumption)
              obtain ⟨ad397, e397, hx397_0, hx397_1⟩ := at_T41 HR0.out x17_1 p397 q397
              obtain rfl : ad395 = ad397 := (by injection e397)
              replace hx397_0 := (HB.out.cell (World.block_lt_of_cell? w _ hx397_0)).trans hx397_0
              replace hx397_1 := (HB.out.cell (World.block_lt_of_cell? w _ hx397_1)).trans hx397_1
              replace p397 := eq_true p397
              replace q397 := eq_true q397
              go_wp2_with (first | ((with_reducible refine gate_dst (N := 6) rfl ?_); refine box_event ?hg (N := 6) ?hd (cs := #[.int .i64 0, .int .i64 0]) (t := 41) ?hr ?_; (case hd => rfl); (case hg => rfl); (case hr => first | (go_simp; done) | (go_simp; rfl)); intro gb398 hg w8 hbox hb; have n0_ := Aside0.mk (below_step (by repeat (first | (with_reducible first | exact HB.out | apply below_alloc | apply pw_below_drewN | apply below_drew1) | exact HB.out)) hb); have n1_ := Aside0.mk (hbox); have n2_ := Aside0.mk ((by rw [hg]; exact (below_size (by repeat (first | (with_reducible first | exact HB.out | apply below_alloc | apply pw_below_drewN | apply below_drew1) | exact HB.out))) : w.heap.size ≤ gb398)); have n3_ := Aside0.mk ((by rw [hg]; exact (below_size (by repeat (first | (with_reducible first | exact HB.out | apply below_alloc | apply pw_below_drewN | apply below_drew1) | exact HB.out))) : w.heap.size ≤ gb398)); clear HB; have HB := n0_; have BK398 := n1_; have GW398 := n2_; have GE398 := n3_; clear n0_ n1_ n2_ n3_; clear hb hbox hg; have hcz9_0 : w8.cell? ⟨gb398, 0, none⟩ = some (.int .i64 0) := (blk_cell BK398.out 0).trans rfl; have hcz9_1 : w8.cell? ⟨gb398, 1, none⟩ = some (.int .i64 0) := (blk_cell BK398.out 1).trans rfl; have hfz9_0 := blk_frozen BK398.out 0; have hfz9_1 := blk_frozen BK398.out 1))
              repeat (go_quiet (first | ((with_reducible refine gate_dst (N := 6) rfl ?_); refine box_event ?hg (N := 6) ?hd (cs := #[.int .i64 0, .int .i64 0]) (t := 41) ?hr ?_; (case hd => rfl); (case hg => rfl); (case hr => first | (go_simp; done) | (go_simp; rfl)); intro gb398 hg w8 hbox hb; have n0_ := Aside0.mk (below_step (by repeat (first | (with_reducible first | exact HB.out | apply below_alloc | apply pw_below_drewN | apply below_drew1) | exact HB.out)) hb); have n1_ := Aside0.mk (hbox); have n2_ := Aside0.mk ((by rw [hg]; exact (below_size (by repeat (first | (with_reducible first | exact HB.out | apply below_alloc | apply pw_below_drewN | apply below_drew1) | exact HB.out))) : w.heap.size ≤ gb398)); have n3_ := Aside0.mk ((by rw [hg]; exact (below_size (by repeat (first | (with_reducible first | exact HB.out | apply below_alloc | apply pw_below_drewN | apply below_drew1) | exact HB.out))) : w.heap.size ≤ gb398)); clear HB; have HB := n0_; have BK398 := n1_; have GW398 := n2_; have GE398 := n3_; clear n0_ n1_ n2_ n3_; clear hb hbox hg; have hcz9_0 : w8.cell? ⟨gb398, 0, none⟩ = some (.int .i64 0) := (blk_cell BK398.out 0).trans rfl; have hcz9_1 : w8.cell? ⟨gb398, 1, none⟩ = some (.int .i64 0) := (blk_cell BK398.out 1).trans rfl; have hfz9_0 := blk_frozen BK398.out 0; have hfz9_1 := blk_frozen BK398.out 1)); try go_wp2_with (first | ((with_reducible refine gate_dst (N := 6) rfl ?_); refine box_event ?hg (N := 6) ?hd (cs := #[.int .i64 0, .int .i64 0]) (t := 41) ?hr ?_; (case hd => rfl); (case hg => rfl); (case hr => first | (go_simp; done) | (go_simp; rfl)); intro gb398 hg w8 hbox hb; have n0_ := Aside0.mk (below_step (by repeat (first | (with_reducible first | exact HB.out | apply below_alloc | apply pw_below_drewN | apply below_drew1) | exact HB.out)) hb); have n1_ := Aside0.mk (hbox); have n2_ := Aside0.mk ((by rw [hg]; exact (below_size (by repeat (first | (with_reducible first | exact HB.out | apply below_alloc | apply pw_below_drewN | apply below_drew1) | exact HB.out))) : w.heap.size ≤ gb398)); have n3_ := Aside0.mk ((by rw [hg]; exact (below_size (by repeat (first | (with_reducible first | exact HB.out | apply below_alloc | apply pw_below_drewN | apply below_drew1) | exact HB.out))) : w.heap.size ≤ gb398)); clear HB; have HB := n0_; have BK398 := n1_; have GW398 := n2_; have GE398 := n3_; clear n0_ n1_ n2_ n3_; clear hb hbox hg; have hcz9_0 : w8.cell? ⟨gb398, 0, none⟩ = some (.int .i64 0) := (blk_cell BK398.out 0).trans rfl; have hcz9_1 : w8.cell? ⟨gb398, 1, none⟩ = some (.int .i64 0) := (blk_cell BK398.out 1).trans rfl; have hfz9_0 := blk_frozen BK398.out 0; have hfz9_1 := blk_frozen BK398.out 1)))
              go_roundg k1
              case measure => have := HK1.out; omega
              case rel => exact ⟨(ji6), (ji7), (wrap64 (x17_1 + 1)), (by first | rfl | (simp; done) | (simp only [← hji6] <;> (first | rfl | simp)) | (simp [*]; done)), (by first | rfl | (simp; done) | (simp only [← hji7] <;> (first | rfl | simp)) | (simp [*]; done)), (by first | rfl | (simp; done) | (simp [*]; done)), H', ⟨by have := HK1.out; omega⟩, ⟨by repeat (first | (with_reducible first | exact HB.out | apply below_alloc | apply pw_below_drewN | apply below_drew1 | refine below_set ?_ GE398.out) | exact HB.out)⟩⟩
            · rw [if_neg c5] at H
              exact absurd H (by simp)
          · rw [if_neg c4] at H
            exact absurd H (by simp)
        · rw [if_neg c3] at H
          have c3b0 : decide (x17_1 < (l0.length : Int)) = false := decide_eq_false c3
          clear c3
          replace H := Option.bind_eq_some_iff.mp H
          obtain ⟨t399, A100, H⟩ := H
          replace H : ((impl_SortCells.f t399).bind fun t402 => (some t402)) = some r := H
          have A10 := Aside0.mk A100
          clear A100
          replace H := Option.bind_eq_some_iff.mp H
          obtain ⟨t402, A110, H⟩ := H
          replace H : (some t402) = some r := H
          have A11 := Aside0.mk A110
          clear A110
          obtain rfl := Option.some.inj H
          go_wp2_with (first | (go_at_call 71; (with_reducible refine (impl_moved.calls k1 _ _ l0 (wrap64 (-x3_1)) (wrap64 (-x4_1)) t399 _ ?side1 ?side2 A10.out).mono ?_); (case side1 => repeat (first | exact (Kd.C_below HR0.out HB.out) | (with_reducible refine Kd.C_alloc ?_ _) | (with_reducible refine Kd.C_drewN ?_ _) | (with_reducible refine Kd.C_drew ?_))); (case side2 => exact HC0.out); rintro e w12 ⟨v400, rfl, ho0, hb⟩; have n0_ := Aside0.mk (Kd.R_lower ho0 (below_size (by repeat (first | (with_reducible first | exact HB.out | apply below_alloc | apply pw_below_drewN | apply below_drew1) | exact HB.out)))); have n1_ := Aside0.mk (below_step (by repeat (first | (with_reducible first | exact HB.out | apply below_alloc | apply pw_below_drewN | apply below_drew1) | exact HB.out)) hb); clear HB; have HO401 := n0_; have HB := n1_; clear n0_ n1_; (try clear hb); (try clear hb2); (try clear hk); (try clear hi); (try clear ho0); obtain ⟨Ao13, co13, eo13⟩ := Kd.R_slice HO401.out; subst eo13) | (go_at_call 70; (with_reducible refine (impl_SortCells.calls _ _ t399 t402 _ ?side1 ?side2 A11.out).mono ?_); (case side1 => repeat (first | exact (Kd.R_reads' HO401.out).2.2 | (with_reducible refine Kd.C_alloc ?_ _) | (with_reducible refine Kd.C_drewN ?_ _) | (with_reducible refine Kd.C_drew ?_))); (case side2 => exact (Kd.R_reads' HO401.out).2.1); rintro e w14 ⟨v403, rfl, ho0, hb⟩; have n0_ := Aside0.mk (Kd.R_elder' (by (with_reducible repeat (first | apply Kd.R_alloc | apply Kd.R_drewN | apply Kd.R_drew)); exact HO401.out) (Kd.R_base ho0) hb); have n1_ := Aside0.mk (Kd.R_lower (Kd.R_new' ho0 (Kd.R_lt (by (with_reducible repeat (first | apply Kd.R_alloc | apply Kd.R_drewN | apply Kd.R_drew)); exact HO401.out))) (below_size (by repeat (first | (with_reducible first | exact HB.out | apply below_alloc | apply pw_below_drewN | apply below_drew1) | exact HB.out)))); have n2_ := Aside0.mk (below_step (by repeat (first | (with_reducible first | exact HB.out | apply below_alloc | apply pw_below_drewN | apply below_drew1) | exact HB.out)) hb); clear HO401; clear HB; have HO401 := n0_; have HO404 := n1_; have HB := n2_; clear n0_ n1_ n2_; (try clear hb); (try clear hb2); (try clear hk); (try clear hi); (try clear ho0)))
          repeat (go_quiet (first | (go_at_call 71; (with_reducible refine (impl_moved.calls k1 _ _ l0 (wrap64 (-x3_1)) (wrap64 (-x4_1)) t399 _ ?side1 ?side2 A10.out).mono ?_); (case side1 => repeat (first | exact (Kd.C_below HR0.out HB.out) | (with_reducible refine Kd.C_alloc ?_ _) | (with_reducible refine Kd.C_drewN ?_ _) | (with_reducible refine Kd.C_drew ?_))); (case side2 => exact HC0.out); rintro e w12 ⟨v400, rfl, ho0, hb⟩; have n0_ := Aside0.mk (Kd.R_lower ho0 (below_size (by repeat (first | (with_reducible first | exact HB.out | apply below_alloc | apply pw_below_drewN | apply below_drew1) | exact HB.out)))); have n1_ := Aside0.mk (below_step (by repeat (first | (with_reducible first | exact HB.out | apply below_alloc | apply pw_below_drewN | apply below_drew1) | exact HB.out)) hb); clear HB; have HO401 := n0_; have HB := n1_; clear n0_ n1_; (try clear hb); (try clear hb2); (try clear hk); (try clear hi); (try clear ho0); obtain ⟨Ao13, co13, eo13⟩ := Kd.R_slice HO401.out; subst eo13) | (go_at_call 70; (with_reducible refine (impl_SortCells.calls _ _ t399 t402 _ ?side1 ?side2 A11.out).mono ?_); (case side1 => repeat (first | exact (Kd.R_reads' HO401.out).2.2 | (with_reducible refine Kd.C_alloc ?_ _) | (with_reducible refine Kd.C_drewN ?_ _) | (with_reducible refine Kd.C_drew ?_))); (case side2 => exact (Kd.R_reads' HO401.out).2.1); rintro e w14 ⟨v403, rfl, ho0, hb⟩; have n0_ := Aside0.mk (Kd.R_elder' (by (with_reducible repeat (first | apply Kd.R_alloc | apply Kd.R_drewN | apply Kd.R_drew)); exact HO401.out) (Kd.R_base ho0) hb); have n1_ := Aside0.mk (Kd.R_lower (Kd.R_new' ho0 (Kd.R_lt (by (with_reducible repeat (first | apply Kd.R_alloc | apply Kd.R_drewN | apply Kd.R_drew)); exact HO401.out))) (below_size (by repeat (first | (with_reducible first | exact HB.out | apply below_alloc | apply pw_below_drewN | apply below_drew1) | exact HB.out)))); have n2_ := Aside0.mk (below_step (by repeat (first | (with_reducible first | exact HB.out | apply below_alloc | apply pw_below_drewN | apply below_drew1) | exact HB.out)) hb); clear HO401; clear HB; have HO401 := n0_; have HO404 := n1_; have HB := n2_; clear n0_ n1_ n2_; (try clear hb); (try clear hb2); (try clear hk); (try clear hi); (try clear ho0))); try go_wp2_with (first | (go_at_call 71; (with_reducible refine (impl_moved.calls k1 _ _ l0 (wrap64 (-x3_1)) (wrap64 (-x4_1)) t399 _ ?side1 ?side2 A10.out).mono ?_); (case side1 => repeat (first | exact (Kd.C_below HR0.out HB.out) | (with_reducible refine Kd.C_alloc ?_ _) | (with_reducible refine Kd.C_drewN ?_ _) | (with_reducible refine Kd.C_drew ?_))); (case side2 => exact HC0.out); rintro e w12 ⟨v400, rfl, ho0, hb⟩; have n0_ := Aside0.mk (Kd.R_lower ho0 (below_size (by repeat (first | (with_reducible first | exact HB.out | apply below_alloc | apply pw_below_drewN | apply below_drew1) | exact HB.out)))); have n1_ := Aside0.mk (below_step (by repeat (first | (with_reducible first | exact HB.out | apply below_alloc | apply pw_below_drewN | apply below_drew1) | exact HB.out)) hb); clear HB; have HO401 := n0_; have HB := n1_; clear n0_ n1_; (try clear hb); (try clear hb2); (try clear hk); (try clear hi); (try clear ho0); obtain ⟨Ao13, co13, eo13⟩ := Kd.R_slice HO401.out; subst eo13) | (go_at_call 70; (with_reducible refine (impl_SortCells.calls _ _ t399 t402 _ ?side1 ?side2 A11.out).mono ?_); (case side1 => repeat (first | exact (Kd.R_reads' HO401.out).2.2 | (with_reducible refine Kd.C_alloc ?_ _) | (with_reducible refine Kd.C_drewN ?_ _) | (with_reducible refine Kd.C_drew ?_))); (case side2 => exact (Kd.R_reads' HO401.out).2.1); rintro e w14 ⟨v403, rfl, ho0, hb⟩; have n0_ := Aside0.mk (Kd.R_elder' (by (with_reducible repeat (first | apply Kd.R_alloc | apply Kd.R_drewN | apply Kd.R_drew)); exact HO401.out) (Kd.R_base ho0) hb); have n1_ := Aside0.mk (Kd.R_lower (Kd.R_new' ho0 (Kd.R_lt (by (with_reducible repeat (first | apply Kd.R_alloc | apply Kd.R_drewN | apply Kd.R_drew)); exact HO401.out))) (below_size (by repeat (first | (with_reducible first | exact HB.out | apply below_alloc | apply pw_below_drewN | apply below_drew1) | exact HB.out)))); have n2_ := Aside0.mk (below_step (by repeat (first | (with_reducible first | exact HB.out | apply below_alloc | apply pw_below_drewN | apply below_drew1) | exact HB.out)) hb); clear HO401; clear HB; have HO401 := n0_; have HO404 := n1_; have HB := n2_; clear n0_ n1_ n2_; (try clear hb); (try clear hb2); (try clear hk); (try clear hi); (try clear ho0))))
          go_ret
          exact ⟨_, by first | rfl | (simp [errW_none, errW_some] <;> rfl) | (simp [*, errW_none, errW_some] <;> rfl), by (with_reducible repeat (first | apply Kd.R_alloc | apply Kd.R_drewN | apply Kd.R_drew)); exact Kd.R_mono HO404.out (fun _ hk => trivial), by repeat (first | (with_reducible first | exact HB.out | apply below_alloc | apply pw_below_drewN | apply below_drew1) | exact HB.out)⟩
  · rw [if_neg c2] at H
    exact absurd H (by simp)
end Go.Proofs.Ytlohfeicfhmlmaa.PFnOutlines

namespace Go.Proofs.Ytlohfeicfhmlmaa.PFnOutlines
open Go.RowKit Go.Proofs.YtlohfeicfhmlmaaW.PrintWords Go.Proofs.YtlohfeicfhmlmaaW.PrintLast Go.Proofs.YtlohfeicfhmlmaaW.PrintMore
attribute [local go_sem] max2_int min2_int max_two min_two max_three min_three max_four min_four   -- for this text's walks alone
set_option linter.unusedVariables false
set_option linter.unusedSimpArgs false
mutual
def impl_carry.j0 : Nat → Int → Int → Int → Option (Int × Int)
  | 0, _, _, _ => none
  | k + 1, x1, x406000, x406001 => impl_carry.l0 k (Int.tmod x1 4) 0 x406000 x406001
def impl_carry.l0 : Nat → Int → Int → Int → Int → Option (Int × Int)
  | 0, _, _, _, _ => none
  | k + 1, x12, x13, x406000, x406001 => if x13 < x12 then (impl_carry.l0 k x12 (wrap64 (x13 + 1)) (wrap64 (-x406001)) x406000) else (some (x406000, x406001))
end
def impl_carry.f (k : Nat) (a0_0 : Int) (a0_1 : Int) (a1 : Int) : Option (Int × Int) := if a1 ≥ 4 then (impl_carry.j0 k a1 (wrap64 (-a0_0)) a0_1) else (impl_carry.j0 k a1 a0_0 a0_1)
theorem impl_carry.mono_l : ∀ k, (∀ y0 y1 y2, LeO (impl_carry.j0 k y0 y1 y2) (impl_carry.j0 (k + 1) y0 y1 y2)) ∧ (∀ y0 y1 y2 y3, LeO (impl_carry.l0 k y0 y1 y2 y3) (impl_carry.l0 (k + 1) y0 y1 y2 y3))
  | 0 => ⟨fun _ _ _ r h => by simp [impl_carry.j0] at h, fun _ _ _ _ r h => by simp [impl_carry.l0] at h⟩
  | k + 1 => by
    obtain ⟨ih0, ih1⟩ := impl_carry.mono_l k
    refine ⟨?_, ?_⟩
    · intro y0 y1 y2
      unfold impl_carry.j0
      repeat' first
      | (with_reducible exact ih0 _ _ _)
      | (with_reducible exact ih1 _ _ _ _)
      | (with_reducible exact LeO.refl _)
      | (with_reducible exact LeO.none _)
      | (with_reducible refine LeO.ite ?_ ?_)
      | (with_reducible refine LeO.bind ?_ (fun _ => ?_))
      | exact ih0 _ _ _
      | exact ih1 _ _ _ _
      | exact LeO.none _
      | refine LeO.ite ?_ ?_
      | refine LeO.bind ?_ (fun _ => ?_)
    · intro y0 y1 y2 y3
      unfold impl_carry.l0
      repeat' first
      | (with_reducible exact ih0 _ _ _)
      | (with_reducible exact ih1 _ _ _ _)
      | (with_reducible exact LeO.refl _)
      | (with_reducible exact LeO.none _)
      | (with_reducible refine LeO.ite ?_ ?_)
      | (with_reducible refine LeO.bind ?_ (fun _ => ?_))
      | exact ih0 _ _ _
      | exact ih1 _ _ _ _
      | exact LeO.none _
      | refine LeO.ite ?_ ?_
      | refine LeO.bind ?_ (fun _ => ?_)
theorem impl_carry.mono : ∀ a0 a1 a2 k, LeO (impl_carry.f k a0 a1 a2) (impl_carry.f (k + 1) a0 a1 a2) := by
  intro a0 a1 a2 k
  obtain ⟨ih0, ih1⟩ := impl_carry.mono_l k
  unfold impl_carry.f
  repeat' first
      | (with_reducible exact ih0 _ _ _)
      | (with_reducible exact ih1 _ _ _ _)
      | (with_reducible exact LeO.refl _)
      | (with_reducible exact LeO.none _)
      | (with_reducible refine LeO.ite ?_ ?_)
      | (with_reducible refine LeO.bind ?_ (fun _ => ?_))
      | exact ih0 _ _ _
      | exact ih1 _ _ _ _
      | exact LeO.none _
      | refine LeO.ite ?_ ?_
      | refine LeO.bind ?_ (fun _ => ?_)
set_option maxHeartbeats 8000000 in
set_option maxRecDepth 100000 in
theorem impl_carry.calls (k : Nat) (a0_0 : Int) (a0_1 : Int) (a1 : Int) (r1 : Int) (r2 : Int) (w : World) (h : impl_carry.f k a0_0 a0_1 a1 = some (r1, r2)) :
    Calls Try.prog 65 #[.agg #[.int .i64 a0_0, .int .i64 a0_1], .int .i64 a1] w fun e w' => e = .returned (.agg #[.int .i64 r1, .int .i64 r2]) ∧ Below w.heap.size w w' := by
  have hu41 := Try.underlying41
  have HB := Aside0.mk (Below.refl w.heap.size w)
  have H : (if a1 ≥ 4 then (impl_carry.j0 k a1 (wrap64 (-a0_0)) a0_1) else (impl_carry.j0 k a1 a0_0 a0_1)) = some (r1, r2) := h
  clear h
  have HC3 := Aside0.mk H
  clear H
  go_enter Try.func65, Try.ntmps65
  go_upto_if 6 with (first | ((with_reducible refine gate_dst (N := 2) rfl ?_); refine box_event ?hg (N := 2) ?hd (cs := #[.int .i64 a0_0, .int .i64 a0_1]) (t := 41) ?hr ?_; (case hd => rfl); (case hg => rfl); (case hr => first | (go_simp; done) | (go_simp; rfl)); intro gb405 hg w4 hbox hb; have n0_ := Aside0.mk (below_step (by repeat (first | (with_reducible first | exact HB.out | apply below_alloc | apply pw_below_drewN | apply below_drew1) | exact HB.out)) hb); have n1_ := Aside0.mk (hbox); have n2_ := Aside0.mk ((by rw [hg]; exact (below_size (by repeat (first | (with_reducible first | exact HB.out | apply below_alloc | apply pw_below_drewN | apply below_drew1) | exact HB.out))) : w.heap.size ≤ gb405)); have n3_ := Aside0.mk ((by rw [hg]; exact (below_size (by repeat (first | (with_reducible first | exact HB.out | apply below_alloc | apply pw_below_drewN | apply below_drew1) | exact HB.out))) : w.heap.size ≤ gb405)); clear HB; have HB := n0_; have BK405 := n1_; have GW405 := n2_; have GE405 := n3_; clear n0_ n1_ n2_ n3_; clear hb hbox hg) | ((with_reducible refine gate_dst (N := 4) rfl ?_); refine box_event ?hg (N := 4) ?hd (cs := #[.int .i64 0, .int .i64 0]) (t := 41) ?hr ?_; (case hd => rfl); (case hg => rfl); (case hr => first | (go_simp; done) | (go_simp; rfl)); intro gb406 hg w5 hbox hb; have n0_ := Aside0.mk (blk_below (g := gb405) (o := .cells #[.int .i64 a0_0, .int .i64 a0_1] 41 (0, 0)) (by (with_reducible repeat (first | refine blk_drewN ?_ _ | refine blk_drew ?_ | refine blk_alloc ?_ _)); exact BK405.out) hb); have n1_ := Aside0.mk (below_step (by repeat (first | (with_reducible first | exact HB.out | apply below_alloc | apply pw_below_drewN | apply below_drew1 | refine below_set ?_ GE405.out) | exact HB.out)) hb); have n2_ := Aside0.mk (hbox); have n3_ := Aside0.mk ((by rw [hg]; exact (below_size (by repeat (first | (with_reducible first | exact HB.out | apply below_alloc | apply pw_below_drewN | apply below_drew1 | refine below_set ?_ GE405.out) | exact HB.out))) : w.heap.size ≤ gb406)); have n4_ := Aside0.mk ((by rw [hg]; exact (below_size (by repeat (first | (with_reducible first | exact HB.out | apply below_alloc | apply pw_below_drewN | apply below_drew1 | refine below_set ?_ GE405.out) | exact HB.out))) : w.heap.size ≤ gb406)); have n5_ := Aside0.mk ((by rw [hg]; exact Nat.ne_of_lt (blk_lt (g := gb405) (o := .cells #[.int .i64 a0_0, .int .i64 a0_1] 41 (0, 0)) (by (with_reducible repeat (first | refine blk_drewN ?_ _ | refine blk_drew ?_ | refine blk_alloc ?_ _)); exact BK405.out)) : gb405 ≠ gb406)); have n6_ := Aside0.mk ((by rw [hg]; exact Nat.ne_of_gt (blk_lt (g := gb405) (o := .cells #[.int .i64 a0_0, .int .i64 a0_1] 41 (0, 0)) (by (with_reducible repeat (first | refine blk_drewN ?_ _ | refine blk_drew ?_ | refine blk_alloc ?_ _)); exact BK405.out)) : gb406 ≠ gb405)); clear BK405; clear HB; have BK405 := n0_; have HB := n1_; have BK406 := n2_; have GW406 := n3_; have GE406 := n4_; have NB405_406 := n5_; have NB406_405 := n6_; clear n0_ n1_ n2_ n3_ n4_ n5_ n6_; clear hb hbox hg))
  (try simp only [Act.put, List.setIfInBounds_toArray, List.set_cons_zero, List.set_cons_succ])
  go_cut [] (fun wc => ∃ (kq : Nat) (x406000_2 : Int), Aside0 (impl_carry.j0 kq a1 x406000_2 a0_1 = some (r1, r2)) ∧ Aside0 (kq ≤ k) ∧ Aside0 (wc.heap[gb405]? = some (.cells #[.int .i64 x406000_2, .int .i64 a0_1] 41 (0, 0))) ∧ Aside0 (wc.heap[gb406]? = some (.cells #[.int .i64 0, .int .i64 0] 41 (0, 0))) ∧ Aside0 (Below w.heap.size w wc))
  case first =>
    have H := HC3.out
    clear HC3
    by_cases c6 : a1 ≥ 4
    · rw [if_pos c6] at H
      have c6b0 : decide (4 ≤ a1) = true := decide_eq_true c6
      clear c6
      (first | rw [c6b0] | (simp only [i64_w, i32_w]; rw [c6b0]) | skip)
      have H' := Aside0.mk H
      clear H
      have hnb7 := NB405_406.out
      have hnc7 := NB406_405.out
      have hcz8_0 : w5.cell? ⟨gb405, 0, none⟩ = some (.int .i64 a0_0) := (blk_cell BK405.out 0).trans rfl
      have hcz8_1 : w5.cell? ⟨gb405, 1, none⟩ = some (.int .i64 a0_1) := (blk_cell BK405.out 1).trans rfl
      have hfz8_0 := blk_frozen BK405.out 0
      have hfz8_1 := blk_frozen BK405.out 1
      go_wp2
      go_meet
      case rel => exact ⟨_, (wrap64 (-a0_0)), H', ⟨by first | omega | exact Nat.le_refl _⟩, ⟨by (with_reducible repeat (first | refine blk_drewN ?_ _ | refine blk_drew ?_ | refine blk_alloc ?_ _)); refine blk_put (cs := #[.int .i64 a0_0, .int .i64 a0_1]) ?_ 0 _ rfl; (with_reducible repeat (first | refine blk_drewN ?_ _ | refine blk_drew ?_ | refine blk_alloc ?_ _)); exact BK405.out⟩, ⟨by (with_reducible repeat (first | refine blk_drewN ?_ _ | refine blk_drew ?_ | refine blk_alloc ?_ _)); refine blk_far ?_ NB406_405.out _; (with_reducible repeat (first | refine blk_drewN ?_ _ | refine blk_drew ?_ | refine blk_alloc ?_ _)); exact BK406.out⟩, ⟨by repeat (first | (with_reducible first | exact HB.out | apply below_alloc | apply pw_below_drewN | apply below_drew1 | refine below_set ?_ GE405.out | refine below_set ?_ GE406.out) | exact HB.out)⟩⟩
    · rw [if_neg c6] at H
      have c6b0 : decide (4 ≤ a1) = false := decide_eq_false c6
      clear c6
      (first | rw [c6b0] | (simp only [i64_w, i32_w]; rw [c6b0]) | skip)
      have H' := Aside0.mk H
      clear H
      go_wp2
      go_meet
      case rel => exact ⟨_, (a0_0), H', ⟨by first | omega | exact Nat.le_refl _⟩, ⟨by (with_reducible repeat (first | refine blk_drewN ?_ _ | refine blk_drew ?_ | refine blk_alloc ?_ _)); exact BK405.out⟩, ⟨by (with_reducible repeat (first | refine blk_drewN ?_ _ | refine blk_drew ?_ | refine blk_alloc ?_ _)); exact BK406.out⟩, ⟨by repeat (first | (with_reducible first | exact HB.out | apply below_alloc | apply pw_below_drewN | apply below_drew1 | refine below_set ?_ GE405.out | refine below_set ?_ GE406.out) | exact HB.out)⟩⟩
  case rest =>
    clear HC3
    try clear p2
    try clear c6
    try clear c6b0
    try clear p6
    try clear c7
    try clear hcz8_0
    try clear hcz8_1
    try clear hfz8_0
    try clear hfz8_1
    obtain ⟨kq, x406000_2, HA, HJ2, BK405, BK406, HB⟩ := hcut
    cases kq with
    | zero => exact absurd HA.out (by simp [impl_carry.j0])
    | succ kj2 =>
      have H := HA.out
      clear HA
      simp only [impl_carry.j0] at H
      have H' := Aside0.mk H
      clear H
      go_wp2
      go_loopg [13] kj2 (fun kq v13 w' => ∃ (x13_2 : Int) (x406000_2 : Int) (x406001_2 : Int), v13 = .int .i64 x13_2 ∧ Aside0 (impl_carry.l0 kq (Int.tmod a1 4) x13_2 x406000_2 x406001_2 = some (r1, r2)) ∧ Aside0 (kq ≤ kj2) ∧ Aside0 (w'.heap[gb405]? = some (.cells #[.int .i64 x406000_2, .int .i64 x406001_2] 41 (0, 0))) ∧ Aside0 (w'.heap[gb406]? = some (.cells #[.int .i64 0, .int .i64 0] 41 (0, 0))) ∧ Aside0 (Below w.heap.size w w'))
      case atStart => exact ⟨(0), (x406000_2), (a0_1), (by first | rfl | (simp; done) | (simp [*]; done)), H', ⟨Nat.le_refl _⟩, ⟨by (with_reducible repeat (first | refine blk_drewN ?_ _ | refine blk_drew ?_ | refine blk_alloc ?_ _)); exact BK405.out⟩, ⟨by (with_reducible repeat (first | refine blk_drewN ?_ _ | refine blk_drew ?_ | refine blk_alloc ?_ _)); exact BK406.out⟩, ⟨by repeat (first | (with_reducible first | exact HB.out | apply below_alloc | apply pw_below_drewN | apply below_drew1 | refine below_set ?_ GE405.out | refine below_set ?_ GE406.out) | exact HB.out)⟩⟩
      case round =>
        clear H'
        try clear p2
        try clear c6
        try clear c6b0
        try clear p6
        try clear c7
        try clear hcz8_0
        try clear hcz8_1
        try clear hfz8_0
        try clear hfz8_1
        try clear p2
        try clear p6
        obtain ⟨x13_2, x406000_2, x406001_2, rfl, HA, HK2, BK405, BK406, HB⟩ := hrel
        cases gk with
        | zero => exact absurd HA.out (by simp [impl_carry.l0])
        | succ k2 =>
          have H := HA.out
          clear HA
          simp only [impl_carry.l0] at H
          by_cases c9 : x13_2 < (Int.tmod a1 4)
          · rw [if_pos c9] at H
            have c9b0 : decide (x13_2 < (Int.tmod a1 4)) = true := decide_eq_true c9
            clear c9
            have H' := Aside0.mk H
            clear H
            have hnb10 := NB405_406.out
            have hnc10 := NB406_405.out
            have hcz11_0 : wr.cell? ⟨gb405, 0, none⟩ = some (.int .i64 x406000_2) := (blk_cell BK405.out 0).trans rfl
            have hcz11_1 : wr.cell? ⟨gb405, 1, none⟩ = some (.int .i64 x406001_2) := (blk_cell BK405.out 1).trans rfl
            have hfz11_0 := blk_frozen BK405.out 0
            have hfz11_1 := blk_frozen BK405.out 1
            go_wp2
            go_roundg k2
            case measure => have := HJ2.out; have := HK2.out; omega
            case rel => exact ⟨(wrap64 (x13_2 + 1)), (wrap64 (-x406001_2)), (x406000_2), (by first | rfl | (simp; done) | (simp [*]; done)), H', ⟨by have := HJ2.out; have := HK2.out; omega⟩, ⟨by (with_reducible repeat (first | refine blk_drewN ?_ _ | refine blk_drew ?_ | refine blk_alloc ?_ _)); refine blk_put (cs := #[.int .i64 (wrap64 (-x406001_2)), .int .i64 x406001_2]) ?_ 1 _ rfl; (with_reducible repeat (first | refine blk_drewN ?_ _ | refine blk_drew ?_ | refine blk_alloc ?_ _)); refine blk_put (cs := #[.int .i64 x406000_2, .int .i64 x406001_2]) ?_ 0 _ rfl; (with_reducible repeat (first | refine blk_drewN ?_ _ | refine blk_drew ?_ | refine blk_alloc ?_ _)); exact BK405.out⟩, ⟨by (with_reducible repeat (first | refine blk_drewN ?_ _ | refine blk_drew ?_ | refine blk_alloc ?_ _)); refine blk_far ?_ NB406_405.out _; (with_reducible repeat (first | refine blk_drewN ?_ _ | refine blk_drew ?_ | refine blk_alloc ?_ _)); refine blk_far ?_ NB406_405.out _; (with_reducible repeat (first | refine blk_drewN ?_ _ | refine blk_drew ?_ | refine blk_alloc ?_ _)); exact BK406.out⟩, ⟨by repeat (first | (with_reducible first | exact HB.out | apply below_alloc | apply pw_below_drewN | apply below_drew1 | refine below_set ?_ GE405.out | refine below_set ?_ GE406.out) | exact HB.out)⟩⟩
          · rw [if_neg c9] at H
            have c9b0 : decide (x13_2 < (Int.tmod a1 4)) = false := decide_eq_false c9
            clear c9
            simp only [Option.some.injEq, Prod.mk.injEq] at H
            obtain ⟨rfl, rfl⟩ := H
            have hnb12 := NB405_406.out
            have hnc12 := NB406_405.out
            have hcz13_0 : wr.cell? ⟨gb405, 0, none⟩ = some (.int .i64 x406000_2) := (blk_cell BK405.out 0).trans rfl
            have hcz13_1 : wr.cell? ⟨gb405, 1, none⟩ = some (.int .i64 x406001_2) := (blk_cell BK405.out 1).trans rfl
            have hfz13_0 := blk_frozen BK405.out 0
            have hfz13_1 := blk_frozen BK405.out 1
            have hcz14_0 : wr.cell? ⟨gb406, 0, none⟩ = some (.int .i64 0) := (blk_cell BK406.out 0).trans rfl
            have hcz14_1 : wr.cell? ⟨gb406, 1, none⟩ = some (.int .i64 0) := (blk_cell BK406.out 1).trans rfl
            have hfz14_0 := blk_frozen BK406.out 0
            have hfz14_1 := blk_frozen BK406.out 1
            go_wp2
            refine bodyPost_ret (results_cell_row rfl _ _ gb406 41 #[.int .i64 x406000_2, .int .i64 x406001_2] (0, 0) _ rfl (by (with_reducible repeat (first | refine blk_drewN ?_ _ | refine blk_drew ?_ | refine blk_alloc ?_ _)); refine blk_put (cs := #[.int .i64 x406000_2, .int .i64 0]) ?_ 1 _ rfl; (with_reducible repeat (first | refine blk_drewN ?_ _ | refine blk_drew ?_ | refine blk_alloc ?_ _)); refine blk_put (cs := #[.int .i64 0, .int .i64 0]) ?_ 0 _ rfl; (with_reducible repeat (first | refine blk_drewN ?_ _ | refine blk_drew ?_ | refine blk_alloc ?_ _)); exact BK406.out) Try.underlying41 rfl (by kernel_rfl)) rfl ?_
            exact ⟨by first | rfl | (simp [errW_none, errW_some] <;> rfl) | (simp [*, errW_none, errW_some] <;> rfl), by repeat (first | (with_reducible first | exact HB.out | apply below_alloc | apply pw_below_drewN | apply below_drew1 | refine below_set ?_ GE405.out | refine below_set ?_ GE406.out) | exact HB.out)⟩
def impl_turned.l0 : Nat → Int → List (S41) → List (S41) → Int → Int → Option ((List (S41)))
  | 0, _, _, _, _, _ => none
  | k + 1, x1, x5, x8, x9, x10 => if x10 < x9 then (if 0 ≤ x10 then (if x10 < (x8.length : Int) then ((impl_carry.f k ((rd_T41 x8 x10).f0) ((rd_T41 x8 x10).f1) x1).bind fun bt409 => (if x5.length < 8796093022208 then (impl_turned.l0 k x1 (x5 ++ [(⟨bt409.1, bt409.2⟩ : S41)]) x8 x9 (wrap64 (x10 + 1))) else (none))) else (none)) else (none)) else ((impl_corner.f k x5).bind fun t414 => (some t414))
def impl_turned.f (k : Nat) (l0 : List (S41)) (a1 : Int) : Option ((List (S41))) := impl_turned.l0 k a1 ([] : List (S41)) l0 (l0.length : Int) 0
theorem impl_turned.mono_l : ∀ k, (∀ y0 y1 y2 y3 y4, LeO (impl_turned.l0 k y0 y1 y2 y3 y4) (impl_turned.l0 (k + 1) y0 y1 y2 y3 y4))
  | 0 => fun _ _ _ _ _ r h => by simp [impl_turned.l0] at h
  | k + 1 => by
    have ih0 := impl_turned.mono_l k
    · intro y0 y1 y2 y3 y4
      unfold impl_turned.l0
      repeat' first
      | (with_reducible exact ih0 _ _ _ _ _)
      | (with_reducible exact impl_carry.mono _ _ _ _)
      | (with_reducible exact impl_corner.mono _ _)
      | (with_reducible exact LeO.refl _)
      | (with_reducible exact LeO.none _)
      | (with_reducible refine LeO.ite ?_ ?_)
      | (with_reducible refine LeO.bind ?_ (fun _ => ?_))
      | exact ih0 _ _ _ _ _
      | exact impl_carry.mono _ _ _ _
      | exact impl_corner.mono _ _
      | exact LeO.none _
      | refine LeO.ite ?_ ?_
      | refine LeO.bind ?_ (fun _ => ?_)
theorem impl_turned.mono : ∀ a0 a1 k, LeO (impl_turned.f k a0 a1) (impl_turned.f (k + 1) a0 a1) := by
  intro a0 a1 k
  have ih0 := impl_turned.mono_l k
  unfold impl_turned.f
  repeat' first
      | (with_reducible exact ih0 _ _ _ _ _)
      | (with_reducible exact impl_carry.mono _ _ _ _)
      | (with_reducible exact impl_corner.mono _ _)
      | (with_reducible exact LeO.refl _)
      | (with_reducible exact LeO.none _)
      | (with_reducible refine LeO.ite ?_ ?_)
      | (with_reducible refine LeO.bind ?_ (fun _ => ?_))
      | exact ih0 _ _ _ _ _
      | exact impl_carry.mono _ _ _ _
      | exact impl_corner.mono _ _
      | exact LeO.none _
      | refine LeO.ite ?_ ?_
      | refine LeO.bind ?_ (fun _ => ?_)
set_option maxHeartbeats 8000000 in
set_option maxRecDepth 100000 in
theorem impl_turned.calls (k : Nat) (A0 : Option Addr) (c0 : Nat) (l0 : List (S41)) (a1 : Int) (r : List (S41)) (w : World) (hr0 : Kd.C k41 w A0 l0.length l0) (hc0 : l0.length ≤ c0) (h : impl_turned.f k l0 a1 = some r) :
    Calls Try.prog 44 #[.slice A0 l0.length c0, .int .i64 a1] w fun e w' => ∃ v0_ : Value, e = .returned (v0_) ∧ Kd.R k41 41 w' w.heap.size (fun _ => True) v0_ r ∧ Below w.heap.size w w' := by
  have hu41 := Try.underlying41
  have HR0 := Aside0.mk hr0
  have HC0 := Aside0.mk hc0
  clear hr0 hc0
  have HB := Aside0.mk (Below.refl w.heap.size w)
  have H : (impl_turned.l0 k a1 ([] : List (S41)) l0 (l0.length : Int) 0) = some r := h
  clear h
  have H' := Aside0.mk H
  clear H
  go_enter Try.func44, Try.ntmps44
  go_wp2
  go_loopg [5, 10] k (fun kq v5 v10 w' => ∃ (x5_1 : List (S41)) (x10_1 : Int), v10 = .int .i64 x10_1 ∧ Aside0 (impl_turned.l0 kq a1 x5_1 l0 (l0.length : Int) x10_1 = some r) ∧ Aside0 (kq ≤ k) ∧ Aside0 (Kd.R k41 41 w' w.heap.size (fun _ => True) v5 x5_1) ∧ Aside0 (Below w.heap.size w w'))
  case atStart => exact ⟨(([] : List (S41))), (0), (by first | rfl | (simp; done) | (simp [*]; done)), H', ⟨Nat.le_refl _⟩, ⟨by first | exact Kd.R_nil _ _ _ _ _ | exact Kd.N_nil _ _ _ _ _ | exact Kd.V_nil _ _ _ _ _ | exact Kd.Q_nil _ _ _ _ _ | exact Kd.S_nil _ _ _ _ _⟩, ⟨by repeat (first | (with_reducible first | exact HB.out | apply below_alloc | apply pw_below_drewN | apply below_drew1) | exact HB.out)⟩⟩
  case round =>
    clear H'
    try clear p2
    obtain ⟨x5_1, x10_1, rfl, HA, HK1, HO_5, HB⟩ := hrel
    cases gk with
    | zero => exact absurd HA.out (by simp [impl_turned.l0])
    | succ k1 =>
      have H := HA.out
      clear HA
      simp only [impl_turned.l0] at H
      by_cases c3 : x10_1 < (l0.length : Int)
      · rw [if_pos c3] at H
        have c3b0 : decide (x10_1 < (l0.length : Int)) = true := decide_eq_true c3
        clear c3
        by_cases c4 : 0 ≤ x10_1
        · rw [if_pos c4] at H
          have c4b0 : decide (0 ≤ x10_1) = true := decide_eq_true c4
          clear c4
          by_cases c5 : x10_1 < (l0.length : Int)
          · rw [if_pos c5] at H
            have c5b0 : decide (x10_1 < (l0.length : Int)) = true := decide_eq_true c5
            clear c5
            replace H := Option.bind_eq_some_iff.mp H
            obtain ⟨⟨t409, t410⟩, A60, H⟩ := H
            replace H : (if x5_1.length < 8796093022208 then (impl_turned.l0 k1 a1 (x5_1 ++ [(⟨t409, t410⟩ : S41)]) l0 (l0.length : Int) (wrap64 (x10_1 + 1))) else (none)) = some r := H
            have A6 := Aside0.mk A60
            clear A60
            by_cases c7 : x5_1.length < 8796093022208
            · rw [if_pos c7] at H
              have LMc7 := Aside0.mk c7
              clear c7
              obtain ⟨y411, hy411⟩ : ∃ y_ : List (S41), y_ = (x5_1 ++ [(⟨t409, t410⟩ : S41)]) := ⟨_, rfl⟩
              replace H : (impl_turned.l0 k1 a1 y411 l0 (l0.length : Int) (wrap64 (x10_1 + 1))) = some r := by first | (rw [hy411]; with_reducible exact H) | (have H2_ := (Option.bind_some _ _).symm.trans H; rw [hy411]; with_reducible exact H2_) | (have H2_ := (Option.bind_some _ _).symm.trans H; with_reducible exact H2_) | with_reducible exact H | (rw [hy411]; exact H) | exact H
              have Ny411 := Aside0.mk hy411
              clear hy411
              have H' := Aside0.mk H
              clear H
              have p407 : 0 ≤ (x10_1 : Int) := of_decide_eq_true (by first | (with_reducible assumption) | assumption)
              have q407 : x10_1 < (l0.length : Int) := of_decide_eq_true (by first | (with_reducible assumption) | assumption)
              obtain ⟨ad407, e407, hx407_0, hx407_1⟩ := at_T41 HR0.out x10_1 p407 q407
              cases e407
              replace hx407_0 := (HB.out.cell (World.block_lt_of_cell? w _ hx407_0)).trans hx407_0
              replace hx407_1 := (HB.out.cell (World.block_lt_of_cell? w _ hx407_1)).trans hx407_1
              replace p407 := eq_true p407
              replace q407 := eq_true q407
              go_wp2_with (first | ((with_reducible refine gate_dst (N := 7) rfl ?_); refine box_event ?hg (N := 7) ?hd (cs := #[.int .i64 0, .int .i64 0]) (t := 41) ?hr ?_; (case hd => rfl); (case hg => rfl); (case hr => first | (go_simp; done) | (go_simp; rfl)); intro gb408 hg w8 hbox hb; have n0_ := Aside0.mk (Kd.R_below (Kd.R_elderB (by (with_reducible repeat (first | apply Kd.R_alloc | apply Kd.R_drewN | apply Kd.R_drew)); exact HO_5.out) gb408 (Nat.le_of_eq hg.symm)) hb); have n1_ := Aside0.mk (below_step (by repeat (first | (with_reducible first | exact HB.out | apply below_alloc | apply pw_below_drewN | apply below_drew1) | exact HB.out)) hb); have n2_ := Aside0.mk (hbox); have n3_ := Aside0.mk ((by rw [hg]; exact (below_size (by repeat (first | (with_reducible first | exact HB.out | apply below_alloc | apply pw_below_drewN | apply below_drew1) | exact HB.out))) : w.heap.size ≤ gb408)); have n4_ := Aside0.mk ((by rw [hg]; exact (below_size (by repeat (first | (with_reducible first | exact HB.out | apply below_alloc | apply pw_below_drewN | apply below_drew1) | exact HB.out))) : w.heap.size ≤ gb408)); clear HO_5; clear HB; have HO_5 := n0_; have HB := n1_; have BK408 := n2_; have GW408 := n3_; have GE408 := n4_; clear n0_ n1_ n2_ n3_ n4_; clear hb hbox hg; have hcz9_0 : w8.cell? ⟨gb408, 0, none⟩ = some (.int .i64 0) := (blk_cell BK408.out 0).trans rfl; have hcz9_1 : w8.cell? ⟨gb408, 1, none⟩ = some (.int .i64 0) := (blk_cell BK408.out 1).trans rfl; have hfz9_0 := blk_frozen BK408.out 0; have hfz9_1 := blk_frozen BK408.out 1) | ((with_reducible refine gate_callee (f := 65) rfl ?_); refine goesL_ (some 17) rfl rfl Try.func65 (by kernel_rfl) rfl #[.agg #[.int .i64 ((rd_T41 l0 x10_1).f0), .int .i64 ((rd_T41 l0 x10_1).f1)], .int .i64 a1] rfl (by (try simp only [List.map_toArray, List.map_cons, List.map_nil]); first | done | rfl | (simp only [List.length_drop, List.length_take]; rfl)) ?_; (with_reducible refine (impl_carry.calls k1 ((rd_T41 l0 x10_1).f0) ((rd_T41 l0 x10_1).f1) a1 t409 t410 _ A6.out).mono ?_); rintro e w10 ⟨rfl, hb⟩; refine ⟨_, rfl, ?_⟩; have n0_ := Aside0.mk (Kd.R_below (by (with_reducible repeat (first | apply Kd.R_alloc | apply Kd.R_drewN | apply Kd.R_drew)); exact (Kd.R_mono (Kd.R_far (p := ⟨gb408, 1, none⟩) (Kd.R_far (p := ⟨gb408, 0, none⟩) (Kd.R_mono HO_5.out (fun k_ hk => (⟨hk, hk.2⟩ : _ ∧ k_ ≠ gb408))) (fun _ hk => hk.2) (.int .i64 ((rd_T41 l0 x10_1).f0))) (fun _ hk => hk.2) (.int .i64 ((rd_T41 l0 x10_1).f1))) (fun _ h_ => h_.1))) hb); have n1_ := Aside0.mk (blk_below (g := gb408) (o := .cells #[.int .i64 ((rd_T41 l0 x10_1).f0), .int .i64 ((rd_T41 l0 x10_1).f1)] 41 (0, 0)) (by (with_reducible repeat (first | refine blk_drewN ?_ _ | refine blk_drew ?_ | refine blk_alloc ?_ _)); refine blk_put (cs := #[.int .i64 ((rd_T41 l0 x10_1).f0), .int .i64 0]) ?_ 1 _ rfl; (with_reducible repeat (first | refine blk_drewN ?_ _ | refine blk_drew ?_ | refine blk_alloc ?_ _)); refine blk_put (cs := #[.int .i64 0, .int .i64 0]) ?_ 0 _ rfl; (with_reducible repeat (first | refine blk_drewN ?_ _ | refine blk_drew ?_ | refine blk_alloc ?_ _)); exact BK408.out) hb); have n2_ := Aside0.mk (below_step (by repeat (first | (with_reducible first | exact HB.out | apply below_alloc | apply pw_below_drewN | apply below_drew1 | refine below_set ?_ GE408.out) | exact HB.out)) hb); clear HO_5; clear BK408; clear HB; have HO_5 := n0_; have BK408 := n1_; have HB := n2_; clear n0_ n1_ n2_; (try clear hb); (try clear hb2); (try clear hk); (try clear hi)) | ((with_reducible refine gate_builtin (b := .append) (xs := #[.tmp 14, .tmp 18]) rfl ?_); at_builtin; refine Kd.R_append k41 (w0 := w) w.heap.size rfl (.tmp 14) (.tmp 18) 24 41 (.agg #[(.int .i64 0), (.int .i64 0)]) 16 rfl Try.underlying24 info41 rfl (by decide) (by omega) u5 x5_1 (⟨t409, t410⟩ : S41) [.int .i64 t409, .int .i64 t410] (fun k_ => k_ ≠ gb408) (fun _ => False) rfl rfl ?aP (fun _ hk => hk.elim) ?aF ?aO ?aB ?aS ?aL ?_; (case aP => exact k41_mkM _ _ _ (⟨t409, t410⟩ : S41)); (case aB => exact (by repeat (first | (with_reducible first | exact HB.out | apply below_alloc | apply pw_below_drewN | apply below_drew1 | refine below_set ?_ GE408.out) | exact HB.out))); (case aF => exact (fun k_ hk => Kd.freshB (g := gb408) (o := .cells #[.int .i64 ((rd_T41 l0 x10_1).f0), .int .i64 ((rd_T41 l0 x10_1).f1)] 41 (0, 0)) (by (with_reducible repeat (first | refine blk_drewN ?_ _ | refine blk_drew ?_ | refine blk_alloc ?_ _)); exact BK408.out) k_ hk)); (case aO => exact (by (with_reducible repeat (first | apply Kd.R_alloc | apply Kd.R_drewN | apply Kd.R_drew)); exact Kd.R_mono HO_5.out (fun _ hk => hk.2))); (case aS => exact (below_size (by repeat (first | (with_reducible first | exact HB.out | apply below_alloc | apply pw_below_drewN | apply below_drew1 | refine below_set ?_ GE408.out) | exact HB.out)))); (case aL => have := LMc7.out; omega); intro v412 w11 ho hb hg hat; rw [← Ny411.out] at ho; have n0_ := Aside0.mk (blk_grown (g := gb408) (o := .cells #[.int .i64 ((rd_T41 l0 x10_1).f0), .int .i64 ((rd_T41 l0 x10_1).f1)] 41 (0, 0)) (by (with_reducible repeat (first | refine blk_drewN ?_ _ | refine blk_drew ?_ | refine blk_alloc ?_ _)); exact BK408.out) hg (Kd.R_away HO_5.out (fun _ hk => hk.2))); have n1_ := Aside0.mk (hb); have n2_ := Aside0.mk (ho); clear BK408; clear HB; clear HO_5; have BK408 := n0_; have HB := n1_; have HO413 := n2_; clear n0_ n1_ n2_; clear ho hb hg hat))
              go_roundg k1
              case measure => have := HK1.out; omega
              case rel => exact ⟨(y411), (wrap64 (x10_1 + 1)), (by first | rfl | (simp; done) | (simp [*]; done)), H', ⟨by have := HK1.out; omega⟩, ⟨by (with_reducible repeat (first | apply Kd.R_alloc | apply Kd.R_drewN | apply Kd.R_drew)); exact Kd.R_mono HO413.out (fun _ hk => trivial)⟩, ⟨by repeat (first | (with_reducible first | exact HB.out | apply below_alloc | apply pw_below_drewN | apply below_drew1 | refine below_set ?_ GE408.out) | exact HB.out)⟩⟩
            · rw [if_neg c7] at H
              exact absurd H (by simp)
          · rw [if_neg c5] at H
            exact absurd H (by simp)
        · rw [if_neg c4] at H
          exact absurd H (by simp)
      · rw [if_neg c3] at H
        have c3b0 : decide (x10_1 < (l0.length : Int)) = false := decide_eq_false c3
        clear c3
        replace H := Option.bind_eq_some_iff.mp H
        obtain ⟨t414, A120, H⟩ := H
        replace H : (some t414) = some r := H
        have A12 := Aside0.mk A120
        clear A120
        obtain rfl := Option.some.inj H
        obtain ⟨Ao13, co13, eo13⟩ := Kd.R_slice HO_5.out
        subst eo13
        go_wp2_with (first | ((with_reducible refine gate_callee (f := 55) rfl ?_); refine goesL_ (some 22) rfl rfl Try.func55 (by kernel_rfl) rfl #[.slice Ao13 x5_1.length co13] rfl (by (try simp only [List.map_toArray, List.map_cons, List.map_nil]); first | done | rfl | (simp only [List.length_drop, List.length_take]; rfl)) ?_; (with_reducible refine (impl_corner.calls k1 _ _ x5_1 t414 _ ?side1 ?side2 A12.out).mono ?_); (case side1 => repeat (first | exact (Kd.R_reads' HO_5.out).2.2 | (with_reducible refine Kd.C_alloc ?_ _) | (with_reducible refine Kd.C_drewN ?_ _) | (with_reducible refine Kd.C_drew ?_))); (case side2 => exact (Kd.R_reads' HO_5.out).2.1); rintro e w14 ⟨v415, rfl, ho0, hb⟩; refine ⟨_, rfl, ?_⟩; have n0_ := Aside0.mk (Kd.R_elder' (by (with_reducible repeat (first | apply Kd.R_alloc | apply Kd.R_drewN | apply Kd.R_drew)); exact HO_5.out) (Kd.R_base ho0) hb); have n1_ := Aside0.mk (Kd.R_lower (Kd.R_new' ho0 (Kd.R_lt (by (with_reducible repeat (first | apply Kd.R_alloc | apply Kd.R_drewN | apply Kd.R_drew)); exact HO_5.out))) (below_size (by repeat (first | (with_reducible first | exact HB.out | apply below_alloc | apply pw_below_drewN | apply below_drew1) | exact HB.out)))); have n2_ := Aside0.mk (below_step (by repeat (first | (with_reducible first | exact HB.out | apply below_alloc | apply pw_below_drewN | apply below_drew1) | exact HB.out)) hb); clear HO_5; clear HB; have HO_5 := n0_; have HO416 := n1_; have HB := n2_; clear n0_ n1_ n2_; (try clear hb); (try clear hb2); (try clear hk); (try clear hi); (try clear ho0)))
        go_ret
        exact ⟨_, by first | rfl | (simp [errW_none, errW_some] <;> rfl) | (simp [*, errW_none, errW_some] <;> rfl), by (with_reducible repeat (first | apply Kd.R_alloc | apply Kd.R_drewN | apply Kd.R_drew)); exact Kd.R_mono HO416.out (fun _ hk => trivial), by repeat (first | (with_reducible first | exact HB.out | apply below_alloc | apply pw_below_drewN | apply below_drew1) | exact HB.out)⟩
end Go.Proofs.Ytlohfeicfhmlmaa.PFnOutlines

namespace Go.Proofs.Ytlohfeicfhmlmaa.PFnOutlines
open Go.RowKit Go.Proofs.YtlohfeicfhmlmaaW.PrintWords Go.Proofs.YtlohfeicfhmlmaaW.PrintLast Go.Proofs.YtlohfeicfhmlmaaW.PrintMore
attribute [local go_sem] max2_int min2_int max_two min_two max_three min_three max_four min_four   -- for this text's walks alone
set_option linter.unusedVariables false
set_option linter.unusedSimpArgs false
mutual
def spec_l3Apply.j0 : Nat → Int → Int → Int → Option (Int × Int)
  | 0, _, _, _ => none
  | k + 1, x1, x439000, x439001 => spec_l3Apply.l0 k x1 0 x439000 x439001
def spec_l3Apply.l0 : Nat → Int → Int → Int → Int → Option (Int × Int)
  | 0, _, _, _, _ => none
  | k + 1, x1, x5, x439000, x439001 => if x5 < (Int.tmod x1 4) then (spec_l3Apply.l0 k x1 (wrap64 (x5 + 1)) (wrap64 (-x439001)) x439000) else (some (x439000, x439001))
end
def spec_l3Apply.f (k : Nat) (a0_0 : Int) (a0_1 : Int) (a1 : Int) : Option (Int × Int) := if a1 ≥ 4 then (spec_l3Apply.j0 k a1 (wrap64 (-a0_0)) a0_1) else (spec_l3Apply.j0 k a1 a0_0 a0_1)
theorem spec_l3Apply.mono_l : ∀ k, (∀ y0 y1 y2, LeO (spec_l3Apply.j0 k y0 y1 y2) (spec_l3Apply.j0 (k + 1) y0 y1 y2)) ∧ (∀ y0 y1 y2 y3, LeO (spec_l3Apply.l0 k y0 y1 y2 y3) (spec_l3Apply.l0 (k + 1) y0 y1 y2 y3))
  | 0 => ⟨fun _ _ _ r h => by simp [spec_l3Apply.j0] at h, fun _ _ _ _ r h => by simp [spec_l3Apply.l0] at h⟩
  | k + 1 => by
    obtain ⟨ih0, ih1⟩ := spec_l3Apply.mono_l k
    refine ⟨?_, ?_⟩
    · intro y0 y1 y2
      unfold spec_l3Apply.j0
      repeat' first
      | (with_reducible exact ih0 _ _ _)
      | (with_reducible exact ih1 _ _ _ _)
      | (with_reducible exact LeO.refl _)
      | (with_reducible exact LeO.none _)
      | (with_reducible refine LeO.ite ?_ ?_)
      | (with_reducible refine LeO.bind ?_ (fun _ => ?_))
      | exact ih0 _ _ _
      | exact ih1 _ _ _ _
      | exact LeO.none _
      | refine LeO.ite ?_ ?_
      | refine LeO.bind ?_ (fun _ => ?_)
    · intro y0 y1 y2 y3
      unfold spec_l3Apply.l0
      repeat' first
      | (with_reducible exact ih0 _ _ _)
      | (with_reducible exact ih1 _ _ _ _)
      | (with_reducible exact LeO.refl _)
      | (with_reducible exact LeO.none _)
      | (with_reducible refine LeO.ite ?_ ?_)
      | (with_reducible refine LeO.bind ?_ (fun _ => ?_))
      | exact ih0 _ _ _
      | exact ih1 _ _ _ _
      | exact LeO.none _
      | refine LeO.ite ?_ ?_
      | refine LeO.bind ?_ (fun _ => ?_)
theorem spec_l3Apply.mono : ∀ a0 a1 a2 k, LeO (spec_l3Apply.f k a0 a1 a2) (spec_l3Apply.f (k + 1) a0 a1 a2) := by
  intro a0 a1 a2 k
  obtain ⟨ih0, ih1⟩ := spec_l3Apply.mono_l k
  unfold spec_l3Apply.f
  repeat' first
      | (with_reducible exact ih0 _ _ _)
      | (with_reducible exact ih1 _ _ _ _)
      | (with_reducible exact LeO.refl _)
      | (with_reducible exact LeO.none _)
      | (with_reducible refine LeO.ite ?_ ?_)
      | (with_reducible refine LeO.bind ?_ (fun _ => ?_))
      | exact ih0 _ _ _
      | exact ih1 _ _ _ _
      | exact LeO.none _
      | refine LeO.ite ?_ ?_
      | refine LeO.bind ?_ (fun _ => ?_)
set_option maxHeartbeats 8000000 in
set_option maxRecDepth 100000 in
theorem spec_l3Apply.calls (k : Nat) (a0_0 : Int) (a0_1 : Int) (a1 : Int) (r1 : Int) (r2 : Int) (w : World) (h : spec_l3Apply.f k a0_0 a0_1 a1 = some (r1, r2)) :
    Calls Try.prog 66 #[.agg #[.int .i64 a0_0, .int .i64 a0_1], .int .i64 a1] w fun e w' => e = .returned (.agg #[.int .i64 r1, .int .i64 r2]) ∧ Below w.heap.size w w' := by
  have hu41 := Try.underlying41
  have HB := Aside0.mk (Below.refl w.heap.size w)
  have H : (if a1 ≥ 4 then (spec_l3Apply.j0 k a1 (wrap64 (-a0_0)) a0_1) else (spec_l3Apply.j0 k a1 a0_0 a0_1)) = some (r1, r2) := h
  clear h
  have HC3 := Aside0.mk H
  clear H
  go_enter Try.func66, Try.ntmps66
  go_upto_if 7 with (first | ((with_reducible refine gate_dst (N := 2) rfl ?_); refine box_event ?hg (N := 2) ?hd (cs := #[.int .i64 a0_0, .int .i64 a0_1]) (t := 41) ?hr ?_; (case hd => rfl); (case hg => rfl); (case hr => first | (go_simp; done) | (go_simp; rfl)); intro gb438 hg w4 hbox hb; have n0_ := Aside0.mk (below_step (by repeat (first | (with_reducible first | exact HB.out | apply below_alloc | apply pw_below_drewN | apply below_drew1) | exact HB.out)) hb); have n1_ := Aside0.mk (hbox); have n2_ := Aside0.mk ((by rw [hg]; exact (below_size (by repeat (first | (with_reducible first | exact HB.out | apply below_alloc | apply pw_below_drewN | apply below_drew1) | exact HB.out))) : w.heap.size ≤ gb438)); have n3_ := Aside0.mk ((by rw [hg]; exact (below_size (by repeat (first | (with_reducible first | exact HB.out | apply below_alloc | apply pw_below_drewN | apply below_drew1) | exact HB.out))) : w.heap.size ≤ gb438)); clear HB; have HB := n0_; have BK438 := n1_; have GW438 := n2_; have GE438 := n3_; clear n0_ n1_ n2_ n3_; clear hb hbox hg) | ((with_reducible refine gate_dst (N := 4) rfl ?_); refine box_event ?hg (N := 4) ?hd (cs := #[.int .i64 0, .int .i64 0]) (t := 41) ?hr ?_; (case hd => rfl); (case hg => rfl); (case hr => first | (go_simp; done) | (go_simp; rfl)); intro gb439 hg w5 hbox hb; have n0_ := Aside0.mk (blk_below (g := gb438) (o := .cells #[.int .i64 a0_0, .int .i64 a0_1] 41 (0, 0)) (by (with_reducible repeat (first | refine blk_drewN ?_ _ | refine blk_drew ?_ | refine blk_alloc ?_ _)); exact BK438.out) hb); have n1_ := Aside0.mk (below_step (by repeat (first | (with_reducible first | exact HB.out | apply below_alloc | apply pw_below_drewN | apply below_drew1 | refine below_set ?_ GE438.out) | exact HB.out)) hb); have n2_ := Aside0.mk (hbox); have n3_ := Aside0.mk ((by rw [hg]; exact (below_size (by repeat (first | (with_reducible first | exact HB.out | apply below_alloc | apply pw_below_drewN | apply below_drew1 | refine below_set ?_ GE438.out) | exact HB.out))) : w.heap.size ≤ gb439)); have n4_ := Aside0.mk ((by rw [hg]; exact (below_size (by repeat (first | (with_reducible first | exact HB.out | apply below_alloc | apply pw_below_drewN | apply below_drew1 | refine below_set ?_ GE438.out) | exact HB.out))) : w.heap.size ≤ gb439)); have n5_ := Aside0.mk ((by rw [hg]; exact Nat.ne_of_lt (blk_lt (g := gb438) (o := .cells #[.int .i64 a0_0, .int .i64 a0_1] 41 (0, 0)) (by (with_reducible repeat (first | refine blk_drewN ?_ _ | refine blk_drew ?_ | refine blk_alloc ?_ _)); exact BK438.out)) : gb438 ≠ gb439)); have n6_ := Aside0.mk ((by rw [hg]; exact Nat.ne_of_gt (blk_lt (g := gb438) (o := .cells #[.int .i64 a0_0, .int .i64 a0_1] 41 (0, 0)) (by (with_reducible repeat (first | refine blk_drewN ?_ _ | refine blk_drew ?_ | refine blk_alloc ?_ _)); exact BK438.out)) : gb439 ≠ gb438)); clear BK438; clear HB; have BK438 := n0_; have HB := n1_; have BK439 := n2_; have GW439 := n3_; have GE439 := n4_; have NB438_439 := n5_; have NB439_438 := n6_; clear n0_ n1_ n2_ n3_ n4_ n5_ n6_; clear hb hbox hg))
  (try simp only [Act.put, List.setIfInBounds_toArray, List.set_cons_zero, List.set_cons_succ])
  go_cut [] (fun wc => ∃ (kq : Nat) (x439000_2 : Int), Aside0 (spec_l3Apply.j0 kq a1 x439000_2 a0_1 = some (r1, r2)) ∧ Aside0 (kq ≤ k) ∧ Aside0 (wc.heap[gb438]? = some (.cells #[.int .i64 x439000_2, .int .i64 a0_1] 41 (0, 0))) ∧ Aside0 (wc.heap[gb439]? = some (.cells #[.int .i64 0, .int .i64 0] 41 (0, 0))) ∧ Aside0 (Below w.heap.size w wc))
  case first =>
    have H := HC3.out
    clear HC3
    by_cases c6 : a1 ≥ 4
    · rw [if_pos c6] at H
      have c6b0 : decide (4 ≤ a1) = true := decide_eq_true c6
      clear c6
      (first | rw [c6b0] | (simp only [i64_w, i32_w]; rw [c6b0]) | skip)
      have H' := Aside0.mk H
      clear H
      have hnb7 := NB438_439.out
      have hnc7 := NB439_438.out
      have hcz8_0 : w5.cell? ⟨gb438, 0, none⟩ = some (.int .i64 a0_0) := (blk_cell BK438.out 0).trans rfl
      have hcz8_1 : w5.cell? ⟨gb438, 1, none⟩ = some (.int .i64 a0_1) := (blk_cell BK438.out 1).trans rfl
      have hfz8_0 := blk_frozen BK438.out 0
      have hfz8_1 := blk_frozen BK438.out 1
      go_wp2
      go_meet
      case rel => exact ⟨_, (wrap64 (-a0_0)), H', ⟨by first | omega | exact Nat.le_refl _⟩, ⟨by (with_reducible repeat (first | refine blk_drewN ?_ _ | refine blk_drew ?_ | refine blk_alloc ?_ _)); refine blk_put (cs := #[.int .i64 a0_0, .int .i64 a0_1]) ?_ 0 _ rfl; (with_reducible repeat (first | refine blk_drewN ?_ _ | refine blk_drew ?_ | refine blk_alloc ?_ _)); exact BK438.out⟩, ⟨by (with_reducible repeat (first | refine blk_drewN ?_ _ | refine blk_drew ?_ | refine blk_alloc ?_ _)); refine blk_far ?_ NB439_438.out _; (with_reducible repeat (first | refine blk_drewN ?_ _ | refine blk_drew ?_ | refine blk_alloc ?_ _)); exact BK439.out⟩, ⟨by repeat (first | (with_reducible first | exact HB.out | apply below_alloc | apply pw_below_drewN | apply below_drew1 | refine below_set ?_ GE438.out | refine below_set ?_ GE439.out) | exact HB.out)⟩⟩
    · rw [if_neg c6] at H
      have c6b0 : decide (4 ≤ a1) = false := decide_eq_false c6
      clear c6
      (first | rw [c6b0] | (simp only [i64_w, i32_w]; rw [c6b0]) | skip)
      have H' := Aside0.mk H
      clear H
      go_wp2
      go_meet
      case rel => exact ⟨_, (a0_0), H', ⟨by first | omega | exact Nat.le_refl _⟩, ⟨by (with_reducible repeat (first | refine blk_drewN ?_ _ | refine blk_drew ?_ | refine blk_alloc ?_ _)); exact BK438.out⟩, ⟨by (with_reducible repeat (first | refine blk_drewN ?_ _ | refine blk_drew ?_ | refine blk_alloc ?_ _)); exact BK439.out⟩, ⟨by repeat (first | (with_reducible first | exact HB.out | apply below_alloc | apply pw_below_drewN | apply below_drew1 | refine below_set ?_ GE438.out | refine below_set ?_ GE439.out) | exact HB.out)⟩⟩
  case rest =>
    clear HC3
    try clear p2
    try clear c6
    try clear c6b0
    try clear p6
    try clear c7
    try clear hcz8_0
    try clear hcz8_1
    try clear hfz8_0
    try clear hfz8_1
    obtain ⟨kq, x439000_2, HA, HJ2, BK438, BK439, HB⟩ := hcut
    cases kq with
    | zero => exact absurd HA.out (by simp [spec_l3Apply.j0])
    | succ kj2 =>
      have H := HA.out
      clear HA
      simp only [spec_l3Apply.j0] at H
      have H' := Aside0.mk H
      clear H
      go_wp2
      go_loopg [5] kj2 (fun kq v5 w' => ∃ (x5_2 : Int) (x439000_2 : Int) (x439001_2 : Int), v5 = .int .i64 x5_2 ∧ Aside0 (spec_l3Apply.l0 kq a1 x5_2 x439000_2 x439001_2 = some (r1, r2)) ∧ Aside0 (kq ≤ kj2) ∧ Aside0 (w'.heap[gb438]? = some (.cells #[.int .i64 x439000_2, .int .i64 x439001_2] 41 (0, 0))) ∧ Aside0 (w'.heap[gb439]? = some (.cells #[.int .i64 0, .int .i64 0] 41 (0, 0))) ∧ Aside0 (Below w.heap.size w w'))
      case atStart => exact ⟨(0), (x439000_2), (a0_1), (by first | rfl | (simp; done) | (simp [*]; done)), H', ⟨Nat.le_refl _⟩, ⟨by (with_reducible repeat (first | refine blk_drewN ?_ _ | refine blk_drew ?_ | refine blk_alloc ?_ _)); exact BK438.out⟩, ⟨by (with_reducible repeat (first | refine blk_drewN ?_ _ | refine blk_drew ?_ | refine blk_alloc ?_ _)); exact BK439.out⟩, ⟨by repeat (first | (with_reducible first | exact HB.out | apply below_alloc | apply pw_below_drewN | apply below_drew1 | refine below_set ?_ GE438.out | refine below_set ?_ GE439.out) | exact HB.out)⟩⟩
      case round =>
        clear H'
        try clear p2
        try clear c6
        try clear c6b0
        try clear p6
        try clear c7
        try clear hcz8_0
        try clear hcz8_1
        try clear hfz8_0
        try clear hfz8_1
        try clear p2
        try clear p6
        obtain ⟨x5_2, x439000_2, x439001_2, rfl, HA, HK2, BK438, BK439, HB⟩ := hrel
        cases gk with
        | zero => exact absurd HA.out (by simp [spec_l3Apply.l0])
        | succ k2 =>
          have H := HA.out
          clear HA
          simp only [spec_l3Apply.l0] at H
          by_cases c9 : x5_2 < (Int.tmod a1 4)
          · rw [if_pos c9] at H
            have c9b0 : decide (x5_2 < (Int.tmod a1 4)) = true := decide_eq_true c9
            clear c9
            have H' := Aside0.mk H
            clear H
            have hnb10 := NB438_439.out
            have hnc10 := NB439_438.out
            have hcz11_0 : wr.cell? ⟨gb438, 0, none⟩ = some (.int .i64 x439000_2) := (blk_cell BK438.out 0).trans rfl
            have hcz11_1 : wr.cell? ⟨gb438, 1, none⟩ = some (.int .i64 x439001_2) := (blk_cell BK438.out 1).trans rfl
            have hfz11_0 := blk_frozen BK438.out 0
            have hfz11_1 := blk_frozen BK438.out 1
            go_wp2
            go_roundg k2
            case measure => have := HJ2.out; have := HK2.out; omega
            case rel => exact ⟨(wrap64 (x5_2 + 1)), (wrap64 (-x439001_2)), (x439000_2), (by first | rfl | (simp; done) | (simp [*]; done)), H', ⟨by have := HJ2.out; have := HK2.out; omega⟩, ⟨by (with_reducible repeat (first | refine blk_drewN ?_ _ | refine blk_drew ?_ | refine blk_alloc ?_ _)); refine blk_put (cs := #[.int .i64 (wrap64 (-x439001_2)), .int .i64 x439001_2]) ?_ 1 _ rfl; (with_reducible repeat (first | refine blk_drewN ?_ _ | refine blk_drew ?_ | refine blk_alloc ?_ _)); refine blk_put (cs := #[.int .i64 x439000_2, .int .i64 x439001_2]) ?_ 0 _ rfl; (with_reducible repeat (first | refine blk_drewN ?_ _ | refine blk_drew ?_ | refine blk_alloc ?_ _)); exact BK438.out⟩, ⟨by (with_reducible repeat (first | refine blk_drewN ?_ _ | refine blk_drew ?_ | refine blk_alloc ?_ _)); refine blk_far ?_ NB439_438.out _; (with_reducible repeat (first | refine blk_drewN ?_ _ | refine blk_drew ?_ | refine blk_alloc ?_ _)); refine blk_far ?_ NB439_438.out _; (with_reducible repeat (first | refine blk_drewN ?_ _ | refine blk_drew ?_ | refine blk_alloc ?_ _)); exact BK439.out⟩, ⟨by repeat (first | (with_reducible first | exact HB.out | apply below_alloc | apply pw_below_drewN | apply below_drew1 | refine below_set ?_ GE438.out | refine below_set ?_ GE439.out) | exact HB.out)⟩⟩
          · rw [if_neg c9] at H
            have c9b0 : decide (x5_2 < (Int.tmod a1 4)) = false := decide_eq_false c9
            clear c9
            simp only [Option.some.injEq, Prod.mk.injEq] at H
            obtain ⟨rfl, rfl⟩ := H
            have hnb12 := NB438_439.out
            have hnc12 := NB439_438.out
            have hcz13_0 : wr.cell? ⟨gb438, 0, none⟩ = some (.int .i64 x439000_2) := (blk_cell BK438.out 0).trans rfl
            have hcz13_1 : wr.cell? ⟨gb438, 1, none⟩ = some (.int .i64 x439001_2) := (blk_cell BK438.out 1).trans rfl
            have hfz13_0 := blk_frozen BK438.out 0
            have hfz13_1 := blk_frozen BK438.out 1
            have hcz14_0 : wr.cell? ⟨gb439, 0, none⟩ = some (.int .i64 0) := (blk_cell BK439.out 0).trans rfl
            have hcz14_1 : wr.cell? ⟨gb439, 1, none⟩ = some (.int .i64 0) := (blk_cell BK439.out 1).trans rfl
            have hfz14_0 := blk_frozen BK439.out 0
            have hfz14_1 := blk_frozen BK439.out 1
            go_wp2
            refine bodyPost_ret (results_cell_row rfl _ _ gb439 41 #[.int .i64 x439000_2, .int .i64 x439001_2] (0, 0) _ rfl (by (with_reducible repeat (first | refine blk_drewN ?_ _ | refine blk_drew ?_ | refine blk_alloc ?_ _)); refine blk_put (cs := #[.int .i64 x439000_2, .int .i64 0]) ?_ 1 _ rfl; (with_reducible repeat (first | refine blk_drewN ?_ _ | refine blk_drew ?_ | refine blk_alloc ?_ _)); refine blk_put (cs := #[.int .i64 0, .int .i64 0]) ?_ 0 _ rfl; (with_reducible repeat (first | refine blk_drewN ?_ _ | refine blk_drew ?_ | refine blk_alloc ?_ _)); exact BK439.out) Try.underlying41 rfl (by kernel_rfl)) rfl ?_
            exact ⟨by first | rfl | (simp [errW_none, errW_some] <;> rfl) | (simp [*, errW_none, errW_some] <;> rfl), by repeat (first | (with_reducible first | exact HB.out | apply below_alloc | apply pw_below_drewN | apply below_drew1 | refine below_set ?_ GE438.out | refine below_set ?_ GE439.out) | exact HB.out)⟩
def spec_SortCells.f (l0 : List (S41)) : Option ((List (S41))) := if l0.length ≤ 1000 then some (srt l0) else none
theorem spec_SortCells.calls (A0 : Option Addr) (c0 : Nat) (l0 : List (S41)) (r : List (S41)) (w : World) (hr0 : Kd.C k41 w A0 l0.length l0) (hc0 : l0.length ≤ c0) (h : spec_SortCells.f l0 = some r) :
    Calls Try.prog 67 #[.slice A0 l0.length c0] w fun e w' => ∃ v0_ : Value, e = .returned (v0_) ∧ Kd.R k41 41 w' w.heap.size (fun _ => True) v0_ r ∧ Below w.heap.size w w' := by
  unfold spec_SortCells.f at h
  split at h
  · rename_i hl
    cases h
    exact sSort A0 c0 l0 w hr0 hc0 hl
  · cases h
def spec_l3Turn.l0 : Nat → List (S41) → Int → List (S41) → Int → Option ((List (S41)))
  | 0, _, _, _, _ => none
  | k + 1, x0, x1, x5, x6 => if x6 < (x0.length : Int) then (if 0 ≤ x6 then ((spec_l3Apply.f k ((rd_T41 x0 x6).f0) ((rd_T41 x0 x6).f1) x1).bind fun bt444 => (if x5.length < 8796093022208 then (spec_l3Turn.l0 k x0 x1 (x5 ++ [(⟨bt444.1, bt444.2⟩ : S41)]) (wrap64 (x6 + 1))) else (none))) else (none)) else ((spec_SortCells.f x5).bind fun t449 => ((spec_l2Corner.f k t449).bind fun t452 => (some t452)))
def spec_l3Turn.f (k : Nat) (l0 : List (S41)) (a1 : Int) : Option ((List (S41))) := spec_l3Turn.l0 k l0 a1 (([] : List (S41))) 0
theorem spec_l3Turn.mono_l : ∀ k, (∀ y0 y1 y2 y3, LeO (spec_l3Turn.l0 k y0 y1 y2 y3) (spec_l3Turn.l0 (k + 1) y0 y1 y2 y3))
  | 0 => fun _ _ _ _ r h => by simp [spec_l3Turn.l0] at h
  | k + 1 => by
    have ih0 := spec_l3Turn.mono_l k
    · intro y0 y1 y2 y3
      unfold spec_l3Turn.l0
      repeat' first
      | (with_reducible exact ih0 _ _ _ _)
      | (with_reducible exact spec_l2Corner.mono _ _)
      | (with_reducible exact spec_l3Apply.mono _ _ _ _)
      | (with_reducible exact LeO.refl _)
      | (with_reducible exact LeO.none _)
      | (with_reducible refine LeO.ite ?_ ?_)
      | (with_reducible refine LeO.bind ?_ (fun _ => ?_))
      | exact ih0 _ _ _ _
      | exact spec_l2Corner.mono _ _
      | exact spec_l3Apply.mono _ _ _ _
      | exact LeO.none _
      | refine LeO.ite ?_ ?_
      | refine LeO.bind ?_ (fun _ => ?_)
theorem spec_l3Turn.mono : ∀ a0 a1 k, LeO (spec_l3Turn.f k a0 a1) (spec_l3Turn.f (k + 1) a0 a1) := by
  intro a0 a1 k
  have ih0 := spec_l3Turn.mono_l k
  unfold spec_l3Turn.f
  repeat' first
      | (with_reducible exact ih0 _ _ _ _)
      | (with_reducible exact spec_l2Corner.mono _ _)
      | (with_reducible exact spec_l3Apply.mono _ _ _ _)
      | (with_reducible exact LeO.refl _)
      | (with_reducible exact LeO.none _)
      | (with_reducible refine LeO.ite ?_ ?_)
      | (with_reducible refine LeO.bind ?_ (fun _ => ?_))
      | exact ih0 _ _ _ _
      | exact spec_l2Corner.mono _ _
      | exact spec_l3Apply.mono _ _ _ _
      | exact LeO.none _
      | refine LeO.ite ?_ ?_
      | refine LeO.bind ?_ (fun _ => ?_)
set_option maxHeartbeats 8000000 in
set_option maxRecDepth 100000 in
theorem spec_l3Turn.calls (k : Nat) (A0 : Option Addr) (c0 : Nat) (l0 : List (S41)) (a1 : Int) (r : List (S41)) (w : World) (hr0 : Kd.C k41 w A0 l0.length l0) (hc0 : l0.length ≤ c0) (h : spec_l3Turn.f k l0 a1 = some r) :
    Calls Try.prog 46 #[.slice A0 l0.length c0, .int .i64 a1] w fun e w' => ∃ v0_ : Value, e = .returned (v0_) ∧ Kd.R k41 41 w' w.heap.size (fun _ => True) v0_ r ∧ Below w.heap.size w w' := by
  have hu41 := Try.underlying41
  have HR0 := Aside0.mk hr0
  have HC0 := Aside0.mk hc0
  clear hr0 hc0
  have HB := Aside0.mk (Below.refl w.heap.size w)
  have H : (spec_l3Turn.l0 k l0 a1 (([] : List (S41))) 0) = some r := h
  clear h
  obtain ⟨y440, hy440⟩ : ∃ y_ : List (S41), y_ = (([] : List (S41))) := ⟨_, rfl⟩
  replace H : (spec_l3Turn.l0 k l0 a1 y440 0) = some r := by first | (rw [hy440]; with_reducible exact H) | (have H2_ := (Option.bind_some _ _).symm.trans H; rw [hy440]; with_reducible exact H2_) | (have H2_ := (Option.bind_some _ _).symm.trans H; with_reducible exact H2_) | with_reducible exact H | (rw [hy440]; exact H) | exact H
  have Ny440 := Aside0.mk hy440
  clear hy440
  have H' := Aside0.mk H
  clear H
  go_enter Try.func46, Try.ntmps46
  go_wp2_with (first | ((with_reducible refine gate_dst (N := 7) rfl ?_); refine Kd.R_lit k41 _ 41 ?hg (N := 7) ?hd (xs := ([] : List (S41))) (inner := []) (ok := fun _ => True) (okp := fun _ => True) ?hr ?hp (fun _ hk => hk) trivial (Below.refl _ _) (Nat.le_refl _) (by simp) ?_; (case hd => rfl); (case hg => rfl); (case hr => first | (go_simp; done) | (go_simp; rfl)); (case hp => exact (Reps.none _ _)); intro v441 w3 ho4 hb hg_ hnew_; clear hg_ hnew_; (first | rw [← Ny440.out] at ho4 | (simp only [Int.reduceToNat] at ho4; rw [← Ny440.out] at ho4)); have n0_ := Aside0.mk (Kd.R_lower ho4 (below_size (by repeat (first | (with_reducible first | exact HB.out | apply below_alloc | apply pw_below_drewN | apply below_drew1) | exact HB.out)))); have n1_ := Aside0.mk (below_step (by repeat (first | (with_reducible first | exact HB.out | apply below_alloc | apply pw_below_drewN | apply below_drew1) | exact HB.out)) hb); clear HB; have HO442 := n0_; have HB := n1_; clear n0_ n1_; clear hb ho4))
  go_loopg [5, 6] k (fun kq v5 v6 w' => ∃ (x5_1 : List (S41)) (x6_1 : Int), v6 = .int .i64 x6_1 ∧ Aside0 (spec_l3Turn.l0 kq l0 a1 x5_1 x6_1 = some r) ∧ Aside0 (kq ≤ k) ∧ Aside0 (Kd.R k41 41 w' w.heap.size (fun _ => True) v5 x5_1) ∧ Aside0 (Below w.heap.size w w'))
  case atStart => exact ⟨(y440), (0), (by first | rfl | (simp; done) | (simp [*]; done)), H', ⟨Nat.le_refl _⟩, ⟨by (with_reducible repeat (first | apply Kd.R_alloc | apply Kd.R_drewN | apply Kd.R_drew)); exact HO442.out⟩, ⟨by repeat (first | (with_reducible first | exact HB.out | apply below_alloc | apply pw_below_drewN | apply below_drew1) | exact HB.out)⟩⟩
  case round =>
    clear H'
    try clear p2
    try clear c4
    obtain ⟨x5_1, x6_1, rfl, HA, HK1, HO_5, HB⟩ := hrel
    cases gk with
    | zero => exact absurd HA.out (by simp [spec_l3Turn.l0])
    | succ k1 =>
      have H := HA.out
      clear HA
      simp only [spec_l3Turn.l0] at H
      by_cases c5 : x6_1 < (l0.length : Int)
      · rw [if_pos c5] at H
        have c5b0 : decide (x6_1 < (l0.length : Int)) = true := decide_eq_true c5
        clear c5
        by_cases c6 : 0 ≤ x6_1
        · rw [if_pos c6] at H
          have c6b0 : decide (0 ≤ x6_1) = true := decide_eq_true c6
          clear c6
          replace H := Option.bind_eq_some_iff.mp H
          obtain ⟨⟨t444, t445⟩, A70, H⟩ := H
          replace H : (if x5_1.length < 8796093022208 then (spec_l3Turn.l0 k1 l0 a1 (x5_1 ++ [(⟨t444, t445⟩ : S41)]) (wrap64 (x6_1 + 1))) else (none)) = some r := H
          have A7 := Aside0.mk A70
          clear A70
          by_cases c8 : x5_1.length < 8796093022208
          · rw [if_pos c8] at H
            have LMc8 := Aside0.mk c8
            clear c8
            obtain ⟨y446, hy446⟩ : ∃ y_ : List (S41), y_ = (x5_1 ++ [(⟨t444, t445⟩ : S41)]) := ⟨_, rfl⟩
            replace H : (spec_l3Turn.l0 k1 l0 a1 y446 (wrap64 (x6_1 + 1))) = some r := by first | (rw [hy446]; with_reducible exact H) | (have H2_ := (Option.bind_some _ _).symm.trans H; rw [hy446]; with_reducible exact H2_) | (have H2_ := (Option.bind_some _ _).symm.trans H; with_reducible exact H2_) | with_reducible exact H | (rw [hy446]; exact H) | exact H
            have Ny446 := Aside0.mk hy446
            clear hy446
            have H' := Aside0.mk H
            clear H
            have p443 : 0 ≤ (x6_1 : Int) := of_decide_eq_true (by first | (with_reducible assumption) | assumption)
            have q443 : x6_1 < (l0.length : Int) := of_decide_eq_true (by first | (with_reducible assumption) | assumption)
            obtain ⟨ad443, e443, hx443_0, hx443_1⟩ := at_T41 HR0.out x6_1 p443 q443
            cases e443
            replace hx443_0 := (HB.out.cell (World.block_lt_of_cell? w _ hx443_0)).trans hx443_0
            replace hx443_1 := (HB.out.cell (World.block_lt_of_cell? w _ hx443_1)).trans hx443_1
            replace p443 := eq_true p443
            replace q443 := eq_true q443
            go_wp2_with (first | ((with_reducible refine gate_callee (f := 66) rfl ?_); refine goesL_ (some 20) rfl rfl Try.func66 (by kernel_rfl) rfl #[.agg #[.int .i64 ((rd_T41 l0 x6_1).f0), .int .i64 ((rd_T41 l0 x6_1).f1)], .int .i64 a1] rfl (by (try simp only [List.map_toArray, List.map_cons, List.map_nil]); first | done | rfl | (simp only [List.length_drop, List.length_take]; rfl)) ?_; (with_reducible refine (spec_l3Apply.calls k1 ((rd_T41 l0 x6_1).f0) ((rd_T41 l0 x6_1).f1) a1 t444 t445 _ A7.out).mono ?_); rintro e w9 ⟨rfl, hb⟩; refine ⟨_, rfl, ?_⟩; have n0_ := Aside0.mk (Kd.R_below (by (with_reducible repeat (first | apply Kd.R_alloc | apply Kd.R_drewN | apply Kd.R_drew)); exact HO_5.out) hb); have n1_ := Aside0.mk (below_step (by repeat (first | (with_reducible first | exact HB.out | apply below_alloc | apply pw_below_drewN | apply below_drew1) | exact HB.out)) hb); clear HO_5; clear HB; have HO_5 := n0_; have HB := n1_; clear n0_ n1_; (try clear hb); (try clear hb2); (try clear hk); (try clear hi)) | ((with_reducible refine gate_builtin (b := .append) (xs := #[.tmp 14, .tmp 21]) rfl ?_); at_builtin; refine Kd.R_append k41 (w0 := w) w.heap.size rfl (.tmp 14) (.tmp 21) 24 41 (.agg #[(.int .i64 0), (.int .i64 0)]) 16 rfl Try.underlying24 info41 rfl (by decide) (by omega) u5 x5_1 (⟨t444, t445⟩ : S41) [.int .i64 t444, .int .i64 t445] (fun _ => True) (fun _ => False) rfl rfl ?aP (fun _ hk => hk.elim) ?aF ?aO ?aB ?aS ?aL ?_; (case aP => exact k41_mkM _ _ _ (⟨t444, t445⟩ : S41)); (case aB => exact (by repeat (first | (with_reducible first | exact HB.out | apply below_alloc | apply pw_below_drewN | apply below_drew1) | exact HB.out))); (case aF => exact (fun _ _ => trivial)); (case aO => exact (by (with_reducible repeat (first | apply Kd.R_alloc | apply Kd.R_drewN | apply Kd.R_drew)); exact HO_5.out)); (case aS => exact (below_size (by repeat (first | (with_reducible first | exact HB.out | apply below_alloc | apply pw_below_drewN | apply below_drew1) | exact HB.out)))); (case aL => have := LMc8.out; omega); intro v447 w10 ho hb hg hat; rw [← Ny446.out] at ho; have n0_ := Aside0.mk (hb); have n1_ := Aside0.mk (ho); clear HB; clear HO_5; have HB := n0_; have HO448 := n1_; clear n0_ n1_; clear ho hb hg hat))
            go_roundg k1
            case measure => have := HK1.out; omega
            case rel => exact ⟨(y446), (wrap64 (x6_1 + 1)), (by first | rfl | (simp; done) | (simp [*]; done)), H', ⟨by have := HK1.out; omega⟩, ⟨by (with_reducible repeat (first | apply Kd.R_alloc | apply Kd.R_drewN | apply Kd.R_drew)); exact HO448.out⟩, ⟨by repeat (first | (with_reducible first | exact HB.out | apply below_alloc | apply pw_below_drewN | apply below_drew1) | exact HB.out)⟩⟩
          · rw [if_neg c8] at H
            exact absurd H (by simp)
        · rw [if_neg c6] at H
          exact absurd H (by simp)
      · rw [if_neg c5] at H
        have c5b0 : decide (x6_1 < (l0.length : Int)) = false := decide_eq_false c5
        clear c5
        replace H := Option.bind_eq_some_iff.mp H
        obtain ⟨t449, A110, H⟩ := H
        replace H : ((spec_l2Corner.f k1 t449).bind fun t452 => (some t452)) = some r := H
        have A11 := Aside0.mk A110
        clear A110
        replace H := Option.bind_eq_some_iff.mp H
        obtain ⟨t452, A120, H⟩ := H
        replace H : (some t452) = some r := H
        have A12 := Aside0.mk A120
        clear A120
        obtain rfl := Option.some.inj H
        obtain ⟨Ao13, co13, eo13⟩ := Kd.R_slice HO_5.out
        subst eo13
        go_wp2_with (first | ((with_reducible refine gate_callee (f := 67) rfl ?_); refine goesL_ (some 24) rfl rfl Try.func67 (by kernel_rfl) rfl #[.slice Ao13 x5_1.length co13] rfl (by (try simp only [List.map_toArray, List.map_cons, List.map_nil]); first | done | rfl | (simp only [List.length_drop, List.length_take]; rfl)) ?_; (with_reducible refine (spec_SortCells.calls _ _ x5_1 t449 _ ?side1 ?side2 A11.out).mono ?_); (case side1 => repeat (first | exact (Kd.R_reads' HO_5.out).2.2 | (with_reducible refine Kd.C_alloc ?_ _) | (with_reducible refine Kd.C_drewN ?_ _) | (with_reducible refine Kd.C_drew ?_))); (case side2 => exact (Kd.R_reads' HO_5.out).2.1); rintro e w14 ⟨v450, rfl, ho0, hb⟩; refine ⟨_, rfl, ?_⟩; have n0_ := Aside0.mk (Kd.R_elder' (by (with_reducible repeat (first | apply Kd.R_alloc | apply Kd.R_drewN | apply Kd.R_drew)); exact HO_5.out) (Kd.R_base ho0) hb); have n1_ := Aside0.mk (Kd.R_lower (Kd.R_new' ho0 (Kd.R_lt (by (with_reducible repeat (first | apply Kd.R_alloc | apply Kd.R_drewN | apply Kd.R_drew)); exact HO_5.out))) (below_size (by repeat (first | (with_reducible first | exact HB.out | apply below_alloc | apply pw_below_drewN | apply below_drew1) | exact HB.out)))); have n2_ := Aside0.mk (below_step (by repeat (first | (with_reducible first | exact HB.out | apply below_alloc | apply pw_below_drewN | apply below_drew1) | exact HB.out)) hb); clear HO_5; clear HB; have HO_5 := n0_; have HO451 := n1_; have HB := n2_; clear n0_ n1_ n2_; (try clear hb); (try clear hb2); (try clear hk); (try clear hi); (try clear ho0); obtain ⟨Ao15, co15, eo15⟩ := Kd.R_slice HO451.out; subst eo15) | ((with_reducible refine gate_callee (f := 53) rfl ?_); refine goesL_ (some 25) rfl rfl Try.func53 (by kernel_rfl) rfl #[.slice Ao15 t449.length co15] rfl (by (try simp only [List.map_toArray, List.map_cons, List.map_nil]); first | done | rfl | (simp only [List.length_drop, List.length_take]; rfl)) ?_; (with_reducible refine (spec_l2Corner.calls k1 _ _ t449 t452 _ ?side1 ?side2 A12.out).mono ?_); (case side1 => repeat (first | exact (Kd.R_reads' HO451.out).2.2 | (with_reducible refine Kd.C_alloc ?_ _) | (with_reducible refine Kd.C_drewN ?_ _) | (with_reducible refine Kd.C_drew ?_))); (case side2 => exact (Kd.R_reads' HO451.out).2.1); rintro e w16 ⟨v453, rfl, ho0, hb⟩; refine ⟨_, rfl, ?_⟩; have n0_ := Aside0.mk (Kd.R_elder' (by (with_reducible repeat (first | apply Kd.R_alloc | apply Kd.R_drewN | apply Kd.R_drew)); exact HO_5.out) (Kd.R_base ho0) hb); have n1_ := Aside0.mk (Kd.R_elder' (by (with_reducible repeat (first | apply Kd.R_alloc | apply Kd.R_drewN | apply Kd.R_drew)); exact HO451.out) (Kd.R_base ho0) hb); have n2_ := Aside0.mk (Kd.R_lower (Kd.R_new' (Kd.R_new' ho0 (Kd.R_lt (by (with_reducible repeat (first | apply Kd.R_alloc | apply Kd.R_drewN | apply Kd.R_drew)); exact HO_5.out))) (Kd.R_lt (by (with_reducible repeat (first | apply Kd.R_alloc | apply Kd.R_drewN | apply Kd.R_drew)); exact HO451.out))) (below_size (by repeat (first | (with_reducible first | exact HB.out | apply below_alloc | apply pw_below_drewN | apply below_drew1) | exact HB.out)))); have n3_ := Aside0.mk (below_step (by repeat (first | (with_reducible first | exact HB.out | apply below_alloc | apply pw_below_drewN | apply below_drew1) | exact HB.out)) hb); clear HO_5; clear HO451; clear HB; have HO_5 := n0_; have HO451 := n1_; have HO454 := n2_; have HB := n3_; clear n0_ n1_ n2_ n3_; (try clear hb); (try clear hb2); (try clear hk); (try clear hi); (try clear ho0)))
        go_ret
        exact ⟨_, by first | rfl | (simp [errW_none, errW_some] <;> rfl) | (simp [*, errW_none, errW_some] <;> rfl), by (with_reducible repeat (first | apply Kd.R_alloc | apply Kd.R_drewN | apply Kd.R_drew)); exact Kd.R_mono HO454.out (fun _ hk => trivial), by repeat (first | (with_reducible first | exact HB.out | apply below_alloc | apply pw_below_drewN | apply below_drew1) | exact HB.out)⟩
end Go.Proofs.Ytlohfeicfhmlmaa.PFnOutlines
