import PyProof.Rows.All
import Wide.All
import OpenK.AllK
import Wide.FinOn
import HandS.ForMost
import HandS.Wide
import HandS.Small
import HandS.Style
import HandS.IsInst
import HandS.Defaults
import HandS.Exc
import HandS.ExcOwn
import HandS.WordsExc
import HandS.Conv
import HandS.Codes
import PySem.Challenge.RW_dealtsums_k41_whole_where_deals_part
import KE.KExcSuper
import HandS.ExcInit
import HandS.TryOnly
import HandS.ExcField
import HandS.ExcIs
import HandS.Lambda
import HandS.EndTab
import HandS.CallLocal
import KE.KExcIs
set_option linter.all false
namespace K41
/-! ### the plain law: where two deals part -/
/-- the house of a number -/
def hs (b P s i : Int) : Int := (i + s) / b % P
/-- the block of a number, counted from the block of 0 -/
def blk (b a i : Int) : Int := (i + a) / b
/-- the length of the first run -/
def frun (b s : Int) : Int := b - s % b
/-- what parted answers, of blocks, houses and shifts as they were drawn -/
def prt (b1 P1 s1 b2 P2 s2 : Int) : Option Int :=
  if P1 = 1 ∨ P2 = 1 then
    if P2 = 1 then (if P1 = 1 then none else some (frun b1 s1 + 1)) else some (frun b2 s2 + 1)
  else if frun b1 s1 ≠ frun b2 s2 then some (min (frun b1 s1) (frun b2 s2) + 1)
  else if b1 ≠ b2 then some (frun b1 s1 + min b1 b2 + 1)
  else if P1 ≠ P2 then some (frun b1 s1 + (min P1 P2 - 1) * b1 + 1)
  else none
/-- the law's own look -/
def alk (b1 P1 s1 b2 P2 s2 : Int) : Bool :=
  if P1 = 1 ∨ P2 = 1 then decide (P1 = P2) else decide (b1 = b2) && decide (P1 = P2) && decide (frun b1 s1 = frun b2 s2)

theorem frun_pos {b s : Int} (hb : 1 ≤ b) : 1 ≤ frun b s ∧ frun b s ≤ b := by
  have h1 := Int.emod_nonneg s (show b ≠ 0 by omega)
  have h2 := Int.emod_lt_of_pos s (show 0 < b by omega)
  unfold frun
  omega
theorem hs_blk {b P s i : Int} (hb : 1 ≤ b) : hs b P s i = (blk b (s % b) i + s / b) % P := by
  unfold hs blk
  have e : i + s = i + s % b + s / b * b := by
    have := Int.emod_add_mul_ediv s b
    rw [Int.mul_comm] at this
    omega
  rw [e, Int.add_mul_ediv_right _ _ (show b ≠ 0 by omega)]
/-- together: the blocks are apart by a multiple of the houses -/
theorem tog_iff {b P s i j : Int} (hb : 1 ≤ b) (hP : 1 ≤ P) : hs b P s i = hs b P s j ↔ P ∣ blk b (s % b) i - blk b (s % b) j := by
  rw [hs_blk hb, hs_blk hb]
  generalize blk b (s % b) i = x
  generalize blk b (s % b) j = y
  generalize s / b = z
  rw [Int.emod_eq_emod_iff_emod_sub_eq_zero, show x + z - (y + z) = x - y by omega]
  exact (Int.dvd_iff_emod_eq_zero).symm
theorem blk_of {b s i m : Int} (hb : 1 ≤ b) (h1 : m * b + frun b s - b ≤ i) (h2 : i < m * b + frun b s) : blk b (s % b) i = m := by
  unfold blk
  unfold frun at h1 h2
  have e : i + s % b = (i + s % b - m * b) + m * b := by omega
  rw [e, Int.add_mul_ediv_right _ _ (show b ≠ 0 by omega), Int.ediv_eq_zero_of_lt (by omega) (by omega)]
  omega
theorem blk_zero {b s i : Int} (hb : 1 ≤ b) (h0 : 0 ≤ i) (h : i < frun b s) : blk b (s % b) i = 0 := by
  have := (frun_pos (b := b) (s := s) hb).2
  exact blk_of hb (by omega) (by omega)
theorem blk_one {b s i : Int} (hb : 1 ≤ b) (h0 : frun b s ≤ i) (h : i < frun b s + b) : blk b (s % b) i = 1 := blk_of hb (by omega) (by omega)
theorem blk_two {b s i : Int} (hb : 1 ≤ b) (h0 : frun b s + b ≤ i) (h : i < frun b s + b + b) : blk b (s % b) i = 2 := blk_of hb (by omega) (by omega)
theorem blk_nn {b s i : Int} (hb : 1 ≤ b) (h0 : 0 ≤ i) : 0 ≤ blk b (s % b) i := by
  unfold blk
  exact Int.ediv_nonneg (by have := Int.emod_nonneg s (show b ≠ 0 by omega); omega) (by omega)
theorem blk_le {b s i m : Int} (hb : 1 ≤ b) (h : i < m * b + frun b s) : blk b (s % b) i ≤ m := by
  unfold blk
  unfold frun at h
  have e : i + s % b < (m + 1) * b := by rw [Int.add_mul]; omega
  have := Int.ediv_lt_of_lt_mul (show 0 < b by omega) e
  omega
theorem ndvd_small {P d : Int} (h1 : d ≠ 0) (h2 : -P < d) (h3 : d < P) : ¬ P ∣ d := fun h => by
  obtain ⟨c, rfl⟩ := h
  rcases Int.lt_trichotomy c 0 with hc | hc | hc
  · have : P * c ≤ P * (-1) := Int.mul_le_mul_of_nonneg_left (by omega) (by omega)
    omega
  · subst hc; omega
  · have : P * 1 ≤ P * c := Int.mul_le_mul_of_nonneg_left (by omega) (by omega)
    omega
theorem tog_same {b P s i j : Int} (hb : 1 ≤ b) (hP : 1 ≤ P) (h : blk b (s % b) i = blk b (s % b) j) : hs b P s i = hs b P s j := (tog_iff hb hP).mpr (by rw [h]; exact ⟨0, by omega⟩)
theorem tog_one {b s i j : Int} : hs b 1 s i = hs b 1 s j := by unfold hs; omega
theorem tog_near {b P s i j : Int} (hb : 1 ≤ b) (hP : 1 ≤ P) (hd : blk b (s % b) i - blk b (s % b) j < P) (hd' : -P < blk b (s % b) i - blk b (s % b) j) :
    hs b P s i = hs b P s j ↔ blk b (s % b) i = blk b (s % b) j := by
  refine ⟨fun h => ?_, tog_same hb hP⟩
  have q := (tog_iff hb hP).mp h
  by_cases e : blk b (s % b) i - blk b (s % b) j = 0
  · omega
  · exact (ndvd_small e hd' hd q).elim
/-- what is asked of a number n: it parts there, and not ahead -/
structure Parts (b1 P1 s1 b2 P2 s2 n : Int) : Prop where
  two : 2 ≤ n
  same : ∀ i j, 0 ≤ i → i < n - 1 → 0 ≤ j → j < n - 1 → (hs b1 P1 s1 i = hs b1 P1 s1 j ↔ hs b2 P2 s2 i = hs b2 P2 s2 j)
  last : ¬ (hs b1 P1 s1 0 = hs b1 P1 s1 (n - 1) ↔ hs b2 P2 s2 0 = hs b2 P2 s2 (n - 1)) ∨ ¬ (hs b1 P1 s1 (n - 2) = hs b1 P1 s1 (n - 1) ↔ hs b2 P2 s2 (n - 2) = hs b2 P2 s2 (n - 1))
theorem Parts.swap {b1 P1 s1 b2 P2 s2 n : Int} (h : Parts b1 P1 s1 b2 P2 s2 n) : Parts b2 P2 s2 b1 P1 s1 n :=
  ⟨h.two, fun i j a b c d => (h.same i j a b c d).symm, h.last.elim (fun x => .inl fun y => x y.symm) fun x => .inr fun y => x y.symm⟩
theorem parts_one {b1 P1 s1 b2 s2 : Int} (hb : 1 ≤ b1) (hP : 1 < P1) : Parts b1 P1 s1 b2 1 s2 (frun b1 s1 + 1) := by
  have f := frun_pos (b := b1) (s := s1) hb
  refine ⟨by omega, fun i j i0 i1 j0 j1 => ?_, .inl fun h => ?_⟩
  · exact ⟨fun _ => tog_one, fun _ => tog_same hb (by omega) (by rw [blk_zero hb i0 (by omega), blk_zero hb j0 (by omega)])⟩
  · have q := (tog_near hb (by omega) (by rw [blk_zero hb (by omega) (by omega), blk_one hb (by omega) (by omega)]; omega) (by rw [blk_zero hb (by omega) (by omega), blk_one hb (by omega) (by omega)]; omega)).mp (h.mpr tog_one)
    rw [blk_zero hb (by omega) (by omega), blk_one hb (by omega) (by omega)] at q
    omega
theorem apart_01 {b P s i j : Int} (hb : 1 ≤ b) (hP : 1 < P) (hi : blk b (s % b) i + 1 = blk b (s % b) j) : ¬ hs b P s i = hs b P s j := fun h => by
  have q := (tog_near hb (by omega) (by omega) (by omega)).mp h
  omega
theorem parts_run {b1 P1 s1 b2 P2 s2 : Int} (h1 : 1 ≤ b1) (hP1 : 1 < P1) (h2 : 1 ≤ b2) (hP2 : 1 < P2) (h : frun b1 s1 < frun b2 s2) : Parts b1 P1 s1 b2 P2 s2 (frun b1 s1 + 1) := by
  have f := frun_pos (b := b1) (s := s1) h1
  refine ⟨by omega, fun i j i0 i1 j0 j1 => ?_, .inl fun q => ?_⟩
  · exact ⟨fun _ => tog_same h2 (by omega) (by rw [blk_zero h2 i0 (by omega), blk_zero h2 j0 (by omega)]), fun _ => tog_same h1 (by omega) (by rw [blk_zero h1 i0 (by omega), blk_zero h1 j0 (by omega)])⟩
  · exact apart_01 h1 hP1 (by rw [blk_zero h1 (by omega) (by omega), blk_one h1 (by omega) (by omega)]; rfl) (q.mpr (tog_same h2 (by omega) (by rw [blk_zero h2 (by omega) (by omega), blk_zero h2 (by omega) (by omega)])))
theorem blk_01 {b s i : Int} (hb : 1 ≤ b) (h0 : 0 ≤ i) (h : i < frun b s + b) : blk b (s % b) i = if i < frun b s then 0 else 1 := by
  by_cases c : i < frun b s
  · rw [if_pos c, blk_zero hb h0 c]
  · rw [if_neg c, blk_one hb (by omega) h]
theorem parts_block {b1 P1 s1 b2 P2 s2 : Int} (h1 : 1 ≤ b1) (hP1 : 1 < P1) (h2 : 1 ≤ b2) (hP2 : 1 < P2) (h : frun b1 s1 = frun b2 s2) (hb : b1 < b2) : Parts b1 P1 s1 b2 P2 s2 (frun b1 s1 + b1 + 1) := by
  have f := frun_pos (b := b1) (s := s1) h1
  refine ⟨by omega, fun i j i0 i1 j0 j1 => ?_, .inr fun q => ?_⟩
  · have ei : blk b1 (s1 % b1) i = blk b2 (s2 % b2) i := by rw [blk_01 h1 i0 (by omega), blk_01 h2 i0 (by omega), h]
    have ej : blk b1 (s1 % b1) j = blk b2 (s2 % b2) j := by rw [blk_01 h1 j0 (by omega), blk_01 h2 j0 (by omega), h]
    have ri := blk_01 h1 i0 (show i < frun b1 s1 + b1 by omega)
    have rj := blk_01 h1 j0 (show j < frun b1 s1 + b1 by omega)
    have bi : 0 ≤ blk b1 (s1 % b1) i ∧ blk b1 (s1 % b1) i ≤ 1 := by rw [ri]; split <;> omega
    have bj : 0 ≤ blk b1 (s1 % b1) j ∧ blk b1 (s1 % b1) j ≤ 1 := by rw [rj]; split <;> omega
    rw [tog_near h1 (by omega) (by omega) (by omega), tog_near h2 (by omega) (by omega) (by omega), ei, ej]
  · refine apart_01 h1 hP1 ?_ (q.mpr (tog_same h2 (by omega) ?_))
    · rw [blk_one h1 (by omega) (by omega), blk_two h1 (by omega) (by omega)]; rfl
    · rw [blk_one h2 (by omega) (by omega), blk_one h2 (by omega) (by omega)]
theorem frun_same {b s1 s2 : Int} (h : frun b s1 = frun b s2) : s1 % b = s2 % b := by unfold frun at h; omega
theorem parts_house {b P1 s1 P2 s2 : Int} (h1 : 1 ≤ b) (hP1 : 1 < P1) (hP2 : P1 < P2) (h : frun b s1 = frun b s2) : Parts b P1 s1 b P2 s2 (frun b s1 + (P1 - 1) * b + 1) := by
  have f := frun_pos (b := b) (s := s1) h1
  have es := frun_same h
  have pb : 0 ≤ (P1 - 1) * b := Int.mul_nonneg (by omega) (by omega)
  have pm : P1 * b = (P1 - 1) * b + b := by rw [Int.sub_mul]; omega
  have b0 : blk b (s1 % b) 0 = 0 := blk_zero h1 (by omega) (by omega)
  have bl : blk b (s1 % b) (frun b s1 + (P1 - 1) * b) = P1 := blk_of h1 (by omega) (by omega)
  refine ⟨by omega, fun i j i0 i1 j0 j1 => ?_, .inl fun q => ?_⟩
  · have ni := blk_nn (s := s1) h1 i0
    have nj := blk_nn (s := s1) h1 j0
    have li := blk_le (s := s1) (i := i) (m := P1 - 1) h1 (by omega)
    have lj := blk_le (s := s1) (i := j) (m := P1 - 1) h1 (by omega)
    rw [tog_near h1 (by omega) (by omega) (by omega), tog_near h1 (by omega) (by rw [← es]; omega) (by rw [← es]; omega), es]
  · have e : frun b s1 + (P1 - 1) * b + 1 - 1 = frun b s1 + (P1 - 1) * b := by omega
    rw [e] at q
    have t1 : hs b P1 s1 0 = hs b P1 s1 (frun b s1 + (P1 - 1) * b) := (tog_iff h1 (by omega)).mpr (by rw [b0, bl]; exact ⟨-1, by omega⟩)
    have t2 := (tog_near h1 (by omega) (by rw [← es, b0, bl]; omega) (by rw [← es, b0, bl]; omega)).mp (q.mp t1)
    rw [← es, b0, bl] at t2
    omega
theorem prt_some {b1 P1 s1 b2 P2 s2 n : Int} (h1 : 1 ≤ b1) (hP1 : 1 ≤ P1) (h2 : 1 ≤ b2) (hP2 : 1 ≤ P2) (h : prt b1 P1 s1 b2 P2 s2 = some n) : Parts b1 P1 s1 b2 P2 s2 n := by
  unfold prt at h
  split at h
  · rename_i c
    split at h
    · rename_i c2
      split at h
      · cases h
      · subst c2
        cases h
        exact parts_one h1 (by omega)
    · have e : P1 = 1 := by omega
      subst e
      cases h
      exact (parts_one h2 (by omega)).swap
  · rename_i c
    split at h
    · rename_i c2
      rcases Int.lt_or_gt_of_ne c2 with q | q
      · rw [Int.min_eq_left (by omega)] at h
        cases h
        exact parts_run h1 (by omega) h2 (by omega) q
      · rw [Int.min_eq_right (by omega)] at h
        cases h
        exact (parts_run h2 (by omega) h1 (by omega) q).swap
    · rename_i c2
      have c2 : frun b1 s1 = frun b2 s2 := by omega
      split at h
      · rename_i c3
        rcases Int.lt_or_gt_of_ne c3 with q | q
        · rw [Int.min_eq_left (by omega)] at h
          cases h
          exact parts_block h1 (by omega) h2 (by omega) c2 q
        · rw [Int.min_eq_right (by omega), c2] at h
          cases h
          exact (parts_block h2 (by omega) h1 (by omega) c2.symm q).swap
      · rename_i c3
        have c3 : b1 = b2 := by omega
        subst c3
        split at h
        · rename_i c4
          rcases Int.lt_or_gt_of_ne c4 with q | q
          · rw [Int.min_eq_left (by omega)] at h
            cases h
            exact parts_house h1 (by omega) q c2
          · rw [Int.min_eq_right (by omega), c2] at h
            cases h
            exact (parts_house h1 (by omega) q c2.symm).swap
        · cases h
theorem prt_none {b1 P1 s1 b2 P2 s2 : Int} (h1 : 1 ≤ b1) (hP1 : 1 ≤ P1) (h2 : 1 ≤ b2) (hP2 : 1 ≤ P2) (h : prt b1 P1 s1 b2 P2 s2 = none) (i j : Int) :
    hs b1 P1 s1 i = hs b1 P1 s1 j ↔ hs b2 P2 s2 i = hs b2 P2 s2 j := by
  unfold prt at h
  split at h
  · rename_i c
    split at h
    · rename_i c2
      split at h
      · rename_i c3
        subst c2 c3
        exact ⟨fun _ => tog_one, fun _ => tog_one⟩
      · cases h
    · cases h
  · split at h
    · cases h
    · rename_i c2
      have c2 : frun b1 s1 = frun b2 s2 := by omega
      split at h
      · cases h
      · rename_i c3
        have c3 : b1 = b2 := by omega
        subst c3
        split at h
        · cases h
        · rename_i c4
          have c4 : P1 = P2 := by omega
          subst c4
          rw [tog_iff h1 hP1, tog_iff h1 hP1, frun_same c2]
theorem prt_alk {b1 P1 s1 b2 P2 s2 : Int} : (prt b1 P1 s1 b2 P2 s2 = none) ↔ alk b1 P1 s1 b2 P2 s2 = true := by
  unfold prt alk
  split
  · rename_i c
    split
    · rename_i c2
      subst c2
      split
      · rename_i c3
        simp [c3]
      · rename_i c3
        simp [c3]
    · rename_i c2
      have e : P1 = 1 := by omega
      subst e
      simp only [reduceCtorEq, decide_eq_true_eq, false_iff]
      omega
  · split
    · rename_i c2
      simp [c2]
    · rename_i c2
      split
      · rename_i c3
        simp [c3]
      · rename_i c3
        split
        · rename_i c4
          simp [c4]
        · rename_i c4
          have e1 : b1 = b2 := by omega
          have e2 : P1 = P2 := by omega
          have e3 : frun b1 s1 = frun b2 s2 := by omega
          simp [e1, e2] at *
          exact e3
theorem prt_comm (b1 P1 s1 b2 P2 s2 : Int) : prt b1 P1 s1 b2 P2 s2 = prt b2 P2 s2 b1 P1 s1 := by
  unfold prt
  by_cases c1 : P1 = 1
  · by_cases c2 : P2 = 1
    · simp [c1, c2]
    · simp [c1, c2]
  · by_cases c2 : P2 = 1
    · simp [c1, c2]
    · rw [if_neg (show ¬ (P1 = 1 ∨ P2 = 1) by omega), if_neg (show ¬ (P2 = 1 ∨ P1 = 1) by omega)]
      by_cases c3 : frun b1 s1 = frun b2 s2
      · rw [if_neg (show ¬ (frun b1 s1 ≠ frun b2 s2) from fun h => h c3), if_neg (show ¬ (frun b2 s2 ≠ frun b1 s1) from fun h => h c3.symm)]
        by_cases c4 : b1 = b2
        · rw [if_neg (show ¬ (b1 ≠ b2) from fun h => h c4), if_neg (show ¬ (b2 ≠ b1) from fun h => h c4.symm)]
          by_cases c5 : P1 = P2
          · rw [if_neg (show ¬ (P1 ≠ P2) from fun h => h c5), if_neg (show ¬ (P2 ≠ P1) from fun h => h c5.symm)]
          · rw [if_pos (show P1 ≠ P2 from c5), if_pos (show P2 ≠ P1 from fun h => c5 h.symm), c3, c4, Int.min_comm]
        · rw [if_pos (show b1 ≠ b2 from c4), if_pos (show b2 ≠ b1 from fun h => c4 h.symm), c3, Int.min_comm]
      · rw [if_pos (show frun b1 s1 ≠ frun b2 s2 from c3), if_pos (show frun b2 s2 ≠ frun b1 s1 from fun h => c3 h.symm), Int.min_comm]
/-! ### the Deal as it stands: its block, its houses, its shift -/
def dB (b P : Int) : Int := if P > 1 then b else 1
def dS (b P s : Int) : Int := s % (dB b P * P)
theorem dB_pos {b P : Int} (hb : 1 ≤ b) : 1 ≤ dB b P := by unfold dB; split <;> omega
theorem frun_d {b P s : Int} (hP : 1 < P) : frun (dB b P) (dS b P s) = frun b s := by
  unfold dS dB frun
  rw [if_pos hP, Int.emod_emod_of_dvd _ (Int.dvd_mul_right b P)]
theorem dB_many {b P : Int} (hP : 1 < P) : dB b P = b := by unfold dB; rw [if_pos hP]
/-- parted's own answer, over the Deals' attributes -/
def prtD (B1 P1 S1 B2 P2 S2 : Int) : Option Int := prt B1 P1 S1 B2 P2 S2
theorem prt_d {b1 P1 s1 b2 P2 s2 : Int} (hP1 : 1 ≤ P1) (hP2 : 1 ≤ P2) : prt (dB b1 P1) P1 (dS b1 P1 s1) (dB b2 P2) P2 (dS b2 P2 s2) = prt b1 P1 s1 b2 P2 s2 := by
  unfold prt
  by_cases c1 : P1 = 1
  · by_cases c2 : P2 = 1
    · simp [c1, c2]
    · have z : P1 = 1 ∨ P2 = 1 := .inl c1
      rw [if_pos z, if_pos z, if_neg c2, if_neg c2, frun_d (by omega)]
  · by_cases c2 : P2 = 1
    · have z : P1 = 1 ∨ P2 = 1 := .inr c2
      rw [if_pos z, if_pos z, if_pos c2, if_pos c2, if_neg c1, if_neg c1, frun_d (by omega)]
    · rw [frun_d (by omega), frun_d (by omega), dB_many (by omega), dB_many (by omega)]
/-- of small deals the least n is at most 9 -/
theorem prt_small {b1 P1 s1 b2 P2 s2 n : Int} (h1 : 1 ≤ b1) (h1' : b1 ≤ 4) (hP1 : 1 ≤ P1) (hP1' : P1 ≤ 3) (h2 : 1 ≤ b2) (h2' : b2 ≤ 4) (hP2 : 1 ≤ P2) (hP2' : P2 ≤ 3)
    (h : prt b1 P1 s1 b2 P2 s2 = some n) : n ≤ 14 := by
  have f1 := frun_pos (b := b1) (s := s1) h1
  have f2 := frun_pos (b := b2) (s := s2) h2
  unfold prt at h
  split at h
  · split at h
    · split at h
      · cases h
      · cases h; omega
    · cases h; omega
  · split at h
    · have := Option.some.inj h; omega
    · split at h
      · have := Option.some.inj h; omega
      · split at h
        · rename_i c
          have e := Option.some.inj h
          have m : min P1 P2 ≤ 2 := by omega
          have m1 : 1 ≤ min P1 P2 := by omega
          have : (min P1 P2 - 1) * b1 ≤ 1 * b1 := Int.mul_le_mul_of_nonneg_right (by omega) (by omega)
          omega
        · cases h
end K41

set_option Elab.async false
set_option linter.all false
set_option maxRecDepth 100000
set_option maxHeartbeats 4000000
namespace K41
open PySem PySem.Spec PyProof.Rows L2
/-! ### the text by places -/
def top (i : Nat) : Stmt := PySem.Challenge.pw_dealtsums_k41_whole_where_deals_part.main.body.getD i (.Pass ⟨0, 0, 0, 0⟩)
abbrev xBegin : Stmt := top 19
abbrev xDraw : Stmt := top 20
abbrev xPick : Stmt := top 21
abbrev xWhole : Stmt := top 22
abbrev xTruth : Stmt := top 23
abbrev xTen : Stmt := top 24
abbrev xLong : Stmt := top 25
abbrev xSize : Stmt := top 26
abbrev xSigned : Stmt := top 27
abbrev xRef : Stmt := top 28
abbrev xNoInt : Stmt := top 29
abbrev xDrawn : Stmt := top 30
abbrev xDealOf : Stmt := top 31
abbrev xSmall : Stmt := top 32
abbrev xTog : Stmt := top 33
abbrev xTwo : Stmt := top 34
abbrev xAhead : Stmt := top 35
abbrev xAlike : Stmt := top 36
abbrev xFar : Stmt := top 37
abbrev xSmR : Stmt := top 38
abbrev xLaw : Stmt := top 39
/-! ### a def that is called by its name -/
structure Cal (P : Program) (w : World) (K : PySem.W.Frag) (mg : Str → Option Value) (base : Heap) (CX : CXT) (k : Nat) (x : Str) (ps : List Str) (sp : Sp) : Prop where
  ex : ∃ (f : Addr) (fd : FuncData), mg x = some (.ref f) ∧ PySem.W.keepIn K (.ref f) = true ∧ Binds K fd ps [] ∧ FnOk P w K mg base CX k f fd ps sp
section
variable {X : Cx} {CX : CXT} {k j : Nat} {x : Str} {ps : List Str} {sp : Sp} {E : XK} {p pos : Pos} {e : Expr} {es : List Expr} {t : TA}
theorem pe_cal (C : Cal X.prog X.w X.K X.mg X.base CX k x ps sp) (hr : Room j X.A) (hj : k ≤ j) (hx : Passes CX X E) (hg : Gl X x) (ha : PA X (e :: es) t)
    (hdb : (x == ("__debug__" : Str)) = false := by decide) (he : starEach (e :: es) X.env = (false, eval e X.env) :: starEach es X.env := by rfl) (hpl : (backTo pos (starEach es X.env)).any (·.1) = false := by rfl) :
    PE X (.Call (.Name x p) (e :: es) [] pos) (tCall sp [] E t) := by
  obtain ⟨f, fd, hm, hk, hb, F⟩ := C.ex
  exact pe_call F (hr.mono hj) hg hm hk hb .nil hx ha hdb he hpl
end
/-! ### the tape -/
def tapeK (l : Addr) (a r : Int) : List (Key × V) := [(.inr "cells", .ref l), (.inr "at", .int a), (.inr "rest", .int r)]
theorem tape_cells (l : Addr) (a r : Int) : valV (tapeK l a r) (.inr "cells") = some (.ref l) := by rfl
theorem tape_at (l : Addr) (a r : Int) : valV (tapeK l a r) (.inr "at") = some (.int a) := by rfl
theorem tape_rest (l : Addr) (a r : Int) : valV (tapeK l a r) (.inr "rest") = some (.int r) := by rfl
theorem put_at (l : Addr) (a r z : Int) : putK (tapeK l a r) (.inr "at") (.int z) = tapeK l z r := by rfl
theorem put_rest (l : Addr) (a r z : Int) : putK (tapeK l a r) (.inr "rest") (.int z) = tapeK l a z := by rfl
/-- the tape at p: at most A draws were made from cells -/
structure TapeR (H : Hp) (p l : Addr) (cs : List Int) (a r : Int) : Prop where
  d : H p = some (.dK (tapeK l a r))
  c : H l = some (.lst (cs.map V.int))
  ne : cs ≠ []
  few : cs.length ≤ 100
  a0 : 0 ≤ a
  r0 : 0 ≤ r
def Tape (H : Hp) (p : Addr) (A : Nat) : Prop := ∃ (l : Addr) (cs : List Int) (a r : Int), TapeR H p l cs a r ∧ a ≤ A
/-- all but p is as it was -/
def Keep (p : Addr) (H H' : Hp) : Prop := ∀ b o, H b = some o → b ≠ p → H' b = some o
theorem Keep.refl (p : Addr) (H : Hp) : Keep p H H := fun _ _ h _ => h
theorem Keep.trans {p : Addr} {H H1 H2 : Hp} (a : Keep p H H1) (b : Keep p H1 H2) : Keep p H H2 := fun c o h n => b c o (a c o h n) n
theorem Keep.of_same {p : Addr} {H H' : Hp} (h : Same H H') : Keep p H H' := fun b o e _ => h b o e
theorem same_new {H : Hp} {p : Addr} {o : HO} (h : H p = none) : Same H (upd H p o) := fun b x e => by
  rw [upd_ne (ne_of_none e h)]
  exact e
theorem Keep.put {p : Addr} {H : Hp} {o : HO} : Keep p H (upd H p o) := fun b x e n => by
  rw [upd_ne n]
  exact e
theorem TapeR.keep {H H' : Hp} {p l : Addr} {cs : List Int} {a r : Int} (T : TapeR H p l cs a r) (s : Same H H') : TapeR H' p l cs a r := ⟨s _ _ T.d, s _ _ T.c, T.ne, T.few, T.a0, T.r0⟩
theorem Tape.keep {H H' : Hp} {p : Addr} {A : Nat} (T : Tape H p A) (s : Same H H') : Tape H' p A := by
  obtain ⟨l, cs, a, r, T, h⟩ := T
  exact ⟨l, cs, a, r, T.keep s, h⟩
theorem Tape.mono {H : Hp} {p : Addr} {A B : Nat} (T : Tape H p A) (h : A ≤ B) : Tape H p B := by
  obtain ⟨l, cs, a, r, T, q⟩ := T
  exact ⟨l, cs, a, r, T, by omega⟩
theorem TapeR.nlp {H : Hp} {p l : Addr} {cs : List Int} {a r : Int} (T : TapeR H p l cs a r) : l ≠ p := ne_of T.c T.d (by intro z; cases z)
theorem TapeR.put {H : Hp} {p l : Addr} {cs : List Int} {a r a' r' : Int} (T : TapeR H p l cs a r) (ha : 0 ≤ a') (hr : 0 ≤ r') : TapeR (upd H p (.dK (tapeK l a' r'))) p l cs a' r' :=
  ⟨upd_same, by rw [upd_ne T.nlp]; exact T.c, T.ne, T.few, ha, hr⟩
theorem TapeR.pAt {H : Hp} {p l : Addr} {cs : List Int} {a r z : Int} (T : TapeR H p l cs a r) : DPut H p (.str "at") (.int z) (upd H p (.dK (tapeK l z r))) := by
  have h := DPut.k (k := .inr "at") (v := .int z) T.d (small1000 (by show 3 ≤ 1000; decide))
  rw [put_at] at h
  exact h
theorem TapeR.pRest {H : Hp} {p l : Addr} {cs : List Int} {a r z : Int} (T : TapeR H p l cs a r) : DPut H p (.str "rest") (.int z) (upd H p (.dK (tapeK l a z))) := by
  have h := DPut.k (k := .inr "rest") (v := .int z) T.d (small1000 (by show 3 ≤ 1000; decide))
  rw [put_rest] at h
  exact h
theorem TapeR.gAt {H : Hp} {p l : Addr} {cs : List Int} {a r : Int} (T : TapeR H p l cs a r) : DGet H p (.str "at") (some (.int a)) := by
  have h := DGet.k (k := .inr "at") T.d
  rw [tape_at] at h
  exact h
theorem TapeR.gRest {H : Hp} {p l : Addr} {cs : List Int} {a r : Int} (T : TapeR H p l cs a r) : DGet H p (.str "rest") (some (.int r)) := by
  have h := DGet.k (k := .inr "rest") T.d
  rw [tape_rest] at h
  exact h
theorem TapeR.gCells {H : Hp} {p l : Addr} {cs : List Int} {a r : Int} (T : TapeR H p l cs a r) : DGet H p (.str "cells") (some (.ref l)) := by
  have h := DGet.k (k := .inr "cells") T.d
  rw [tape_cells] at h
  exact h
end K41

set_option Elab.async false
set_option linter.all false
set_option maxRecDepth 100000
set_option maxHeartbeats 4000000
namespace K41
open PySem PySem.Spec PyProof.Rows L2
/-- the built-in names that the text uses are the built-ins -/
structure Bn (mg : Str → Option Value) : Prop where
  list : mg "list" = none
  int : mg "int" = none
  len : mg "len" = none
  range : mg "range" = none
  max : mg "max" = none
  min : mg "min" = none
  any : mg "any" = none
  isi : mg "isinstance" = none
  bool : mg "bool" = none
  repr : mg "repr" = none
section
variable {P : Program} {w : World} {K : PySem.W.Frag} {mg : Str → Option Value} {base : Heap}
theorem sc_begin : FnScope ["_law_script"] ["_law_script"] (defScope xBegin) := ⟨rfl, rfl, rfl, by decide +kernel, rfl, by decide +kernel, by decide +kernel⟩
def spBegin (K : PySem.W.Frag) : Sp := fun vs H Q _ => ∃ (a : Addr) (ns : List Int), vs = [.ref a] ∧ SqL K H a (ns.map V.int) ∧ ns.length ≤ 63 ∧ ∀ p H', Same H H' → H p = none → Tape H' p 0 → Q (.ref p) H'
theorem cut63 (ns : List Int) : cutV (ns.map V.int) none (some 63) = (ns.take 63).map V.int := by
  unfold cutV
  rw [show HT.sIx (ns.map V.int).length (ns.map V.int).length (some 63) = min 63 (ns.map V.int).length from HT.sIx_nat _ _ 63, HT.sIx_none]
  rw [List.drop_zero, List.length_map, Nat.sub_zero, ← List.map_take]
  congr 1
  rcases Nat.le_total ns.length 63 with h | h
  · rw [Nat.min_eq_right h, List.take_of_length_le h, List.take_of_length_le (Nat.le_refl _)]
  · rw [Nat.min_eq_left h]
theorem beg_en (ns : List Int) : (if (decide (V.int ↑(List.map V.int ns).length = V.int 0)) = true then (1 : Int) else 0) = if ns = [] then 1 else 0 := by
  rw [List.length_map]
  cases ns with
  | nil => rfl
  | cons x r =>
    have h : ¬ V.int (((x :: r).length : Nat) : Int) = V.int 0 := fun z => by
      have z2 := V.int.inj z
      rw [List.length_cons] at z2
      omega
    rw [decide_eq_false h, if_neg Bool.false_ne_true, if_neg (by simp)]
theorem ok_begin {f : Addr} {fd : FuncData} (F : Fun K "_law_begin" "_law_begin" xBegin f fd) (B : Bn mg) : FnOk P w K mg base CX0 1 f fd ["_law_script"] (spBegin K) := by
  refine F.ok sc_begin (fun vs H Q E h => ?_) (fun cdv A outer s H vs Q E hr h => ?_)
  · obtain ⟨a, ns, rfl, _⟩ := h
    rfl
  · obtain ⟨a, ns, rfl, hS, hl, k⟩ := h
    refine ⟨_, pss_one (ps_ret (pe_disp (pps_cons pe_str (pe_op op_cat (pe_callTy call_list_of (by rfl) B.list (by decide +kernel) (pa_cons (pe_slice sl_list (pv 0) po_none (po_some pe_int)) pa_nil))
        (pe_op op_rep (pe_lst (pa_cons pe_int pa_nil)) (pe_callTy call_int1 (by rfl) B.int (by decide +kernel) (pa_cons (pe_cmpR op_eq (pe_callB call_len_seq (by rfl) B.len PySem.boot_len (pa_cons (pv 0) pa_nil)) pe_int (nomark _)) pa_nil))))
      (pps_cons pe_str pe_int (pps_cons pe_str pe_int pps_nil))) (by rfl) (by rfl) (fun z => by cases z) (by decide))), ?_⟩
    intro p np
    refine ⟨_, rfl, 63, rfl, a, ns.map V.int, rfl, (same_new np).seq hS, fun c nc => ?_⟩
    refine ⟨c, _, rfl, .inl (SqL.of upd_same), fun d nd => ?_⟩
    refine ⟨by show 1 ≤ sizeLine; decide, fun e ne => ?_⟩
    have s1 := same_new (o := .dK []) np
    have s2 := same_new (o := .lst (cutV (ns.map V.int) none (some 63))) nc
    have s3 := same_new (o := .lst (cutV (ns.map V.int) none (some 63))) nd
    have s4 := same_new (o := .lst [.int 0]) ne
    refine ⟨_, rfl, a, _, rfl, .inl (s4.seq (s3.seq (s2.seq (s1.seq hS)))), rfl, ?_⟩
    refine .inr ⟨_, rfl, ?_⟩
    have nce : d ≠ e := ne_of_none upd_same ne
    refine ⟨e, _, [.int 0], rfl, rfl, upd_same, ?_, ?_, ?_, fun g ng => ?_⟩
    · split <;> decide
    · split <;> decide
    · split <;> (show _ ≤ sizeLine; decide)
    have s5 := same_new (o := .lst (List.replicate (if (decide (V.int ↑(List.map V.int ns).length = V.int 0)) = true then (1 : Int) else 0).toNat [V.int 0]).flatten) ng
    have es : (List.replicate (if (decide (V.int ↑(List.map V.int ns).length = V.int 0)) = true then (1 : Int) else 0).toNat [V.int 0]).flatten = (if ns = [] then [0] else []).map V.int := by
      rw [beg_en]
      by_cases h : ns = []
      · rw [if_pos h, if_pos h]
        rfl
      · rw [if_neg h, if_neg h]
        rfl
    rw [es] at s5
    rw [es]
    refine ⟨d, g, _, _, rfl, rfl, s5 _ _ (s4 _ _ upd_same), upd_same, ?_, fun i ni => ?_⟩
    · rw [cut63, List.length_map, List.length_map, List.length_take]
      have : sizeLine = 16777216 := sizeLine_eq
      split <;> simp <;> omega
    have s6 := same_new (o := .lst (cutV (ns.map V.int) none (some 63) ++ (if ns = [] then [0] else []).map V.int)) ni
    have sA := s2.trans (s3.trans (s4.trans (s5.trans s6)))
    refine ⟨sA _ _ upd_same, tapeK i 0 0, rfl, (by show 3 ≤ 15; decide), ?_⟩
    rw [show mergeK [] (tapeK i 0 0) = tapeK i 0 0 from rfl]
    have nip : i ≠ p := ne_of upd_same (sA _ _ upd_same) (by intro z; cases z)
    refine k p _ (fun b o e => ?_) np ⟨i, ns.take 63 ++ (if ns = [] then [0] else []), 0, 0, ⟨upd_same, ?_, ?_, ?_, by omega, by omega⟩, by omega⟩
    · rw [upd_ne (ne_of_none e np)]
      exact sA _ _ (s1 _ _ e)
    · rw [upd_ne nip, upd_same, cut63, List.map_append]
    · cases ns with
      | nil => simp
      | cons x r => simp
    · rw [List.length_append, List.length_take]
      split <;> simp <;> omega
end
end K41

set_option Elab.async false
set_option linter.all false
set_option maxRecDepth 100000
set_option maxHeartbeats 4000000
namespace K41
open PySem PySem.Spec PyProof.Rows L2
section
variable {P : Program} {w : World} {K : PySem.W.Frag} {mg : Str → Option Value} {base : Heap}
theorem sc_draw : FnScope ["_law_tape", "_law_limit", "_law_at", "_law_span", "_law_cell", "_law_mixed", "_law_found"] ["_law_tape", "_law_limit"] (defScope xDraw) := ⟨rfl, rfl, rfl, by decide +kernel, rfl, by decide +kernel, by decide +kernel⟩
/-- a draw below a limit -/
def spDraw : Sp := fun vs H Q _ => ∃ (p : Addr) (n : Int) (A : Nat), vs = [.ref p, .int n] ∧ Tape H p A ∧ A ≤ 1000000 ∧ 1 ≤ n ∧ n ≤ 10 ^ 60 ∧ ∀ v H', 0 ≤ v → v < n → Keep p H H' → Tape H' p (A + 1) → Q (.int v) H'
theorem ok_draw {f : Addr} {fd : FuncData} (F : Fun K "_law_draw" "_law_draw" xDraw f fd) (B : Bn mg) : FnOk P w K mg base CX0 1 f fd ["_law_tape", "_law_limit"] spDraw := by
  refine F.ok sc_draw (fun vs H Q E h => ?_) (fun cdv A outer s H vs Q E hr h => ?_)
  · obtain ⟨p, n, A, rfl, _⟩ := h
    rfl
  · obtain ⟨p, n, D, rfl, hT, hD, hn, hn2, k⟩ := h
    have hu := hu_of hr
    refine ⟨_, C8.pss_cut (ps_if (pt_cmpR op_lt (pe_dget hu (pv 0) pe_str (fun _ _ => rfl)) (pv 1) (nomark _))
        (pss_cons (ps_par (i := 2) (j := 3) rfl sc_draw.nd rfl rfl (by decide) rfl rfl (pa_cons (pe_dget hu (pv 0) pe_str (fun _ _ => rfl)) (pa_cons (pe_callB call_len_seq (by rfl) B.len PySem.boot_len (pa_cons (pe_dget hu (pv 0) pe_str (fun _ _ => rfl)) pa_nil)) pa_nil)) (by rfl))
        (pss_cons (ps_asg (pe_tup (pa_cons (pe_ix ix_list (pe_dget hu (pv 0) pe_str (fun _ _ => rfl)) (pe_op op_mod (pe_callTy call_int1 (by rfl) B.int (by decide +kernel) (pa_cons (pv 2) pa_nil)) (pv 3)) (fun _ _ => rfl)) (pa_cons (pe_op op_add (pv 2) pe_int) pa_nil)))
            (pg_tup rfl (pgs_cons (pg_name (i := 4) sc_draw.nd rfl (.inl rfl)) (pgs_cons (pg_sub (pv 0) pe_str (set_dict hu)) pgs_nil))))
        (pss_cons (ps_set (i := 5) sc_draw.nd rfl (.inl rfl) (pe_op op_add (pe_op op_add (pe_op op_mul (pe_callTy call_int1 (by rfl) B.int (by decide +kernel) (pa_cons (pv 4) pa_nil)) pe_int) (pe_op op_mul (pe_op op_mul pe_int (pv 2)) (pv 2))) pe_int))
        (pss_cons (ps_set (i := 5) sc_draw.nd rfl (.inl rfl) (pe_op op_mod (pe_callTy call_int1 (by rfl) B.int (by decide +kernel) (pa_cons (pv 5) pa_nil)) pe_int))
        (pss_cons (ps_dput hu (pv 0) pe_str (pe_op op_mod (pe_callTy call_int1 (by rfl) B.int (by decide +kernel) (pa_cons (pe_op op_add (pe_op op_pow (pv 5) pe_int) (pe_op op_mul (pe_op op_mul (pe_op op_mul pe_int (pv 2)) (pv 5)) (pv 5))) pa_nil)) (pe_op op_add (pe_op op_pow pe_int pe_int) pe_int)) rfl)
        (pss_one (ps_if (PW.pt (pw_and (pt_cmpR op_ge (pv 4) (pe_op op_pow pe_int pe_int) (nomark _)) (pw_and1 (pt_cmpR op_lt (pv 2) (pv 3) (nomark _)))))
          (pss_one (ps_dput hu (pv 0) pe_str (pe_op op_sub (pv 4) (pe_op op_pow pe_int pe_int)) rfl)) pss_nil)))))))
        pss_nil)
      (pss_cons (ps_asg (pe_tup (pa_cons (pe_op op_mod (pe_callTy call_int1 (by rfl) B.int (by decide +kernel) (pa_cons (pe_dget hu (pv 0) pe_str (fun _ _ => rfl)) pa_nil)) (pv 1)) (pa_cons (pe_op op_fdivW (pe_dget hu (pv 0) pe_str (fun _ _ => rfl)) (pv 1)) pa_nil)))
            (pg_tup rfl (pgs_cons (pg_name (i := 6) sc_draw.nd rfl (.inl rfl)) (pgs_cons (pg_sub (pv 0) pe_str (set_dict hu)) pgs_nil))))
      (pss_one (ps_ret (pv 6)))), ?_⟩
    obtain ⟨l, cs, a, r, T, ha⟩ := hT
    refine ⟨fun σ H' => ∃ v2 v3 v4 v5 v6 a' r', σ = [some (.ref p), some (.int n), v2, v3, v4, v5, v6] ∧ Keep p H H' ∧ TapeR H' p l cs a' r' ∧ a' ≤ D + 1, ?_, ?_⟩
    · have lc : 0 < cs.length := List.length_pos_iff.mpr T.ne
      refine ⟨_, rfl, p, _, rfl, T.gRest, _, rfl, _, _, rfl, rfl, _, rfl, ?_⟩
      refine ite2 (fun hlt => ?_) (fun hge => ?_)
      · -- a new number
        refine ⟨_, rfl, p, _, rfl, T.gAt, _, rfl, p, _, rfl, T.gCells, l, _, rfl, .inl (SqL.of T.c), _, _, rfl, ?_⟩
        have L0 : (0 : Int) < (((cs.map V.int).length : Nat) : Int) := by rw [List.length_map]; omega
        have i0 := Int.emod_nonneg a (show (((cs.map V.int).length : Nat) : Int) ≠ 0 by omega)
        have i1 := Int.emod_lt_of_pos a L0
        obtain ⟨j, hj⟩ := Int.eq_ofNat_of_zero_le i0
        have jl : j < cs.length := by rw [hj, List.length_map] at i1; omega
        refine ⟨_, rfl, p, _, rfl, T.gCells, _, rfl, .inl ⟨_, rfl, _, rfl, _, _, rfl, rfl, L0, l, _, _, .int cs[j], rfl, rfl, SqL.of T.c, at_of hj (by rw [List.getElem?_map, List.getElem?_eq_getElem jl]; rfl), ?_⟩⟩
        generalize cs[j] = c
        refine ⟨_, rfl, _, _, rfl, rfl, (by show 2 ≤ sizeLine; decide), fun t nt => ?_⟩
        have s1 := same_new (o := .tup [.int c, .int (a + 1)]) nt
        have T1 := T.keep s1
        have a0 := T.a0
        refine ⟨t, _, rfl, SqT.of upd_same, rfl, _, _, rfl, _, _, rfl, _, rfl, p, _, rfl, T1.pAt, rfl, ?_⟩
        have T2 := T1.put (a' := a + 1) (r' := r) (by omega) T.r0
        have k2 : Keep p H (upd (upd H t (.tup [.int c, .int (a + 1)])) p (.dK (tapeK l (a + 1) r))) := (Keep.of_same s1).trans Keep.put
        dsimp only
        revert T2 k2
        generalize upd (upd H t (.tup [.int c, .int (a + 1)])) p (.dK (tapeK l (a + 1) r)) = H2
        intro T2 k2
        -- mixed
        refine ⟨_, rfl, .inl ⟨_, rfl, _, _, rfl, rfl, .inr (by decide), _, rfl, _, _, rfl, rfl, .inl (by decide), _, rfl, _, _, rfl, rfl, .inr (by constructor <;> omega), _, _, rfl, rfl, _, _, rfl, rfl, ?_⟩⟩
        dsimp only
        generalize c * 982451653 + 32452843 * a * a + 961748941 = m
        refine ⟨_, rfl, .inl ⟨_, rfl, _, _, rfl, rfl, (show (0 : Int) < 2305843009213693907 by decide), ?_⟩⟩
        have m0 := Int.emod_nonneg m (show (2305843009213693907 : Int) ≠ 0 by decide)
        have m1 := Int.emod_lt_of_pos m (show (0 : Int) < 2305843009213693907 by decide)
        dsimp only
        revert m0 m1
        generalize m % 2305843009213693907 = m
        intro m0 m1
        -- rest
        refine ⟨_, rfl, _, _, rfl, rfl, ⟨by decide, by decide, by omega⟩, _, rfl, _, _, rfl, rfl, .inl (by decide), _, rfl, _, _, rfl, rfl, .inr (by constructor <;> omega), _, rfl, _, _, rfl, rfl, .inr (by constructor <;> omega), _, _, rfl, rfl, .inl ⟨_, rfl, ?_⟩⟩
        refine ⟨_, _, rfl, rfl, ⟨by decide, by decide, by decide⟩, _, _, rfl, rfl, _, _, rfl, rfl, (show (0 : Int) < (10 : Int) ^ (47 : Int).toNat + 9 by decide), ?_⟩
        dsimp only
        generalize m ^ (11 : Int).toNat + 15485863 * a * m * m = z
        have z0 := Int.emod_nonneg z (show ((10 : Int) ^ (47 : Int).toNat + 9) ≠ 0 by decide)
        revert z0
        generalize z % ((10 : Int) ^ (47 : Int).toNat + 9) = z
        intro z0
        refine ⟨_, rfl, p, _, rfl, T2.pRest, ?_⟩
        have T3 := T2.put (a' := a + 1) (r' := z) (by omega) z0
        have k3 : Keep p H (upd H2 p (.dK (tapeK l (a + 1) z))) := k2.trans Keep.put
        revert T3 k3
        generalize upd H2 p (.dK (tapeK l (a + 1) z)) = H3
        intro T3 k3
        -- a great cell
        refine ⟨_, rfl, _, _, rfl, rfl, ⟨by decide, by decide, by decide⟩, _, _, rfl, rfl, _, rfl, ?_⟩
        refine ite2 (fun hc => ?_) (fun hc => ?_)
        · have hc := of_decide_eq_true hc
          refine ⟨_, rfl, _, rfl, _, _, rfl, rfl, _, rfl, ?_⟩
          refine ite2 (fun hd => ?_) (fun hd => ?_)
          · refine ⟨_, rfl, _, _, rfl, rfl, ⟨by decide, by decide, by decide⟩, _, _, rfl, rfl, _, rfl, p, _, rfl, T3.pRest, ?_⟩
            exact ⟨_, _, _, _, _, a + 1, _, rfl, k3.trans Keep.put, T3.put (by omega) (by omega), by omega⟩
          · exact ⟨_, _, _, _, _, a + 1, _, rfl, k3, T3, by omega⟩
        · refine iteF ?_
          exact ⟨_, _, _, _, _, a + 1, _, rfl, k3, T3, by omega⟩
      · exact ⟨_, _, _, _, _, a, r, rfl, Keep.refl _ _, T, by omega⟩
    · rintro σ H1 ⟨v2, v3, v4, v5, v6, a', r', rfl, kp, T1, ha'⟩
      have n0 : 0 < n := by omega
      refine ⟨_, rfl, p, _, rfl, T1.gRest, .inl ⟨_, rfl, _, rfl, _, _, rfl, rfl, n0, _, rfl, p, _, rfl, T1.gRest, _, rfl, _, _, rfl, rfl, ?_, (by show 2 ≤ sizeLine; decide), fun t nt => ?_⟩⟩
      · exact wide_div n0 (b := 200) (by omega) (by decide) (by decide)
      have s1 := same_new (o := .tup [.int (r' % n), .int (r' / n)]) nt
      have T2 := T1.keep s1
      refine ⟨t, _, rfl, SqT.of upd_same, rfl, _, _, rfl, _, _, rfl, _, rfl, p, _, rfl, T2.pRest, rfl, ?_⟩
      refine ⟨_, rfl, ?_⟩
      refine k _ _ (Int.emod_nonneg _ (by omega)) (Int.emod_lt_of_pos _ n0) (kp.trans ((Keep.of_same s1).trans Keep.put)) ⟨l, cs, a', r' / n, T2.put T2.a0 (Int.ediv_nonneg T1.r0 (by omega)), by omega⟩
end
end K41

set_option Elab.async false
set_option linter.all false
set_option maxRecDepth 100000
set_option maxHeartbeats 4000000
namespace K41
open PySem PySem.Spec PyProof.Rows L2
theorem Keep.seq {K : PySem.W.Frag} {p q : Addr} {H H' : Hp} {xs : List V} (k : Keep p H H') (h : SqL K H q xs) (n : q ≠ p) : SqL K H' q xs := by
  rcases h with (h | ⟨o, h⟩) | h
  · exact .inl (.inl (k _ _ h n))
  · exact .inl (.inr ⟨o, k _ _ h n⟩)
  · exact .inr h
section
variable {P : Program} {w : World} {K : PySem.W.Frag} {mg : Str → Option Value} {base : Heap}
abbrev CalDraw (P : Program) (w : World) (K : PySem.W.Frag) (mg : Str → Option Value) (base : Heap) : Prop := Cal P w K mg base CX0 1 "_law_draw" ["_law_tape", "_law_limit"] spDraw
/-! ### one of a list -/
theorem sc_pick : FnScope ["_law_tape", "_law_some"] ["_law_tape", "_law_some"] (defScope xPick) := ⟨rfl, rfl, rfl, by decide +kernel, rfl, by decide +kernel, by decide +kernel⟩
def spPick (K : PySem.W.Frag) : Sp := fun vs H Q _ => ∃ (p q : Addr) (xs : List V) (A : Nat), vs = [.ref p, .ref q] ∧ Tape H p A ∧ A ≤ 1000000 ∧ SqL K H q xs ∧ q ≠ p ∧ 1 ≤ xs.length ∧ xs.length ≤ 1000 ∧
  ∀ v H', v ∈ xs → Keep p H H' → Tape H' p (A + 1) → Q v H'
theorem ok_pick {f : Addr} {fd : FuncData} (F : Fun K "_law_pick" "_law_pick" xPick f fd) (B : Bn mg) (D : CalDraw P w K mg base) : FnOk P w K mg base CX0 2 f fd ["_law_tape", "_law_some"] (spPick K) := by
  refine F.ok sc_pick (fun vs H Q E h => ?_) (fun cdv A outer s H vs Q E hr h => ?_)
  · obtain ⟨p, q, xs, A, rfl, _⟩ := h
    rfl
  · obtain ⟨p, q, xs, A, rfl, T, hA, hq, nq, h1, h2, k⟩ := h
    refine ⟨_, pss_one (ps_ret (pe_ix ix_list (pv 1) (pe_cal D hr (by decide) pass0 rfl (pa_cons (pv 0) (pa_cons (pe_callB call_len_seq (by rfl) B.len PySem.boot_len (pa_cons (pv 1) pa_nil)) pa_nil))) (fun _ _ => rfl))), ?_⟩
    refine ⟨_, rfl, _, rfl, _, rfl, q, xs, rfl, .inl hq, p, _, A, rfl, T, hA, by omega, by omega, fun v H' v0 v1 kp T' => ?_⟩
    obtain ⟨j, hj⟩ := Int.eq_ofNat_of_zero_le v0
    have jl : j < xs.length := by omega
    exact ⟨q, xs, v, xs[j], rfl, rfl, kp.seq hq nq, at_of hj (List.getElem?_eq_getElem jl), k _ _ (List.getElem_mem jl) kp T'⟩
/-! ### whether a value is this integer; whether a value is True or False as due -/
theorem sc_whole : FnScope ["_law_value", "_law_due"] ["_law_value", "_law_due"] (defScope xWhole) := ⟨rfl, rfl, rfl, by decide +kernel, rfl, by decide +kernel, by decide +kernel⟩
def spWhole : Sp := fun vs H Q _ => ∃ a b : Int, vs = [.int a, .int b] ∧ Q (.bl (decide (a = b))) H
theorem ok_whole {f : Addr} {fd : FuncData} (F : Fun K "_law_whole_is" "_law_whole_is" xWhole f fd) (B : Bn mg) : FnOk P w K mg base CX0 1 f fd ["_law_value", "_law_due"] spWhole := by
  refine F.ok sc_whole (fun vs H Q E h => ?_) (fun cdv A outer s H vs Q E hr h => ?_)
  · obtain ⟨a, b, rfl, _⟩ := h
    rfl
  · obtain ⟨a, b, rfl, k⟩ := h
    refine ⟨_, pss_one (ps_ret (pe_and (pe_callB call_isi (by rfl) B.isi (by decide +kernel) (pa_cons (pv 0) (pa_cons (pe_bltn (v := .ty "int") (by rfl) B.int (by decide +kernel) rfl) pa_nil)))
      (pe_and (pe_not (pe_callB call_isi (by rfl) B.isi (by decide +kernel) (pa_cons (pv 0) (pa_cons (pe_bltn (v := .ty "bool") (by rfl) B.bool (by decide +kernel) rfl) pa_nil))))
      (pe_one (pe_cmp (pc_eqI (pv 0) (pv 1))))))), ?_⟩
    refine ⟨_, rfl, _, _, _, _, true, rfl, .ty _, .base (.int _), kit_ty (by decide +kernel), true, rfl, ?_⟩
    refine iteT ?_
    refine ⟨_, rfl, _, _, _, _, false, rfl, .ty _, .base (.int _), kit_ty (by decide +kernel), false, rfl, true, rfl, ?_⟩
    refine iteT ?_
    exact ⟨_, rfl, _, rfl, _, _, rfl, rfl, k⟩
theorem sc_truth : FnScope ["_law_value", "_law_due"] ["_law_value", "_law_due"] (defScope xTruth) := ⟨rfl, rfl, rfl, by decide +kernel, rfl, by decide +kernel, by decide +kernel⟩
def spTruth : Sp := fun vs H Q _ => ∃ a b : Bool, vs = [.bl a, .bl b] ∧ Q (.bl (decide (a = b))) H
theorem ok_truth {f : Addr} {fd : FuncData} (F : Fun K "_law_truth" "_law_truth" xTruth f fd) : FnOk P w K mg base CX0 1 f fd ["_law_value", "_law_due"] spTruth := by
  refine F.ok sc_truth (fun vs H Q E h => ?_) (fun cdv A outer s H vs Q E hr h => ?_)
  · obtain ⟨a, b, rfl, _⟩ := h
    rfl
  · obtain ⟨a, b, rfl, k⟩ := h
    refine ⟨_, pss_one (ps_ret (pe_ifExp (pt_val (pv 1)) (pe_cmpR op_isBl (pv 0) pe_bl (nomark _)) (pe_cmpR op_isBl (pv 0) pe_bl (nomark _)))), ?_⟩
    refine ⟨_, rfl, b, rfl, ?_⟩
    cases b with
    | true => exact iteT ⟨_, rfl, a, true, rfl, rfl, k⟩
    | false => exact iteF ⟨_, rfl, a, false, rfl, rfl, k⟩
/-! ### one and so many noughts -/
def zer (n : Nat) : Str := ⟨(List.replicate n (#[48] : Array Nat)).foldl (· ++ ·) #[]⟩
theorem ten_text : ∀ n < 46, PySem.intText? (("1" : Str) ++ zer n) = some ((10 : Int) ^ n) := by decide +kernel
theorem zer_len : ∀ n < 46, (zer n).length = n := by decide +kernel
theorem ten_len : ∀ n < 46, (("1" : Str) ++ zer n).length ≤ 640 := by decide +kernel
theorem op_mulZ {X : Cx} : OpR X (binaryOp .Mult) (fun x y H Q => ∃ n : Int, x = .str "0" ∧ y = .int n ∧ 0 ≤ n ∧ n ≤ 45 ∧ Q (.str (zer n.toNat)) H) := by
  intro pins s σ H x y v u Q I rx ry h
  obtain ⟨n, rfl, rfl, h0, h1, q⟩ := h
  obtain ⟨t, rfl⟩ := rx
  obtain ⟨t', rfl⟩ := ry
  have e1 : ("0" : Str).length = 1 := by decide +kernel
  have ev : (Value.str "0" t) = Value.str (Str.ofString "0") t := rfl
  refine PySem.P.mul_str (by rw [decide_eq_false (show ¬ n < -(2 ^ 63 : Int) by omega), decide_eq_false (show ¬ n ≥ (2 ^ 63 : Int) by omega)]; rfl) (fun _ _ => ?_) (fun _ _ => ?_) ?_
  · have h2 : (60 : Int) ≤ (2 ^ 63 - 1) / n ∨ n < 1 := by
      by_cases c : n < 1
      · exact .inr c
      · exact .inl (Int.le_ediv_of_mul_le (by omega) (by omega))
    rw [e1]
    rcases h2 with h2 | h2
    · omega
    · have : n = 0 := by omega
      subst this
      omega
  · rw [e1]
    unfold Builtin.Str.tooLong
    rw [sizeLine_eq]
    exact decide_eq_false (by omega)
  · rw [e1]
    have fin : ∀ t' s', Inv X pins σ H s' → EP X pins σ Q (.str (zer n.toNat) t') s' := fun t' s' I' => ⟨.str (zer n.toNat), H, I', ⟨_, rfl⟩, q⟩
    by_cases c0 : n < 1
    · have : n = 0 := by omega
      subst this
      rw [if_pos (by decide)]
      exact ⟨by decide, fin _ _ (I.tok _)⟩
    · rw [if_neg c0]
      by_cases c1 : n = 1
      · subst c1
        rw [if_pos (by decide)]
        exact fin _ _ I
      · rw [if_neg (by simp [c1])]
        refine ⟨?_, fin _ _ (I.tok _)⟩
        show (zer n.toNat).length ≤ sizeLine
        rw [zer_len _ (by omega), sizeLine_eq]
        omega
theorem sc_ten : FnScope ["_law_figures"] ["_law_figures"] (defScope xTen) := ⟨rfl, rfl, rfl, by decide +kernel, rfl, by decide +kernel, by decide +kernel⟩
def spTen : Sp := fun vs H Q _ => ∃ n : Nat, vs = [.int n] ∧ n < 46 ∧ Q (.int ((10 : Int) ^ n)) H
theorem ok_ten {f : Addr} {fd : FuncData} (F : Fun K "_law_ten" "_law_ten" xTen f fd) (B : Bn mg) : FnOk P w K mg base CX0 1 f fd ["_law_figures"] spTen := by
  refine F.ok sc_ten (fun vs H Q E h => ?_) (fun cdv A outer s H vs Q E hr h => ?_)
  · obtain ⟨n, rfl, _⟩ := h
    rfl
  · obtain ⟨n, rfl, hn, k⟩ := h
    refine ⟨_, pss_one (ps_ret (pe_callTy call_int_str (by rfl) B.int (by decide +kernel) (pa_cons (pe_op op_add_str pe_str (pe_op op_mulZ pe_str (pv 0))) pa_nil))), ?_⟩
    have hz := zer_len n hn
    refine ⟨_, rfl, _, rfl, rfl, by omega, by omega, _, _, rfl, rfl, ?_, _, _, rfl, ten_text n hn, ?_, k⟩
    · rw [Int.toNat_natCast, hz, show ("1" : Str).length = 1 by decide +kernel, sizeLine_eq]
      omega
    · exact ten_len n hn
/-! ### a long number -/
abbrev CalTen (P : Program) (w : World) (K : PySem.W.Frag) (mg : Str → Option Value) (base : Heap) : Prop := Cal P w K mg base CX0 1 "_law_ten" ["_law_figures"] spTen
theorem sc_long : FnScope ["_law_tape", "_law_figures", "_law_found", "_law_k"] ["_law_tape", "_law_figures"] (defScope xLong) := ⟨rfl, rfl, rfl, by decide +kernel, rfl, by decide +kernel, by decide +kernel⟩
def spLong : Sp := fun vs H Q _ => ∃ (p : Addr) (g A : Nat), vs = [.ref p, .int g] ∧ Tape H p A ∧ A ≤ 900000 ∧ g < 46 ∧ ∀ v H', 0 ≤ v → v < 10 ^ g → Keep p H H' → Tape H' p (A + 3) → Q (.int v) H'
theorem ok_long {f : Addr} {fd : FuncData} (F : Fun K "_law_long" "_law_long" xLong f fd) (B : Bn mg) (D : CalDraw P w K mg base) (N : CalTen P w K mg base) : FnOk P w K mg base CX0 2 f fd ["_law_tape", "_law_figures"] spLong := by
  refine F.ok sc_long (fun vs H Q E h => ?_) (fun cdv A outer s H vs Q E hr h => ?_)
  · obtain ⟨p, g, A, rfl, _⟩ := h
    rfl
  · obtain ⟨p, g, A, rfl, T, hA, hg, k⟩ := h
    refine ⟨_, pss_cons (ps_set (i := 2) sc_long.nd rfl (.inl rfl) pe_int)
      (pss_cons (ps_for PassesOwn.never rfl (pi_range1 (by rfl) B.range (pa_cons (pe_op op_fdiv (pe_op op_add (pv 1) pe_int) pe_int) pa_nil)) (pg_name (i := 3) sc_long.nd rfl (.inl rfl))
        (pss_one (ps_set (i := 2) sc_long.nd rfl (.inl rfl) (pe_op op_add (pe_op op_mul (pv 2) (pe_op op_pow pe_int pe_int)) (pe_cal D hr (by decide) pass0 rfl (pa_cons (pv 0) (pa_cons (pe_op op_pow pe_int pe_int) pa_nil)))))))
      (pss_one (ps_ret (pe_op op_mod (pe_callTy call_int1 (by rfl) B.int (by decide +kernel) (pa_cons (pv 2) pa_nil)) (pe_cal N hr (by decide) pass0 rfl (pa_cons (pv 1) pa_nil)))))), ?_⟩
    refine ⟨_, rfl, _, _, rfl, rfl, _, _, rfl, rfl, ⟨by decide, by decide⟩, _, rfl, by omega, by omega, for_range (lo := 0) (n := (((g : Int) + 14) / 15).toNat) (fun i σ H' => ∃ (z : Int) (v : Option V), σ = [some (.ref p), some (.int g), some (.int z), v] ∧ Keep p H H' ∧ Tape H' p (A + i)) ⟨0, none, rfl, Keep.refl _ _, T⟩ ?_ ?_⟩
    · rintro i σ H1 hi ⟨z, v, rfl, kp, T1⟩
      refine ⟨_, rfl, _, _, rfl, rfl, ⟨by decide, by decide, by decide⟩, _, _, rfl, rfl, .inr (by decide), _, rfl, _, _, rfl, rfl, ⟨by decide, by decide, by decide⟩, p, _, A + i, rfl, T1, by omega, by decide, by decide, fun u H2 u0 u1 kp2 T2 => ?_⟩
      exact ⟨_, _, rfl, rfl, _, _, rfl, kp.trans kp2, T2⟩
    · rintro σ H1 ⟨z, v, rfl, kp, T1⟩
      have t0 : (0 : Int) < 10 ^ g := Int.pow_pos (by decide)
      refine ⟨_, rfl, .inl ⟨_, rfl, _, rfl, g, rfl, hg, _, _, rfl, rfl, t0, ?_⟩⟩
      exact k _ _ (Int.emod_nonneg _ (by omega)) (Int.emod_lt_of_pos _ t0) kp (T1.mono (by omega))
end
end K41

set_option Elab.async false
set_option linter.all false
set_option maxRecDepth 100000
set_option maxHeartbeats 4000000
namespace K41
open PySem PySem.Spec PyProof.Rows L2
section
variable {P : Program} {w : World} {K : PySem.W.Frag} {mg : Str → Option Value} {base : Heap}
/-! ### a number of some figures -/
abbrev CalLong (P : Program) (w : World) (K : PySem.W.Frag) (mg : Str → Option Value) (base : Heap) : Prop := Cal P w K mg base CX0 2 "_law_long" ["_law_tape", "_law_figures"] spLong
theorem sc_size : FnScope ["_law_tape", "_law_figures", "_law_sort", "_law_found"] ["_law_tape", "_law_figures"] (defScope xSize) := ⟨rfl, rfl, rfl, by decide +kernel, rfl, by decide +kernel, by decide +kernel⟩
def spSize : Sp := fun vs H Q _ => ∃ (p : Addr) (g A : Nat), vs = [.ref p, .int g] ∧ Tape H p A ∧ A ≤ 800000 ∧ 1 ≤ g ∧ g < 45 ∧ ∀ v H', 0 ≤ v → v < 10 ^ g → Keep p H H' → Tape H' p (A + 5) → Q (.int v) H'
theorem ok_size {f : Addr} {fd : FuncData} (F : Fun K "_law_size" "_law_size" xSize f fd) (B : Bn mg) (D : CalDraw P w K mg base) (N : CalTen P w K mg base) (L : CalLong P w K mg base) : FnOk P w K mg base CX0 3 f fd ["_law_tape", "_law_figures"] spSize := by
  refine F.ok sc_size (fun vs H Q E h => ?_) (fun cdv A outer s H vs Q E hr h => ?_)
  · obtain ⟨p, g, A, rfl, _⟩ := h
    rfl
  · obtain ⟨p, g, A, rfl, T, hA, g1, g2, k⟩ := h
    refine ⟨_, pss_cons (ps_par (i := 2) (j := 3) rfl sc_size.nd rfl rfl (by decide) rfl rfl (pa_cons (pe_cal D hr (by decide) pass0 (by rfl) (pa_cons (pv 0) (pa_cons pe_int pa_nil))) (pa_cons pe_int pa_nil)) (by rfl))
      (C8.pss_cut (ps_if (pt_cmpR op_lt (pv 2) pe_int (nomark _))
          (pss_one (ps_set (i := 3) sc_size.nd rfl (.inl rfl) (pe_cal D hr (by decide) pass0 (by rfl) (pa_cons (pv 0) (pa_cons (pe_ix ix_list (pe_lst (pa_cons pe_int (pa_cons pe_int (pa_cons pe_int pa_nil)))) (pv 2) (fun _ _ => rfl)) pa_nil)))))
          (pss_one (ps_if (pt_cmpR op_eq (pv 2) pe_int (nomark _))
            (pss_one (ps_set (i := 3) sc_size.nd rfl (.inl rfl) (pe_cal L hr (by decide) pass0 (by rfl) (pa_cons (pv 0) (pa_cons (pe_op op_add pe_int (pe_cal D hr (by decide) pass0 (by rfl) (pa_cons (pv 0) (pa_cons (pv 1) pa_nil)))) pa_nil)))))
            (pss_one (ps_if (pt_cmpR op_eq (pv 2) pe_int (nomark _))
              (pss_one (ps_set (i := 3) sc_size.nd rfl (.inl rfl) (pe_cal L hr (by decide) pass0 (by rfl) (pa_cons (pv 0) (pa_cons (pv 1) pa_nil)))))
              (pss_one (ps_set (i := 3) sc_size.nd rfl (.inl rfl) (pe_callB (call_max2 rfl) (by rfl) B.max (by decide +kernel) (pa_cons pe_int (pa_cons
                (pe_op op_sub (pe_op op_sub (pe_cal N hr (by decide) pass0 (by rfl) (pa_cons (pe_op op_add pe_int (pe_cal D hr (by decide) pass0 (by rfl) (pa_cons (pv 0) (pa_cons (pv 1) pa_nil)))) pa_nil)) (pe_cal D hr (by decide) pass0 (by rfl) (pa_cons (pv 0) (pa_cons pe_int pa_nil)))) pe_int) pa_nil))))))))))
      (pss_one (ps_ret (pe_op op_mod (pe_callTy call_int1 (by rfl) B.int (by decide +kernel) (pa_cons (pv 3) pa_nil)) (pe_cal N hr (by decide) pass0 (by rfl) (pa_cons (pv 1) pa_nil)))))), ?_⟩
    refine ⟨_, rfl, p, _, A, rfl, T, by omega, by decide, by decide, fun so H1 so0 so1 kp1 T1 => ⟨_, _, rfl, fun σ H' => ∃ (z : Int) (v : Option V), σ = [some (.ref p), some (.int g), v, some (.int z)] ∧ Keep p H H' ∧ Tape H' p (A + 5), ?_, ?_⟩⟩
    · refine ⟨_, rfl, _, _, rfl, rfl, _, rfl, ?_⟩
      refine ite2 (fun h3 => ?_) (fun h3 => ?_)
      · have h3 := of_decide_eq_true h3
        obtain ⟨j, hj⟩ := Int.eq_ofNat_of_zero_le so0
        refine ⟨_, rfl, (by show 3 ≤ sizeLine; decide), fun q nq => ?_⟩
        have s1 := same_new (o := .lst [.int 5, .int 13, .int 90]) nq
        have hx : ∃ m : Int, ([.int 5, .int 13, .int 90] : List V)[j]? = some (.int m) ∧ 1 ≤ m ∧ m ≤ 90 := by
          have : j = 0 ∨ j = 1 ∨ j = 2 := by omega
          rcases this with e | e | e <;> subst e
          · exact ⟨5, rfl, by decide, by decide⟩
          · exact ⟨13, rfl, by decide, by decide⟩
          · exact ⟨90, rfl, by decide, by decide⟩
        obtain ⟨m, hm, m1, m2⟩ := hx
        refine ⟨_, rfl, q, _, _, _, rfl, rfl, SqL.of upd_same, at_of hj hm, p, m, A + 1, rfl, T1.keep s1, by omega, m1, by omega, fun u H2 u0 u1 kp2 T2 => ?_⟩
        exact ⟨u, _, rfl, kp1.trans ((Keep.of_same s1).trans kp2), T2.mono (by omega)⟩
      · refine ⟨_, rfl, rfl, _, rfl, ?_⟩
        refine ite2 (fun h4 => ?_) (fun h4 => ?_)
        · refine ⟨_, rfl, _, rfl, _, rfl, p, _, A + 1, rfl, T1, by omega, by omega, by omega, fun u H2 u0 u1 kp2 T2 => ?_⟩
          obtain ⟨j, hj⟩ := Int.eq_ofNat_of_zero_le u0
          subst hj
          refine ⟨_, _, rfl, rfl, p, 1 + j, A + 2, rfl, T2, by omega, by omega, fun u3 H3 u30 u31 kp3 T3 => ?_⟩
          exact ⟨u3, _, rfl, kp1.trans (kp2.trans kp3), T3.mono (by omega)⟩
        · refine ⟨_, rfl, rfl, _, rfl, ?_⟩
          refine ite2 (fun h5 => ?_) (fun h5 => ?_)
          · refine ⟨_, rfl, _, rfl, p, g, A + 1, rfl, T1, by omega, by omega, fun u3 H3 u30 u31 kp3 T3 => ?_⟩
            exact ⟨u3, _, rfl, kp1.trans kp3, T3.mono (by omega)⟩
          · refine ⟨_, rfl, _, rfl, p, _, A + 1, rfl, T1, by omega, by omega, by omega, fun u H2 u0 u1 kp2 T2 => ?_⟩
            obtain ⟨j, hj⟩ := Int.eq_ofNat_of_zero_le u0
            subst hj
            refine ⟨_, _, rfl, rfl, 1 + j, rfl, by omega, _, rfl, p, _, A + 2, rfl, T2, by omega, by decide, by decide, fun u3 H3 u30 u31 kp3 T3 => ?_⟩
            refine ⟨_, _, rfl, rfl, _, _, rfl, rfl, _, _, rfl, ?_⟩
            exact ⟨_, _, rfl, kp1.trans (kp2.trans kp3), T3.mono (by omega)⟩
    · rintro σ H1 ⟨z, v, rfl, kp, T1⟩
      have t0 : (0 : Int) < 10 ^ g := Int.pow_pos (by decide)
      refine ⟨_, rfl, .inl ⟨_, rfl, _, rfl, g, rfl, by omega, _, _, rfl, rfl, t0, ?_⟩⟩
      exact k _ _ (Int.emod_nonneg _ (by omega)) (Int.emod_lt_of_pos _ t0) kp T1
/-! ### a number of either sign -/
abbrev CalSize (P : Program) (w : World) (K : PySem.W.Frag) (mg : Str → Option Value) (base : Heap) : Prop := Cal P w K mg base CX0 3 "_law_size" ["_law_tape", "_law_figures"] spSize
theorem sc_signed : FnScope ["_law_tape", "_law_figures", "_law_found"] ["_law_tape", "_law_figures"] (defScope xSigned) := ⟨rfl, rfl, rfl, by decide +kernel, rfl, by decide +kernel, by decide +kernel⟩
def spSigned : Sp := fun vs H Q _ => ∃ (p : Addr) (g A : Nat), vs = [.ref p, .int g] ∧ Tape H p A ∧ A ≤ 700000 ∧ 1 ≤ g ∧ g < 45 ∧ ∀ v H', -(10 ^ g) < v → v < 10 ^ g → Keep p H H' → Tape H' p (A + 6) → Q (.int v) H'
theorem ok_signed {f : Addr} {fd : FuncData} (F : Fun K "_law_signed" "_law_signed" xSigned f fd) (D : CalDraw P w K mg base) (Z : CalSize P w K mg base) : FnOk P w K mg base CX0 4 f fd ["_law_tape", "_law_figures"] spSigned := by
  refine F.ok sc_signed (fun vs H Q E h => ?_) (fun cdv A outer s H vs Q E hr h => ?_)
  · obtain ⟨p, g, A, rfl, _⟩ := h
    rfl
  · obtain ⟨p, g, A, rfl, T, hA, g1, g2, k⟩ := h
    refine ⟨_, pss_cons (ps_set (i := 2) sc_signed.nd rfl (.inl rfl) (pe_cal Z hr (by decide) pass0 (by rfl) (pa_cons (pv 0) (pa_cons (pv 1) pa_nil))))
      (pss_one (ps_ret (pe_ifExp (pt_truth (pe_cal D hr (by decide) pass0 (by rfl) (pa_cons (pv 0) (pa_cons pe_int pa_nil))) (by intro _; rfl)) (pe_un un_neg (pv 2)) (pv 2)))), ?_⟩
    refine ⟨_, rfl, _, rfl, p, g, A, rfl, T, by omega, g1, g2, fun z H1 z0 z1 kp1 T1 => ?_⟩
    refine ⟨_, rfl, p, _, A + 5, rfl, T1, by omega, by decide, by decide, fun u H2 u0 u1 kp2 T2 => ⟨_, rfl, ?_⟩⟩
    refine ite2 (fun _ => ?_) (fun _ => ?_)
    · exact ⟨_, rfl, _, rfl, k _ _ (by omega) (by omega) (kp1.trans kp2) T2⟩
    · exact ⟨_, rfl, k _ _ (by omega) (by omega) (kp1.trans kp2) T2⟩
end
end K41

set_option Elab.async false
set_option linter.all false
set_option maxRecDepth 100000
set_option maxHeartbeats 4000000
namespace K41
open PySem PySem.Spec PyProof.Rows L2
abbrev xIsInt : Stmt := top 5
abbrev xIsWhole : Stmt := top 6
abbrev xNeedInt : Stmt := top 7
abbrev xNeedPos : Stmt := top 8
abbrev xInit : Stmt := inClass (top 11) 0
abbrev xRun : Stmt := top 14
abbrev xParted : Stmt := top 15
section
variable {P : Program} {w : World} {K : PySem.W.Frag} {mg : Str → Option Value} {base : Heap}
/-! ### looks at ints -/
theorem sc_isInt : FnScope ["value"] ["value"] (defScope xIsInt) := ⟨rfl, rfl, rfl, by decide +kernel, rfl, by decide +kernel, by decide +kernel⟩
def spIsInt : Sp := fun vs H Q _ => ∃ i : Int, vs = [.int i] ∧ Q (.bl true) H
theorem ok_isInt {f : Addr} {fd : FuncData} (F : Fun K "is_integer" "is_integer" xIsInt f fd) (B : Bn mg) : FnOk P w K mg base CX0 1 f fd ["value"] spIsInt := by
  refine F.ok sc_isInt (fun vs H Q E h => ?_) (fun cdv A outer s H vs Q E hr h => ?_)
  · obtain ⟨i, rfl, _⟩ := h
    rfl
  · obtain ⟨i, rfl, k⟩ := h
    refine ⟨_, pss_one (ps_ret (pe_and (pe_callB call_isi (by rfl) B.isi (by decide +kernel) (pa_cons (pv 0) (pa_cons (pe_bltn (v := .ty "int") (by rfl) B.int (by decide +kernel) rfl) pa_nil)))
      (pe_one (pe_not (pe_callB call_isi (by rfl) B.isi (by decide +kernel) (pa_cons (pv 0) (pa_cons (pe_bltn (v := .ty "bool") (by rfl) B.bool (by decide +kernel) rfl) pa_nil))))))), ?_⟩
    refine ⟨_, rfl, _, _, _, _, true, rfl, .ty _, .base (.int _), kit_ty (by decide +kernel), true, rfl, ?_⟩
    refine iteT ?_
    exact ⟨_, rfl, _, _, _, _, false, rfl, .ty _, .base (.int _), kit_ty (by decide +kernel), false, rfl, k⟩
abbrev CalIsInt (P : Program) (w : World) (K : PySem.W.Frag) (mg : Str → Option Value) (base : Heap) : Prop := Cal P w K mg base CX0 1 "is_integer" ["value"] spIsInt
theorem sc_isWhole : FnScope ["value"] ["value"] (defScope xIsWhole) := ⟨rfl, rfl, rfl, by decide +kernel, rfl, by decide +kernel, by decide +kernel⟩
def spIsWhole : Sp := fun vs H Q _ => ∃ i : Int, vs = [.int i] ∧ 0 ≤ i ∧ Q (.bl true) H
theorem ok_isWhole {f : Addr} {fd : FuncData} (F : Fun K "is_whole" "is_whole" xIsWhole f fd) (I : CalIsInt P w K mg base) : FnOk P w K mg base CX0 2 f fd ["value"] spIsWhole := by
  refine F.ok sc_isWhole (fun vs H Q E h => ?_) (fun cdv A outer s H vs Q E hr h => ?_)
  · obtain ⟨i, rfl, _⟩ := h
    rfl
  · obtain ⟨i, rfl, h0, k⟩ := h
    refine ⟨_, pss_one (ps_ret (pe_and (pe_cal I hr (by decide) pass0 (by rfl) (pa_cons (pv 0) pa_nil)) (pe_one (pe_cmp (pc_ge (pv 0) pe_int))))), ?_⟩
    refine ⟨_, rfl, i, rfl, true, rfl, ?_⟩
    refine iteT ?_
    refine ⟨_, rfl, _, _, rfl, rfl, ?_⟩
    show Q (.bl (decide (0 ≤ i))) H
    rw [decide_eq_true h0]
    exact k
abbrev CalIsWhole (P : Program) (w : World) (K : PySem.W.Frag) (mg : Str → Option Value) (base : Heap) : Prop := Cal P w K mg base CX0 2 "is_whole" ["value"] spIsWhole
theorem sc_needInt : FnScope ["value"] ["value"] (defScope xNeedInt) := ⟨rfl, rfl, rfl, by decide +kernel, rfl, by decide +kernel, by decide +kernel⟩
def spNeedInt : Sp := fun vs H Q _ => ∃ i : Int, vs = [.int i] ∧ Q .non H
theorem ok_needInt {f : Addr} {fd : FuncData} (F : Fun K "need_integer" "need_integer" xNeedInt f fd) (I : CalIsInt P w K mg base) : FnOk P w K mg base CX0 2 f fd ["value"] spNeedInt := by
  refine F.ok sc_needInt (fun vs H Q E h => ?_) (fun cdv A outer s H vs Q E hr h => ?_)
  · obtain ⟨i, rfl, _⟩ := h
    rfl
  · obtain ⟨i, rfl, k⟩ := h
    refine ⟨_, pss_one (ps_if (pt_not (pt_val (pe_cal I hr (by decide) pass0 (by rfl) (pa_cons (pv 0) pa_nil)))) pss_never pss_nil), ?_⟩
    exact ⟨_, rfl, i, rfl, true, rfl, iteF k⟩
abbrev CalNeedInt (P : Program) (w : World) (K : PySem.W.Frag) (mg : Str → Option Value) (base : Heap) : Prop := Cal P w K mg base CX0 2 "need_integer" ["value"] spNeedInt
theorem sc_needPos : FnScope ["value"] ["value"] (defScope xNeedPos) := ⟨rfl, rfl, rfl, by decide +kernel, rfl, by decide +kernel, by decide +kernel⟩
def spNeedPos : Sp := fun vs H Q _ => ∃ i : Int, vs = [.int i] ∧ 1 ≤ i ∧ Q .non H
theorem ok_needPos {f : Addr} {fd : FuncData} (F : Fun K "need_positive" "need_positive" xNeedPos f fd) (I : CalIsWhole P w K mg base) : FnOk P w K mg base CX0 3 f fd ["value"] spNeedPos := by
  refine F.ok sc_needPos (fun vs H Q E h => ?_) (fun cdv A outer s H vs Q E hr h => ?_)
  · obtain ⟨i, rfl, _⟩ := h
    rfl
  · obtain ⟨i, rfl, h1, k⟩ := h
    refine ⟨_, pss_one (ps_if (PW.pt (pw_or (pt_not (pt_val (pe_cal I hr (by decide) pass0 (by rfl) (pa_cons (pv 0) pa_nil)))) (pw_or1 (pt_cmpR op_eq (pv 0) pe_int (nomark _))))) pss_never pss_nil), ?_⟩
    refine ⟨_, rfl, i, rfl, by omega, true, rfl, iteF ?_⟩
    refine ⟨_, rfl, rfl, _, rfl, ?_⟩
    rw [decide_eq_false (show ¬ V.int i = V.int 0 from fun z => by have := V.int.inj z; omega)]
    exact iteF k
abbrev CalNeedPos (P : Program) (w : World) (K : PySem.W.Frag) (mg : Str → Option Value) (base : Heap) : Prop := Cal P w K mg base CX0 3 "need_positive" ["value"] spNeedPos
/-! ### a Deal -/
def dealF (B P S : Int) : List (Str × V) := [("houses", .int P), ("block", .int B), ("shift", .int S)]
theorem deal_h (B P S : Int) : (dealF B P S).lookup ("houses" : Str) = some (.int P) := by rfl
theorem deal_b (B P S : Int) : (dealF B P S).lookup ("block" : Str) = some (.int B) := by rfl
theorem deal_s (B P S : Int) : (dealF B P S).lookup ("shift" : Str) = some (.int S) := by rfl
def DealAt (C : Addr) (H : Hp) (p : Addr) (B P S : Int) : Prop := ∃ dx, H p = some (.ins C dx (dealF B P S))
theorem DealAt.keep {C p : Addr} {H H' : Hp} {B P S : Int} (h : DealAt C H p B P S) (s : Same H H') : DealAt C H' p B P S := let ⟨dx, e⟩ := h; ⟨dx, s _ _ e⟩
/-- what the class has -/
structure DealC (K : PySem.W.Frag) (mg : Str → Option Value) (C : Addr) : Prop where
  cl : Cls K C
  nh : NoAttr K C "houses"
  nb : NoAttr K C "block"
  ns : NoAttr K C "shift"
  mgC : mg "Deal" = some (.ref C)
def big : Int := 10 ^ 40
theorem sc_init : FnScope ["self", "block", "houses", "shift"] ["self", "block", "houses", "shift"] (defScope xInit) := ⟨rfl, rfl, rfl, by decide +kernel, rfl, by decide +kernel, by decide +kernel⟩
def spInit (C : Addr) : Sp := fun vs H Q _ => ∃ (p dx : Addr) (b h s : Int), vs = [.ref p, .int b, .int h, .int s] ∧ H p = some (.ins C dx []) ∧ 1 ≤ b ∧ b ≤ 10 ^ 40 ∧ 1 ≤ h ∧ h ≤ 10 ^ 40 ∧
  ∀ H', H' p = some (.ins C dx (dealF (dB b h) h (dS b h s))) → Keep p H H' → Q .non H'
abbrev initPs : List Str := ["self", "block", "houses", "shift"]
abbrev FunInit (K : PySem.W.Frag) (f : Addr) (fd : FuncData) : Prop := FunD K "__init__" "Deal.__init__" (defArgs xInit) (defBody xInit) (defScope xInit) [.int 0] [] f fd
theorem ok_init {f C : Addr} {fd : FuncData} (F : FunInit K f fd) (T : DealC K mg C) (NP : CalNeedPos P w K mg base) (NI : CalNeedInt P w K mg base) : FnOk P w K mg base CX0 4 f fd initPs (spInit C) := by
  refine F.ok sc_init (fun vs H Q E h => ?_) (fun cdv A outer s H vs Q E hr h => ?_)
  · obtain ⟨p, dx, b, h, s, rfl, _⟩ := h
    rfl
  · obtain ⟨p, dx, b, h, sh, rfl, hp, b1, b2, h1, h2, k⟩ := h
    refine ⟨_, pss_cons (ps_expr (pe_cal NP hr (by decide) pass0 (by rfl) (pa_cons (pv 1) pa_nil)))
      (pss_cons (ps_expr (pe_cal NP hr (by decide) pass0 (by rfl) (pa_cons (pv 2) pa_nil)))
      (pss_cons (ps_expr (pe_cal NI hr (by decide) pass0 (by rfl) (pa_cons (pv 3) pa_nil)))
      (pss_cons (ps_fld (pv 0) (pv 2) rfl)
      (pss_cons (ps_fld (pv 0) (pe_ifExp (pt_cmpR op_gt (pv 2) pe_int (nomark _)) (pv 1) pe_int) rfl)
      (pss_one (ps_fld (pv 0) (pe_op op_mod (pv 3) (pe_op op_mulW (pe_fld (pv 0) rfl) (pv 2))) rfl)))))), ?_⟩
    refine ⟨_, rfl, b, rfl, b1, _, rfl, h, rfl, h1, _, rfl, sh, rfl, ?_⟩
    refine ⟨_, rfl, _, rfl, p, C, dx, _, rfl, hp, T.cl, T.nh, (by show 0 < 1000; decide), ?_⟩
    have db := dB_pos (b := b) (P := h) b1
    have db2 : dB b h ≤ 10 ^ 40 := by unfold dB; split <;> omega
    have m0 : 0 < dB b h * h := Int.mul_pos (by omega) (by omega)
    have mw : CMulW (dB b h) h := wide_mul (a := 200) (b := 200) (by omega) (by omega) (by decide) (by decide) (by decide)
    have fin : ∀ H' : Hp, H' = upd (upd (upd H p (.ins C dx [("houses", .int h)])) p (.ins C dx [("houses", .int h), ("block", .int (dB b h))])) p (.ins C dx (dealF (dB b h) h (dS b h sh))) → Q .non H' := fun H' e => by
      subst e
      exact k _ upd_same (Keep.put.trans (Keep.put.trans Keep.put))
    refine ⟨_, rfl, _, _, rfl, rfl, _, rfl, ?_⟩
    by_cases c : h > 1
    · have e : dB b h = b := if_pos c
      rw [e] at fin m0 mw
      rw [decide_eq_true (show (1 : Int) < h from c)]
      refine iteT ⟨_, rfl, _, rfl, p, C, dx, _, rfl, upd_same, T.cl, T.nb, (by show 1 < 1000; decide), ?_⟩
      refine ⟨_, rfl, _, rfl, p, C, dx, _, .int b, rfl, upd_same, T.cl, T.nb, by rfl, _, rfl, _, _, rfl, rfl, mw, _, _, rfl, rfl, m0, _, rfl, p, C, dx, _, rfl, upd_same, T.cl, T.ns, (by show 2 < 1000; decide), ?_⟩
      refine fin _ ?_
      unfold dS
      rw [e]
      rfl
    · have e : dB b h = 1 := if_neg c
      rw [e] at fin m0 mw
      rw [decide_eq_false (show ¬ (1 : Int) < h from c)]
      refine iteF ⟨_, rfl, p, C, dx, _, rfl, upd_same, T.cl, T.nb, (by show 1 < 1000; decide), ?_⟩
      refine ⟨_, rfl, _, rfl, p, C, dx, _, .int 1, rfl, upd_same, T.cl, T.nb, by rfl, _, rfl, _, _, rfl, rfl, mw, _, _, rfl, rfl, m0, _, rfl, p, C, dx, _, rfl, upd_same, T.cl, T.ns, (by show 2 < 1000; decide), ?_⟩
      refine fin _ ?_
      unfold dS
      rw [e]
      rfl
end
end K41

set_option Elab.async false
set_option linter.all false
set_option maxRecDepth 100000
set_option maxHeartbeats 4000000
namespace K41
open PySem PySem.Spec PyProof.Rows L2
section
variable {P : Program} {w : World} {K : PySem.W.Frag} {mg : Str → Option Value} {base : Heap}
/-! ### a deal as it was drawn -/
def TupAt (H : Hp) (t : Addr) (b h s : Int) : Prop := H t = some (.tup [.int b, .int h, .int s])
theorem TupAt.sq {H : Hp} {t : Addr} {b h s : Int} (T : TupAt H t b h s) : SqT K H t [.int b, .int h, .int s] := SqT.of T
theorem at0 {b h s : V} : atI [b, h, s] 0 = some b := at_of (j := 0) rfl rfl
theorem at1 {b h s : V} : atI [b, h, s] 1 = some h := at_of (j := 1) rfl rfl
theorem at2 {b h s : V} : atI [b, h, s] 2 = some s := at_of (j := 2) rfl rfl
theorem sc_small : FnScope ["_law_deal", "_law_i"] ["_law_deal", "_law_i"] (defScope xSmall) := ⟨rfl, rfl, rfl, by decide +kernel, rfl, by decide +kernel, by decide +kernel⟩
def spSmall : Sp := fun vs H Q _ => ∃ (t : Addr) (b h s i : Int), vs = [.ref t, .int i] ∧ TupAt H t b h s ∧ 1 ≤ b ∧ b ≤ 10 ^ 60 ∧ 1 ≤ h ∧ Q (.int (hs b h s i)) H
theorem ok_small {f : Addr} {fd : FuncData} (F : Fun K "_law_small_house" "_law_small_house" xSmall f fd) : FnOk P w K mg base CX0 1 f fd ["_law_deal", "_law_i"] spSmall := by
  refine F.ok sc_small (fun vs H Q E h => ?_) (fun cdv A outer s H vs Q E hr h => ?_)
  · obtain ⟨t, b, h, s, i, rfl, _⟩ := h
    rfl
  · obtain ⟨t, b, h, sh, i, rfl, T, b1, b2, h1, k⟩ := h
    refine ⟨_, pss_one (ps_ret (pe_op op_mod (pe_op op_fdivW (pe_op op_add (pv 1) (pe_ix ix_tup (pv 0) pe_int (fun _ _ => rfl))) (pe_ix ix_tup (pv 0) pe_int (fun _ _ => rfl))) (pe_ix ix_tup (pv 0) pe_int (fun _ _ => rfl)))), ?_⟩
    refine ⟨_, rfl, _, rfl, t, _, _, _, rfl, rfl, T.sq, at2, _, _, rfl, rfl, _, rfl, t, _, _, _, rfl, rfl, T.sq, at0, _, _, rfl, rfl, ?_, _, rfl, t, _, _, _, rfl, rfl, T.sq, at1, _, _, rfl, rfl, (show 0 < h by omega), k⟩
    exact wide_div (b := 250) (by omega) (by omega) (by decide) (by decide)
abbrev CalSmall (P : Program) (w : World) (K : PySem.W.Frag) (mg : Str → Option Value) (base : Heap) : Prop := Cal P w K mg base CX0 1 "_law_small_house" ["_law_deal", "_law_i"] spSmall
theorem sc_tog : FnScope ["_law_deal", "_law_i", "_law_j"] ["_law_deal", "_law_i", "_law_j"] (defScope xTog) := ⟨rfl, rfl, rfl, by decide +kernel, rfl, by decide +kernel, by decide +kernel⟩
def spTog : Sp := fun vs H Q _ => ∃ (t : Addr) (b h s i j : Int), vs = [.ref t, .int i, .int j] ∧ TupAt H t b h s ∧ 1 ≤ b ∧ b ≤ 10 ^ 60 ∧ 1 ≤ h ∧ Q (.bl (decide (hs b h s i = hs b h s j))) H
theorem ok_tog {f : Addr} {fd : FuncData} (F : Fun K "_law_together" "_law_together" xTog f fd) (Z : CalSmall P w K mg base) : FnOk P w K mg base CX0 2 f fd ["_law_deal", "_law_i", "_law_j"] spTog := by
  refine F.ok sc_tog (fun vs H Q E h => ?_) (fun cdv A outer s H vs Q E hr h => ?_)
  · obtain ⟨t, b, h, s, i, j, rfl, _⟩ := h
    rfl
  · obtain ⟨t, b, h, sh, i, j, rfl, T, b1, b2, h1, k⟩ := h
    refine ⟨_, pss_one (ps_ret (pe_cmp (pc_eqI (pe_cal Z hr (by decide) pass0 (by rfl) (pa_cons (pv 0) (pa_cons (pv 1) pa_nil))) (pe_cal Z hr (by decide) pass0 (by rfl) (pa_cons (pv 0) (pa_cons (pv 2) pa_nil)))))), ?_⟩
    exact ⟨_, rfl, _, rfl, t, b, h, sh, i, rfl, T, b1, b2, h1, _, rfl, _, rfl, t, b, h, sh, j, rfl, T, b1, b2, h1, _, _, rfl, rfl, k⟩
abbrev CalTog (P : Program) (w : World) (K : PySem.W.Frag) (mg : Str → Option Value) (base : Heap) : Prop := Cal P w K mg base CX0 2 "_law_together" ["_law_deal", "_law_i", "_law_j"] spTog
theorem sc_ahead : FnScope ["_law_deal"] ["_law_deal"] (defScope xAhead) := ⟨rfl, rfl, rfl, by decide +kernel, rfl, by decide +kernel, by decide +kernel⟩
def spAhead : Sp := fun vs H Q _ => ∃ (t : Addr) (b h s : Int), vs = [.ref t] ∧ TupAt H t b h s ∧ 1 ≤ b ∧ 1 < h ∧ Q (.int (frun b s)) H
theorem ok_ahead {f : Addr} {fd : FuncData} (F : Fun K "_law_ahead_of" "_law_ahead_of" xAhead f fd) (B : Bn mg) : FnOk P w K mg base CX0 1 f fd ["_law_deal"] spAhead := by
  refine F.ok sc_ahead (fun vs H Q E h => ?_) (fun cdv A outer s H vs Q E hr h => ?_)
  · obtain ⟨t, b, h, s, rfl, _⟩ := h
    rfl
  · obtain ⟨t, b, h, sh, rfl, T, b1, h1, k⟩ := h
    refine ⟨_, pss_one (ps_ret (pe_ifExp (pt_cmpR op_gt (pe_ix ix_tup (pv 0) pe_int (fun _ _ => rfl)) pe_int (nomark _))
      (pe_op op_sub (pe_ix ix_tup (pv 0) pe_int (fun _ _ => rfl)) (pe_op op_mod (pe_callTy call_int1 (by rfl) B.int (by decide +kernel) (pa_cons (pe_ix ix_tup (pv 0) pe_int (fun _ _ => rfl)) pa_nil)) (pe_ix ix_tup (pv 0) pe_int (fun _ _ => rfl)))) pe_int)), ?_⟩
    refine ⟨_, rfl, t, _, _, _, rfl, rfl, T.sq, at1, _, _, rfl, rfl, _, rfl, ?_⟩
    rw [decide_eq_true (show (1 : Int) < h from h1)]
    refine iteT ⟨_, rfl, t, _, _, _, rfl, rfl, T.sq, at0, _, rfl, t, _, _, _, rfl, rfl, T.sq, at2, .inl ⟨_, rfl, _, rfl, t, _, _, _, rfl, rfl, T.sq, at0, _, _, rfl, rfl, (show 0 < b by omega), _, _, rfl, rfl, k⟩⟩
abbrev CalAhead (P : Program) (w : World) (K : PySem.W.Frag) (mg : Str → Option Value) (base : Heap) : Prop := Cal P w K mg base CX0 1 "_law_ahead_of" ["_law_deal"] spAhead
theorem sc_alike : FnScope ["_law_one", "_law_other"] ["_law_one", "_law_other"] (defScope xAlike) := ⟨rfl, rfl, rfl, by decide +kernel, rfl, by decide +kernel, by decide +kernel⟩
def spAlike : Sp := fun vs H Q _ => ∃ (t u : Addr) (b1 h1 s1 b2 h2 s2 : Int), vs = [.ref t, .ref u] ∧ TupAt H t b1 h1 s1 ∧ TupAt H u b2 h2 s2 ∧ 1 ≤ b1 ∧ 1 ≤ h1 ∧ 1 ≤ b2 ∧ 1 ≤ h2 ∧ ∀ H', Same H H' → Q (.bl (alk b1 h1 s1 b2 h2 s2)) H'
theorem cut2 (b h s : V) : cutV [b, h, s] none (some 2) = [b, h] := by rfl
theorem eqv2 (a b c d : Int) : PyData.eqv (.tuple [.int a, .int b]) (.tuple [.int c, .int d]) = (decide (a = c) && decide (b = d)) := by
  simp [PyData.eqv, PyData.eqvAll, Bool.beq_eq_decide_eq]
theorem ok_alike {f : Addr} {fd : FuncData} (F : Fun K "_law_alike" "_law_alike" xAlike f fd) (Z : CalAhead P w K mg base) : FnOk P w K mg base CX0 2 f fd ["_law_one", "_law_other"] spAlike := by
  refine F.ok sc_alike (fun vs H Q E h => ?_) (fun cdv A outer s H vs Q E hr h => ?_)
  · obtain ⟨t, u, b1, h1, s1, b2, h2, s2, rfl, _⟩ := h
    rfl
  · obtain ⟨t, u, b1, h1, s1, b2, h2, s2, rfl, T, U, pb1, ph1, pb2, ph2, k⟩ := h
    refine ⟨_, pss_cons (ps_if (PW.pt (pw_or (pt_cmpR op_eq (pe_ix ix_tup (pv 0) pe_int (fun _ _ => rfl)) pe_int (nomark _)) (pw_or1 (pt_cmpR op_eq (pe_ix ix_tup (pv 1) pe_int (fun _ _ => rfl)) pe_int (nomark _)))))
        (pss_one (ps_ret (pe_cmp (pc_eqI (pe_ix ix_tup (pv 0) pe_int (fun _ _ => rfl)) (pe_ix ix_tup (pv 1) pe_int (fun _ _ => rfl)))))) pss_nil)
      (pss_one (ps_ret (pe_and (pe_cmpR (op_eqD hr.units) (pe_slice sl_tup (pv 0) po_none (po_some pe_int)) (pe_slice sl_tup (pv 1) po_none (po_some pe_int)) (nomark _))
        (pe_one (pe_cmp (pc_eqI (pe_cal Z hr (by decide) pass0 (by rfl) (pa_cons (pv 0) pa_nil)) (pe_cal Z hr (by decide) pass0 (by rfl) (pa_cons (pv 1) pa_nil)))))))), ?_⟩
    have one : (h1 = 1 ∨ h2 = 1) → Q (.bl (decide (h1 = h2))) H := fun c => by
      have e : alk b1 h1 s1 b2 h2 s2 = decide (h1 = h2) := by unfold alk; rw [if_pos c]
      rw [← e]
      exact k H (Same.refl H)
    refine ⟨_, rfl, t, _, _, _, rfl, rfl, T.sq, at1, rfl, _, rfl, ?_⟩
    refine ite2 (fun c => ?_) (fun c => ?_)
    · have c := V.int.inj (of_decide_eq_true c)
      exact ⟨_, rfl, t, _, _, _, rfl, rfl, T.sq, at1, _, rfl, u, _, _, _, rfl, rfl, U.sq, at1, _, _, rfl, rfl, one (.inl c)⟩
    · have c : ¬ h1 = 1 := fun z => c (by rw [z]; rfl)
      refine ⟨_, rfl, u, _, _, _, rfl, rfl, U.sq, at1, rfl, _, rfl, ?_⟩
      refine ite2 (fun c2 => ?_) (fun c2 => ?_)
      · have c2 := V.int.inj (of_decide_eq_true c2)
        exact ⟨_, rfl, t, _, _, _, rfl, rfl, T.sq, at1, _, rfl, u, _, _, _, rfl, rfl, U.sq, at1, _, _, rfl, rfl, one (.inr c2)⟩
      · have c2 : ¬ h2 = 1 := fun z => c2 (by rw [z]; rfl)
        refine ⟨_, rfl, 2, rfl, t, _, rfl, T.sq, (by show ¬ (HT.sIx 3 0 none = 0 ∧ HT.sIx 3 3 (some 2) = 3); decide), fun p np => ?_⟩
        have sm1 := same_new (o := .tup (cutV [.int b1, .int h1, .int s1] none (some 2))) np
        have T1 : TupAt _ t b1 h1 s1 := sm1 _ _ T
        have U1 : TupAt _ u b2 h2 s2 := sm1 _ _ U
        refine ⟨_, rfl, 2, rfl, u, _, rfl, U1.sq, (by show ¬ (HT.sIx 3 0 none = 0 ∧ HT.sIx 3 3 (some 2) = 3); decide), fun q nq => ?_⟩
        have sm2 := same_new (o := .tup (cutV [.int b2, .int h2, .int s2] none (some 2))) nq
        have T2 : TupAt _ t b1 h1 s1 := sm2 _ _ T1
        have U2 : TupAt _ u b2 h2 s2 := sm2 _ _ U1
        refine ⟨.tuple [.int b1, .int h1], .tuple [.int b2, .int h2], .tup (SqT.of (sm2 _ _ upd_same)) (.cons (.int _) (.cons (.int _) .nil)), .tup (SqT.of upd_same) (.cons (.int _) (.cons (.int _) .nil)), by rfl, by rfl, _, rfl, ?_⟩
        have e : alk b1 h1 s1 b2 h2 s2 = (decide (b1 = b2) && decide (h1 = h2) && decide (frun b1 s1 = frun b2 s2)) := by unfold alk; rw [if_neg (by omega)]
        rw [eqv2]
        refine ite2 (fun d => ?_) (fun d => ?_)
        · rw [d, Bool.true_and] at e
          refine ⟨_, rfl, t, b1, h1, s1, rfl, T2, pb1, by omega, _, rfl, u, b2, h2, s2, rfl, U2, pb2, by omega, _, _, rfl, rfl, ?_⟩
          have z := k _ (sm1.trans sm2)
          rw [e] at z
          exact z
        · have d : (decide (b1 = b2) && decide (h1 = h2)) = false := by simpa using d
          rw [d, Bool.false_and] at e
          have z := k _ (sm1.trans sm2)
          rw [e] at z
          exact z
end
end K41

set_option Elab.async false
set_option linter.all false
set_option maxRecDepth 100000
set_option maxHeartbeats 4000000
namespace K41
open PySem PySem.Spec PyProof.Rows L2
section
variable {P : Program} {w : World} {K : PySem.W.Frag} {mg : Str → Option Value} {base : Heap}
/-! ### the Deal of a drawn one -/
structure DealM (P : Program) (w : World) (K : PySem.W.Frag) (mg : Str → Option Value) (base : Heap) (C : Addr) : Prop where
  ex : ∃ (f : Addr) (fd : FuncData), Mk K C f ∧ FnOk P w K mg base CX0 4 f fd initPs (spInit C) ∧ Binds K fd initPs [] ∧ ∃ ds, Vals [.int 0] ds ∧ Binds K fd initPs ds
section
variable {X : Cx} {j : Nat} {C : Addr} {p pos : Pos} {e : Expr} {es : List Expr} {t : TA}
theorem pe_deal (D : DealM X.prog X.w X.K X.mg X.base C) (T : DealC X.K X.mg C) (hr : Room j X.A) (hj : 5 ≤ j) (hg : Gl X "Deal") (ha : PA X (e :: es) t)
    (he : starEach (e :: es) X.env = (false, eval e X.env) :: starEach es X.env := by rfl) (hpl : (backTo pos (starEach es X.env)).any (·.1) = false := by rfl) :
    PE X (.Call (.Name "Deal" p) (e :: es) [] pos) (tMake C (spInit C) [] E0 t) := by
  obtain ⟨f, fd, M, F, hb, _⟩ := D.ex
  exact pe_make M F (hr.mono hj) hg T.mgC hb .nil pass0 ha (by decide) he hpl
theorem pe_deal2 (D : DealM X.prog X.w X.K X.mg X.base C) (T : DealC X.K X.mg C) (hr : Room j X.A) (hj : 5 ≤ j) (hg : Gl X "Deal") (ha : PA X (e :: es) t)
    (he : starEach (e :: es) X.env = (false, eval e X.env) :: starEach es X.env := by rfl) (hpl : (backTo pos (starEach es X.env)).any (·.1) = false := by rfl) :
    PE X (.Call (.Name "Deal" p) (e :: es) [] pos) (tMake C (spInit C) [.int 0] E0 t) := by
  obtain ⟨f, fd, M, F, _, ds, hv, hb⟩ := D.ex
  exact pe_make M F (hr.mono hj) hg T.mgC hb hv pass0 ha (by decide) he hpl
end
theorem sc_dealOf : FnScope ["_law_deal"] ["_law_deal"] (defScope xDealOf) := ⟨rfl, rfl, rfl, by decide +kernel, rfl, by decide +kernel, by decide +kernel⟩
def spDealOf (C : Addr) : Sp := fun vs H Q _ => ∃ (t : Addr) (b h s : Int), vs = [.ref t] ∧ TupAt H t b h s ∧ 1 ≤ b ∧ b ≤ 10 ^ 40 ∧ 1 ≤ h ∧ h ≤ 10 ^ 40 ∧
  ∀ x H', Same H H' → H x = none → DealAt C H' x (dB b h) h (dS b h s) → Q (.ref x) H'
theorem made_same {H H' : Hp} {x dx C : Addr} (nx : H x = none) (nd : H dx = none) (k : Keep x (upd (upd H dx (.own x)) x (.ins C dx [])) H') : Same H H' := fun b o e =>
  k b o (by rw [upd_ne (ne_of_none e nx), upd_ne (ne_of_none e nd)]; exact e) (ne_of_none e nx)
theorem ok_dealOf {f C : Addr} {fd : FuncData} (F : Fun K "_law_deal_of" "_law_deal_of" xDealOf f fd) (D : DealM P w K mg base C) (T : DealC K mg C) : FnOk P w K mg base CX0 6 f fd ["_law_deal"] (spDealOf C) := by
  refine F.ok sc_dealOf (fun vs H Q E h => ?_) (fun cdv A outer s H vs Q E hr h => ?_)
  · obtain ⟨t, b, h, s, rfl, _⟩ := h
    rfl
  · obtain ⟨t, b, h, sh, rfl, U, b1, b2, h1, h2, k⟩ := h
    refine ⟨_, pss_one (ps_ret (pe_deal D T hr (by decide) (by rfl) (pa_cons (pe_ix ix_tup (pv 0) pe_int (fun _ _ => rfl)) (pa_cons (pe_ix ix_tup (pv 0) pe_int (fun _ _ => rfl)) (pa_cons (pe_ix ix_tup (pv 0) pe_int (fun _ _ => rfl)) pa_nil))))), ?_⟩
    refine ⟨_, rfl, t, _, _, _, rfl, rfl, U.sq, at0, _, rfl, t, _, _, _, rfl, rfl, U.sq, at1, _, rfl, t, _, _, _, rfl, rfl, U.sq, at2, fun x dx nx nd ne => ?_⟩
    exact ⟨x, dx, b, h, sh, rfl, upd_same, b1, b2, h1, h2, fun H' e kp => ⟨rfl, k x H' (made_same nx nd kp) nx ⟨dx, e⟩⟩⟩
/-! ### where two Deals part -/
theorem sc_run : FnScope ["deal"] ["deal"] (defScope xRun) := ⟨rfl, rfl, rfl, by decide +kernel, rfl, by decide +kernel, by decide +kernel⟩
def spRun (C : Addr) : Sp := fun vs H Q _ => ∃ (p : Addr) (B h S : Int), vs = [.ref p] ∧ DealAt C H p B h S ∧ 1 ≤ B ∧ Q (.int (frun B S)) H
theorem ok_run {f C : Addr} {fd : FuncData} (F : Fun K "first_run" "first_run" xRun f fd) (T : DealC K mg C) : FnOk P w K mg base CX0 1 f fd ["deal"] (spRun C) := by
  refine F.ok sc_run (fun vs H Q E h => ?_) (fun cdv A outer s H vs Q E hr h => ?_)
  · obtain ⟨p, B, h, S, rfl, _⟩ := h
    rfl
  · obtain ⟨p, B, h, S, rfl, ⟨dx, hp⟩, b1, k⟩ := h
    refine ⟨_, pss_one (ps_ret (pe_op op_sub (pe_fld (pv 0) rfl) (pe_op op_mod (pe_fld (pv 0) rfl) (pe_fld (pv 0) rfl)))), ?_⟩
    exact ⟨_, rfl, p, C, dx, _, _, rfl, hp, T.cl, T.nb, deal_b B h S, _, rfl, p, C, dx, _, _, rfl, hp, T.cl, T.ns, deal_s B h S, _, rfl, p, C, dx, _, _, rfl, hp, T.cl, T.nb, deal_b B h S, _, _, rfl, rfl, (show 0 < B by omega), _, _, rfl, rfl, k⟩
abbrev CalRun (P : Program) (w : World) (K : PySem.W.Frag) (mg : Str → Option Value) (base : Heap) (C : Addr) : Prop := Cal P w K mg base CX0 1 "first_run" ["deal"] (spRun C)
def optV : Option Int → V
  | none => .non
  | some n => .int n
theorem sc_parted : FnScope ["one", "other", "many", "left", "right"] ["one", "other"] (defScope xParted) := ⟨rfl, rfl, rfl, by decide +kernel, rfl, by decide +kernel, by decide +kernel⟩
def spParted (C : Addr) : Sp := fun vs H Q _ => ∃ (p q : Addr) (B1 h1 S1 B2 h2 S2 : Int), vs = [.ref p, .ref q] ∧ DealAt C H p B1 h1 S1 ∧ DealAt C H q B2 h2 S2 ∧ 1 ≤ B1 ∧ B1 ≤ 10 ^ 40 ∧ 1 ≤ h1 ∧ h1 ≤ 10 ^ 40 ∧ 1 ≤ B2 ∧ B2 ≤ 10 ^ 40 ∧ 1 ≤ h2 ∧ h2 ≤ 10 ^ 40 ∧
  Q (optV (prt B1 h1 S1 B2 h2 S2)) H
theorem min_py (a b : Int) : (if b < a then b else a) = min a b := by split <;> omega
theorem ok_parted {f C : Addr} {fd : FuncData} (F : Fun K "parted" "parted" xParted f fd) (B : Bn mg) (T : DealC K mg C) (R : CalRun P w K mg base C) : FnOk P w K mg base CX0 2 f fd ["one", "other"] (spParted C) := by
  refine F.ok sc_parted (fun vs H Q E h => ?_) (fun cdv A outer s H vs Q E hr h => ?_)
  · obtain ⟨p, q, B1, h1, S1, B2, h2, S2, rfl, _⟩ := h
    rfl
  · obtain ⟨p, q, B1, h1, S1, B2, h2, S2, rfl, D1, D2, b1, b1', i1, i1', b2, b2', i2, i2', k⟩ := h
    refine ⟨_, pss_cons (ps_if (PW.pt (pw_or (pt_cmpR op_eq (pe_fld (pv 0) rfl) pe_int (nomark _)) (pw_or1 (pt_cmpR op_eq (pe_fld (pv 1) rfl) pe_int (nomark _)))))
        (pss_cons (ps_set (i := 2) sc_parted.nd rfl (.inl rfl) (pe_ifExp (pt_cmpR op_eq (pe_fld (pv 1) rfl) pe_int (nomark _)) (pv 0) (pv 1)))
        (pss_one (ps_ret (pe_ifExp (pt_cmpR op_eq (pe_fld (pv 2) rfl) pe_int (nomark _)) pe_non (pe_op op_add (pe_cal R hr (by decide) pass0 (by rfl) (pa_cons (pv 2) pa_nil)) pe_int))))) pss_nil)
      (pss_cons (ps_par (i := 3) (j := 4) rfl sc_parted.nd rfl rfl (by decide) rfl rfl (pa_cons (pe_cal R hr (by decide) pass0 (by rfl) (pa_cons (pv 0) pa_nil)) (pa_cons (pe_cal R hr (by decide) pass0 (by rfl) (pa_cons (pv 1) pa_nil)) pa_nil)) (by rfl))
      (pss_cons (ps_if (pt_cmpR op_ne (pv 3) (pv 4) (nomark _)) (pss_one (ps_ret (pe_op op_add (pe_callB (call_min2 rfl) (by rfl) B.min (by decide +kernel) (pa_cons (pv 3) (pa_cons (pv 4) pa_nil))) pe_int))) pss_nil)
      (pss_cons (ps_if (pt_cmpR op_ne (pe_fld (pv 0) rfl) (pe_fld (pv 1) rfl) (nomark _)) (pss_one (ps_ret (pe_op op_add (pe_op op_add (pv 3) (pe_callB (call_min2 rfl) (by rfl) B.min (by decide +kernel) (pa_cons (pe_callTy call_int1 (by rfl) B.int (by decide +kernel) (pa_cons (pe_fld (pv 0) rfl) pa_nil)) (pa_cons (pe_callTy call_int1 (by rfl) B.int (by decide +kernel) (pa_cons (pe_fld (pv 1) rfl) pa_nil)) pa_nil)))) pe_int))) pss_nil)
      (pss_cons (ps_if (pt_cmpR op_ne (pe_fld (pv 0) rfl) (pe_fld (pv 1) rfl) (nomark _)) (pss_one (ps_ret (pe_op op_add (pe_op op_add (pv 3) (pe_op op_mulW (pe_op op_sub (pe_callB (call_min2 rfl) (by rfl) B.min (by decide +kernel) (pa_cons (pe_callTy call_int1 (by rfl) B.int (by decide +kernel) (pa_cons (pe_fld (pv 0) rfl) pa_nil)) (pa_cons (pe_callTy call_int1 (by rfl) B.int (by decide +kernel) (pa_cons (pe_fld (pv 1) rfl) pa_nil)) pa_nil))) pe_int) (pe_fld (pv 0) rfl))) pe_int))) pss_nil)
      (pss_one (ps_ret pe_non)))))), ?_⟩
    have E1 := D1
    have E2 := D2
    obtain ⟨dx1, g1⟩ := D1
    obtain ⟨dx2, g2⟩ := D2
    have no : ∀ {a b : Int}, ¬ decide (V.int a = V.int b) = true → ¬ a = b := fun {a b} h z => h (by rw [z]; simp)
    have ya : ∀ {a b : Int}, decide (V.int a = V.int b) = true → a = b := fun {a b} h => V.int.inj (of_decide_eq_true h)
    have dd : ∀ {a b : Int}, a ≠ b → decide (V.int a = V.int b) = false := fun {a b} h => decide_eq_false fun z => h (V.int.inj z)
    have sc : ∀ {a b : Int}, scal (.int a) (.int b) = true := rfl
    refine ⟨_, rfl, p, C, dx1, _, _, rfl, g1, T.cl, T.nh, deal_h B1 h1 S1, rfl, _, rfl, ?_⟩
    refine ite2 (fun c => ?_) (fun c => ?_)
    · have c := ya c
      refine ⟨_, rfl, q, C, dx2, _, _, rfl, g2, T.cl, T.nh, deal_h B2 h2 S2, rfl, _, rfl, ?_⟩
      refine ite2 (fun c2 => ?_) (fun c2 => ?_)
      · have c2 := ya c2
        refine ⟨_, rfl, _, rfl, p, C, dx1, _, _, rfl, g1, T.cl, T.nh, deal_h B1 h1 S1, rfl, _, rfl, ?_⟩
        subst c
        refine iteT ?_
        have e : prt B1 1 S1 B2 h2 S2 = none := by unfold prt; simp [c2]
        rw [e] at k
        exact k
      · have c2 := no c2
        refine ⟨_, rfl, _, rfl, q, C, dx2, _, _, rfl, g2, T.cl, T.nh, deal_h B2 h2 S2, rfl, _, rfl, ?_⟩
        rw [dd c2]
        refine iteF ⟨_, rfl, q, B2, h2, S2, rfl, E2, b2, _, _, rfl, rfl, ?_⟩
        have e : prt B1 h1 S1 B2 h2 S2 = some (frun B2 S2 + 1) := by unfold prt; simp [c, c2]
        rw [e] at k
        exact k
    · have c := no c
      refine ⟨_, rfl, q, C, dx2, _, _, rfl, g2, T.cl, T.nh, deal_h B2 h2 S2, rfl, _, rfl, ?_⟩
      refine ite2 (fun c2 => ?_) (fun c2 => ?_)
      · have c2 := ya c2
        refine ⟨_, rfl, q, C, dx2, _, _, rfl, g2, T.cl, T.nh, deal_h B2 h2 S2, rfl, _, rfl, ?_⟩
        subst c2
        refine iteT ⟨_, rfl, _, rfl, p, C, dx1, _, _, rfl, g1, T.cl, T.nh, deal_h B1 h1 S1, rfl, _, rfl, ?_⟩
        rw [dd c]
        refine iteF ⟨_, rfl, p, B1, h1, S1, rfl, E1, b1, _, _, rfl, rfl, ?_⟩
        have e : prt B1 h1 S1 B2 1 S2 = some (frun B1 S1 + 1) := by unfold prt; simp [c]
        rw [e] at k
        exact k
      · have c2 := no c2
        have c12 : ¬ (h1 = 1 ∨ h2 = 1) := fun z => z.elim c c2
        refine ⟨_, rfl, p, B1, h1, S1, rfl, E1, b1, _, rfl, q, B2, h2, S2, rfl, E2, b2, _, _, rfl, ?_⟩
        refine ⟨_, rfl, _, rfl, rfl, _, rfl, ?_⟩
        by_cases c3 : frun B1 S1 = frun B2 S2
        · refine iteNS (by rw [c3]) ?_
          refine ⟨_, rfl, p, C, dx1, _, _, rfl, g1, T.cl, T.nb, deal_b B1 h1 S1, _, rfl, q, C, dx2, _, _, rfl, g2, T.cl, T.nb, deal_b B2 h2 S2, rfl, _, rfl, ?_⟩
          by_cases c4 : B1 = B2
          · refine iteNS (by rw [c4]) ?_
            refine ⟨_, rfl, p, C, dx1, _, _, rfl, g1, T.cl, T.nh, deal_h B1 h1 S1, _, rfl, q, C, dx2, _, _, rfl, g2, T.cl, T.nh, deal_h B2 h2 S2, rfl, _, rfl, ?_⟩
            by_cases c5 : h1 = h2
            · refine iteNS (by rw [c5]) ?_
              have e : prt B1 h1 S1 B2 h2 S2 = none := by unfold prt; rw [if_neg c12, if_neg (show ¬ (frun B1 S1 ≠ frun B2 S2) from fun z => z c3), if_neg (show ¬ (B1 ≠ B2) from fun z => z c4), if_neg (show ¬ (h1 ≠ h2) from fun z => z c5)]
              rw [e] at k
              exact k
            · rw [dd c5]
              refine iteT ⟨_, rfl, _, rfl, p, C, dx1, _, _, rfl, g1, T.cl, T.nh, deal_h B1 h1 S1, .inl ⟨_, rfl, _, rfl, q, C, dx2, _, _, rfl, g2, T.cl, T.nh, deal_h B2 h2 S2, .inl ⟨_, rfl, h1, h2, rfl, _, _, rfl, rfl, _, rfl, p, C, dx1, _, _, rfl, g1, T.cl, T.nb, deal_b B1 h1 S1, _, _, rfl, rfl, ?_, _, _, rfl, rfl, _, _, rfl, rfl, ?_⟩⟩⟩
              · refine wide_mul (a := 200) (b := 200) ?_ (by omega) (by decide) (by decide) (by decide)
                split <;> omega
              · have e : prt B1 h1 S1 B2 h2 S2 = some (frun B1 S1 + (min h1 h2 - 1) * B1 + 1) := by unfold prt; rw [if_neg c12, if_neg (show ¬ (frun B1 S1 ≠ frun B2 S2) from fun z => z c3), if_neg (show ¬ (B1 ≠ B2) from fun z => z c4), if_pos (show h1 ≠ h2 from c5)]
                rw [e, ← min_py] at k
                exact k
          · rw [dd c4]
            refine iteT ⟨_, rfl, _, rfl, p, C, dx1, _, _, rfl, g1, T.cl, T.nb, deal_b B1 h1 S1, .inl ⟨_, rfl, _, rfl, q, C, dx2, _, _, rfl, g2, T.cl, T.nb, deal_b B2 h2 S2, .inl ⟨_, rfl, B1, B2, rfl, _, _, rfl, rfl, _, _, rfl, rfl, ?_⟩⟩⟩
            have e : prt B1 h1 S1 B2 h2 S2 = some (frun B1 S1 + min B1 B2 + 1) := by unfold prt; rw [if_neg c12, if_neg (show ¬ (frun B1 S1 ≠ frun B2 S2) from fun z => z c3), if_pos (show B1 ≠ B2 from c4)]
            rw [e, ← min_py] at k
            exact k
        · rw [dd c3]
          refine iteT ⟨_, rfl, _, rfl, _, _, rfl, _, _, rfl, rfl, ?_⟩
          have e : prt B1 h1 S1 B2 h2 S2 = some (min (frun B1 S1) (frun B2 S2) + 1) := by unfold prt; rw [if_neg c12, if_pos c3]
          rw [e, ← min_py] at k
          exact k
end
end K41

set_option Elab.async false
set_option linter.all false
set_option maxRecDepth 100000
set_option maxHeartbeats 4000000
namespace K41
open PySem PySem.Spec PyProof.Rows L2
open PySem.W PySem.Calls PySem.HandSPX
abbrev xBad : Stmt := inClass (top 3) 0
/-- what the written part says of BadValue at C, its __init__ at fI, the cell of its class at cc -/
structure BadTxt (P : Program) (K : PySem.W.Frag) (mg : Str → Option Value) (C fI cc : Addr) : Prop where
  gC : mg "BadValue" = some (.ref C)
  cls : ∃ nm q N bs bm sn sub ab col dd k0 k1 k2 k3 k5, K.lookup C = some (excClassObj nm q C N bs bm true sn sub ab col dd k0 k1 k2 k3 k5 "ValueError.__new__") ∧ refsVE bm = true
  sa : findIn K (.ref C) "__setattr__" = some (some (.builtin "object.__setattr__"))
  ga : findIn K (.ref C) "__getattribute__" = some (some (.builtin "BaseException.__getattribute__"))
  gg : findIn K (.ref C) "__getattr__" = some none
  noN : findIn K (.ref C) "value" = some none
  iC : findIn K (.ref C) "__init__" = some (some (.ref fI))
  tC : typeIn K (.ref fI) = some (.type "function")
  kC : keepIn K (.ref C) = true
  exC : subIn K (.ref C) (.type "BaseException") = some true
  tyC : typeIn K (.ref C) = some (.type "type")
  hdC : hasDictIn K C = true
  te : exmOne K (.ref C) (.ref C) = some true
  sup : ks_superIn K C C "__init__" = some (some (.builtin "ValueError.__init__"))
  subV : subIn K (.ref C) (.type "ValueError") = some true
  subS : subIn K (.ref C) (.ref C) = some true
  ei : excInitIn K C [.type "ValueError", .type "Exception", .type "BaseException", .type "object"] "ValueError.__new__" = true
  noS : mg "super" = none
  noSt : nsIn K cStatics "thirdparty.any" = some none
  cell : ∃ oc, K.lookup cc = some oc ∧ oc.data = .cell (some (.ref C))
  fn : ∃ (oc : Value) (od : Option Addr) (doc pm : Value) (an : Option Addr) (cd : Addr) (ct : Value) (osl : Array (Option Value)) (ocd : Obj) (vs : Array Value) (file : Str) (tf : Tok),
    K.lookup fI = some ⟨oc, od, .func (ksFn "__init__" "BadValue.__init__" (defArgs xBad) (defBody xBad) (defScope xBad) .none .none doc pm an (.ref cd) ct cc), osl⟩ ∧ codeIn K (.ref cd) "BadValue.__init__" = true ∧
      K.lookup cd = some ocd ∧ ocd.data = .fields vs ∧ vs[2]? = some (.str file tf) ∧ ((P.main.file : Str) == file) = true
  top : (P.main.scope.names.lookup ("super" : Str)).isSome = false
/-- what __init__ leaves of a fresh exception at x -/
structure InitEnd (h h' : Heap) (x C dx t1 : Addr) (v : Value) : Prop where
  keep : ∀ b o, b ≠ x → h.get? b = some o → h'.get? b = some o
  obj : h'.get? x = some { cls := .ref C, dict := some dx, data := .fields #[.ref t1, .none, .none, .none, .bool false, .none] }
  dbig : h.objs.size ≤ dx
  dne : dx ≠ x
  ns : h'.Ns1 dx (fun y => if y = "value" then some v else none)
theorem bad_bind (q : Str) (doc pm cdv ct : Value) (an : Option Addr) (cc x : Addr) (v : Value) (s : Shared) : BindsTo s (ksFn "__init__" q (defArgs xBad) (defBody xBad) (defScope xBad) .none .none doc pm an cdv ct cc) ⟨[.ref x, v], []⟩ [("self", .ref x), ("value", v)] :=
  BindsTo.of_eq (by first | rfl | with_unfolding_all rfl)
theorem bad_cell : ∀ x ∈ (defScope xBad).names, x.2 ≠ .cell := by decide +kernel
theorem bad_loc (x v : Value) : ∀ y ∈ [(("self" : Str), x), (("value" : Str), v)], (defScope xBad).names.lookup y.1 = some .local := fun y hy => by
  rcases List.mem_cons.mp hy with rfl | hy
  · rfl
  · rcases List.mem_cons.mp hy with rfl | hy
    · rfl
    · cases hy
def bm0 : List Value := [.type "ValueError", .type "Exception", .type "BaseException", .type "object"]
section
variable {P : Program} {w : World} {A : Around} {R : Result → Shared → Prop} {s : Shared} {K : Frag} {mg : Str → Option Value} {C fI cc : Addr}
theorem bad_init (T : BadTxt P K mg C fI cc) {x t0 : Addr} {v : Value} {mb : Str → Option Value} (X : K.In s.heap) (hg : s.heap.Ns mainGlobals mg) (hb : s.heap.Ns builtinsNs mb) (hbb : ∀ x : Str, x ≠ "__name__" → mb x = bootBuiltins x) (hlim : s.heap.NoLimit)
    (hx : s.heap.get? x = some (excO C t0)) (hnx : K.lookup x = none) (hroom : A.depth < recursionLimit)
    (hq : ∀ h' tk dx t1, InitEnd s.heap h' x C dx t1 v → R (.ok (.ret .none)) { s with heap := h', toks := tk }) :
    codeAny (model P w) A (.call (.ref fI) ⟨[.ref x, v], []⟩) R s := by
  obtain ⟨oc, od, doc, pm, an, cd, ct, osl, ocd, vs, file, tf, ho, hcd, hlc, hdc, hvs, hfile⟩ := T.fn
  obtain ⟨nm, q, N, bs, bm, sn, sub, ab, col, dd, k0, k1, k2, k3, k5, hC, hbm⟩ := T.cls
  obtain ⟨occ, hcc, hccd⟩ := T.cell
  have hcl : clsIn K C = some { name := nm, bases := bs, mro := .ref C :: bm, ns := N, qualname := q, hasDict := true, slotNames := sn, subclasses := sub, abstract := ab, collection := col, hasDel := false } := by unfold clsIn; rw [hC] <;> rfl
  refine ks_codeAny_call_defAt (binds := [("self", .ref x), ("value", v)]) hroom (X _ _ ho) rfl hlim (codeRec_of X hcd) rfl (bad_bind _ _ _ _ _ _ _ _ _ _) bad_cell (bad_loc _ _) (fun h₁ hns hk₁ => ?_) rfl rfl rfl
  have X₁ : K.In h₁ := X.keeps hk₁
  have sx : x < s.heap.objs.size := Heap.lt_size hx
  have X₀ : K.In (hideAll s.heap [x]) := fun b o e => hideAll_get _ (X b o e) (by
    intro z
    rcases List.mem_cons.mp z with z | z
    · rw [z, hnx] at e; cases e
    · cases z)
  have F₁ : Fr (hideAll s.heap [x]) s.heap.objs.size h₁ (fun y => ([("self", .ref x), ("value", v)] : List (Str × Value)).reverse.lookup y) := ⟨hns, fun b o e => hk₁ b o (of_hideAll _ e), Nat.le_of_eq (hideAll_size _ _)⟩
  have N₁ : News (hideAll s.heap [x]) s.heap.objs.size h₁ [(x, excObj C t0 none .none)] := fun p hp => by
    rcases List.mem_cons.mp hp with rfl | hp
    · exact ⟨hk₁ _ _ hx, Nat.ne_of_lt sx, hideAll_none _ (by simp)⟩
    · cases hp
  refine ks_wpAt_execs_cons (ks_wpAt_Expr_any (ks_wpAt_MethodCall (ks_wpAt_super_base (f := fI) (cc := cd) (file := file) (tf := tf) (by rfl) (by rfl) (by decide) rfl (X₁ _ _ ho) rfl (by rfl) rfl (X₁ _ _ hlc) hdc hvs hfile T.top ?_)))
  have hmb : mb "super" = some (.type "super") := (hbb _ (by decide)).trans (by rfl)
  refine ks_loadName_global rfl (by rfl) (loadGlobal_builtin (hg.at fun o e => hk₁ _ _ e) T.noS (hb.at fun o e => hk₁ _ _ e) hmb ⟨rfl, ?_⟩)
  refine wpAny_loadName_free rfl (by rfl) (c := cc) (by rfl) ⟨occ, X₁ _ _ hcc, hccd⟩ ?_
  refine wpAny_loadName_local rfl (by rfl) hns (v := .ref x) (by rfl) ?_
  have hsb : Looks (model P w) h₁ (isSubtype (.ref C) (.ref C)) true := looks_subIn X₁ T.subS
  obtain ⟨hp, g, d, tk, os⟩ := s
  refine ks_wpAny_isType_cls (X₁ _ _ hC) rfl ⟨rfl, ?_⟩
  refine ks_wpAny_call_super (X₁ _ _ hC) rfl (hk₁ _ _ hx) rfl (fun c => nofun) hsb (fun h₂ hso hk₂ => ?_)
  have F₂N₂ := ks_newsPush (s := ⟨h₁, g, d, tk, os⟩) (o := ks_superObj C x C) F₁ N₁ rfl hso hk₂
  obtain ⟨F₂, N₂, l₂⟩ := F₂N₂
  have X₂ : K.In h₂ := X₁.keeps hk₂
  have I₂ : InstAt h₂ x (excObj C t0 none .none) C none := .of_exc0 N₂ (.tail _ (.head _))
  refine kxs_method (C := C) (D := C) kxs_ValueError F₂ X₀ N₂ (.head _) I₂ T.noSt T.sup T.subV (by decide) fun q h₃ F₃ N₃ l₃ => ?_
  refine kxs_callWith1 (x := x) (i := "ValueError.__init__") N₃ (.head _) (Calls.spliced_cons (wpAny_Name (wpAny_loadName_local rfl (by rfl) F₃.ns (v := v) (by rfl) ?_) (by decide))) (by rfl) (by rfl)
  refine Calls.spliced_nil ⟨kxs_at N₃ (.head _), ?_⟩
  have U : UpdF x (excObj C t0 none .none) ((q, kxs_mw "ValueError.__init__" x) :: (h₁.objs.size, ks_superObj C x C) :: [(x, excObj C t0 none .none)]) _ := .tail (Nat.ne_of_gt (l₃ (x, excObj C t0 none .none) (.tail _ (.head _)))) (.tail (Nat.ne_of_gt (Nat.lt_of_lt_of_le sx (Nat.le_of_lt hns.lt))) (.head (by simp)))
  refine kxs_call (C := C) F₃ X₀ N₃ F.excBase_ValueError T.ei (.head _) U (by show 1 ≤ sizeLine; rw [sizeLine_eq]; decide) fun t₁ h₄ F₄ N₄ l₄ => ?_
  have X₄ : K.In h₄ := X₀.keeps F₄.keep
  have hx₄ : h₄.get? x = some (excObj C t₁ none .none) := (N₄ (x, excObj C t₁ none .none) (by simp)).1
  -- self.value = value
  show PySem.wpAt _ _ _ (execs _ _) _ _ _
  refine PySem.wpAt_of_wpAny (wpAny_execs_cons (plainObj_wpAny_Assign_Attribute (wpAny_Name (wpAny_loadName_local rfl (by rfl) F₄.ns (v := v) (by rfl) (wpAny_Name (wpAny_loadName_local rfl (by rfl) F₄.ns (v := .ref x) (by rfl) ?_) (by decide))) (by decide))))
  refine set_plain X₄ (ox := excO C t₁) (od := none) ⟨hx₄, rfl, rfl, trivial⟩ T.sa ?_
  refine exc_osa X₄ hx₄ hcl (show refsVE (.ref C :: bm) = true from hbm) rfl T.noN (fun h₅ tk₅ dx k₅ dn dne hx₅ hn₅ => ?_)
  show wpAny _ _ (execs _ _) _ _ _
  refine wpAny_execs_nil (hq h₅ tk₅ dx t₁ ⟨fun b o hb' e => k₅ b o hb' (F₄.keep b o (hideAll_get _ e (by simpa using hb'))), hx₅, ?_, dne, hn₅⟩)
  exact Nat.le_of_lt (Nat.lt_of_lt_of_le F₄.ns.lt dn)
/-- a made BadValue -/
structure OwnMade (h h' : Heap) (e C d : Addr) (v : Value) : Prop where
  keep : ∀ b o, h.get? b = some o → h'.get? b = some o
  new : h.objs.size ≤ e
  obj : ∃ oe vs, h'.get? e = some oe ∧ oe.cls = .ref C ∧ oe.dict = some d ∧ oe.data = .fields vs ∧ vs[1]? = some .none
  dbig : h.objs.size ≤ d
  dne : d ≠ e
  ns : h'.Ns1 d (fun y => if y = "value" then some v else none)
theorem bad_made (T : BadTxt P K mg C fI cc) {v : Value} {mb : Str → Option Value} (X : K.In s.heap) (hg : s.heap.Ns mainGlobals mg) (hb : s.heap.Ns builtinsNs mb) (hbb : ∀ x : Str, x ≠ "__name__" → mb x = bootBuiltins x) (hlim : s.heap.NoLimit) (hroom : A.depth + 1 < recursionLimit)
    (hq : ∀ h' tk e d, OwnMade s.heap h' e C d v → R (.ok (.ret (.ref e))) { s with heap := h', toks := tk }) :
    codeAny (model P w) A (.call (.ref C) ⟨[v], []⟩) R s := by
  obtain ⟨nm, q, N, bs, bm, sn, sub, ab, col, dd, k0, k1, k2, k3, k5, hC, hbm⟩ := T.cls
  obtain ⟨hp, g, dr, tk, os⟩ := s
  have k : ∀ b o, hp.get? b = some o → ((hp.push (kdv_tup [v])).push (excO C hp.objs.size)).get? b = some o := fun b o e => Heap.get?_push_of_some _ (Heap.get?_push_of_some _ e)
  have hget : ((hp.push (kdv_tup [v])).push (excO C hp.objs.size)).get? (hp.objs.size + 1) = some (excO C hp.objs.size) := by heap_get
  have hnx : K.lookup (hp.objs.size + 1) = none := by
    cases e : K.lookup (hp.objs.size + 1) with
    | none => rfl
    | some o =>
      have z : hp.get? (hp.objs.size + 1) = some o := X _ _ e
      exact absurd (Nat.lt_of_succ_lt (Heap.lt_size z)) (Nat.lt_irrefl _)
  refine call_own F.excBase_ValueError (fun X => refsVE_contains X bm hbm) (X _ _ hC) (looks_findIn X T.iC) (fun self => bind_fn X self T.tC) (show 1 ≤ sizeLine by rw [sizeLine_eq]; decide) ?_
  refine bad_init (s := ⟨(hp.push (kdv_tup [v])).push (excO C hp.objs.size), g, dr, tk, os⟩) T (X.keeps k) (hg.at fun o e => k _ _ e) (hb.at fun o e => k _ _ e) hbb (hlim.keeps k) hget hnx ?_ fun h' tk' dx t1 ⟨k', hx, dn, dne, hns⟩ => ?_
  · show A.depth + 1 < recursionLimit
    exact hroom
  · have old : ∀ b o, hp.get? b = some o → h'.get? b = some o := fun b o e => k' b o (Nat.ne_of_lt (Nat.lt_succ_of_lt (Heap.lt_size e))) (k b o e)
    have z : hp.objs.size + 1 + 1 ≤ dx := by
      first
        | (simpa only [Heap.size_push] using dn)
        | exact dn
        | (have q := dn; rw [Heap.size_push, Heap.size_push] at q; exact q)
    exact ⟨rfl, hq h' tk' (hp.objs.size + 1) dx ⟨old, Nat.le_succ _, ⟨_, _, hx, rfl, rfl, rfl, rfl⟩, Nat.le_trans (Nat.le_trans (Nat.le_succ _) (Nat.le_succ _)) z, dne, hns⟩⟩
end
theorem relO_bad {v : V} {v' : Value} (r : RelV v v') (f : Str) : RelO (List.lookup f [(("value" : Str), v)]) (if f = "value" then some v' else none) := by
  by_cases hw : f = "value"
  · subst hw
    rw [if_pos rfl]
    have q : List.lookup ("value" : Str) [(("value" : Str), v)] = some v := by simp [List.lookup]
    rw [q]
    exact r
  · rw [if_neg hw]
    have qw : (f == ("value" : Str)) = false := by simpa using hw
    have q2 : List.lookup f [(("value" : Str), v)] = none := by simp [List.lookup, qw]
    rw [q2]
    trivial
section
variable {X : Cx} {C fI cc : Addr}
/-- BadValue(e) -/
def tMkBad (C : Addr) (ta : TA) : L2.St → Hp → XK → Prop := fun σ H Q => ta σ H fun vs H1 => ∃ v, vs = [v] ∧ ∀ d, H1 d = none → Q (.ref C) (some d) (upd H1 d (.xd [(("value" : Str), v)]))
theorem pmk_bad {a : Expr} {ta : TA} {p pos : Pos} {k : Nat} (T : BadTxt X.prog X.K X.mg C fI cc) (hr : Room k X.A) (ha : PA X [a] ta) (hg : Gl X "BadValue" := by rfl)
    (he : starEach (a :: []) X.env = (false, eval a X.env) :: starEach [] X.env := by rfl) (hpl : (backTo pos (starEach [] X.env)).any (·.1) = false := by rfl) :
    PMk X (.Call (.Name "BadValue" p) [a] [] pos) (tMkBad C ta) := by
  intro pins s σ H Q I h
  refine wpAny_Call_Name_kw (ld_glob I hg T.gC ?_)
  refine PySem.W.callWith_K (h₀ := X.base) I.ok.mod.kin T.kC (thn (ha.run pos pins s σ H _ I h) fun us s1 hh => ?_) he hpl
  obtain ⟨vs, H1, I1, r1, v, ev, q1⟩ := hh
  subst ev
  refine ⟨I1.kIn, ?_⟩
  cases r1 with
  | cons rv rn =>
    rename_i v' us'
    cases rn
    show wpAny _ _ (call (.ref C) [v']) _ _ _
    have hlim := I1.nolimit
    obtain ⟨mb, hb, hbb⟩ := I1.mod.blt
    have hgl := I1.mod.glob.keeps I1.bk
    have hbl := hb.keeps I1.bk
    have hkin := I1.kIn
    obtain ⟨hp, g, dr, tk, os⟩ := s1
    refine wpAny_call (bad_made T hkin hgl hbl hbb hlim (by have := hr.dp; omega) fun h' tk' e d M => ?_)
    show MkP X pins σ Q (.ref e) ⟨h', g, dr, tk', os⟩
    obtain ⟨oe, fv, hoe, hc, hd, hdat, h1⟩ := M.obj
    have hns := M.ns
    obtain ⟨G', g1, g2⟩ := restrict h' fun b => decide (b ≠ e)
    have gk : ∀ b, b ≠ e → G'.get? b = h'.get? b := fun b hb => g1 b (decide_eq_true hb)
    have ge : G'.get? e = none := g2 e (by simp)
    have old : ∀ b o, hp.get? b = some o → G'.get? b = some o := fun b o q => (gk b (Nat.ne_of_lt (Nat.lt_of_lt_of_le (Heap.lt_size q) M.new))).trans (M.keep b o q)
    have ob : ObjOk X.prog X.w (upd H1 d (.xd [(("value" : Str), v)])) G' d (.xd [(("value" : Str), v)]) :=
      ⟨_, hns.at (fun o q => (gk d M.dne).trans q), fun f => relO_bad rv f⟩
    have J : Inv X pins σ (upd H1 d (.xd [(("value" : Str), v)])) ⟨G', g, dr, tk', os⟩ := I1.laid (t' := tk') old M.dbig ob
    refine ⟨e, oe, fv, ⟨G', g, dr, tk', os⟩, _, .ref C, some d, rfl, J, fun b o q => ?_, ge, hoe, ⟨hc, hd⟩, hdat, h1, ?_, rfl, I1.bare, raises_own T.exC T.tyC, q1 d (I1.hok.fresh M.dbig)⟩
    · by_cases hb : b = e
      · have q' : G'.get? b = some o := q
        rw [hb, ge] at q'; cases q'
      · exact (gk b hb).symm.trans q
    · rw [upd_ne (Ne.symm M.dne)]
      exact I1.hok.fresh M.new
/-- raise BadValue(e) -/
def tRaiseBad (C : Addr) (W : WX) (ta : TA) : TS := fun _ σ H => tMkBad C ta σ H fun cls d H' => W cls d σ H'
theorem ps_raiseBad {a : Expr} {ta : TA} {W : WX} {p pos pos2 : Pos} {k : Nat} (hc : X.calm = true) (T : BadTxt X.prog X.K X.mg C fI cc) (hr : Room k X.A) (tk : Takes X W) (ha : PA X [a] ta) (hg : Gl X "BadValue" := by rfl)
    (he : starEach (a :: []) X.env = (false, eval a X.env) :: starEach [] X.env := by rfl) (hpl : (backTo pos (starEach [] X.env)).any (·.1) = false := by rfl) :
    PS X (.Raise (some (.Call (.Name "BadValue" p) [a] [] pos)) none pos2) (tRaiseBad C W ta) := ps_raise hc tk (pmk_bad T hr ha hg he hpl)
end
end K41

set_option Elab.async false
set_option linter.all false
set_option maxRecDepth 100000
set_option maxHeartbeats 4000000
namespace K41
open PySem PySem.Spec PyProof.Rows L2
/-! ### what is no Deal -/
inductive Odd (H : Hp) : V → Prop where
  | non : Odd H .non
  | bl (b : Bool) : Odd H (.bl b)
  | one : Odd H (.str "1")
  | emp : Odd H (.str "")
  | lst0 {a : Addr} (e : H a = some (.lst [])) : Odd H (.ref a)
  | tup0 {a : Addr} (e : H a = some (.tup [])) : Odd H (.ref a)
  | dct0 {a : Addr} (e : H a = some (.dK [])) : Odd H (.ref a)
  | lst1 {a : Addr} (e : H a = some (.lst [.int 1])) : Odd H (.ref a)
  | tup2 {a : Addr} (e : H a = some (.tup [.int 0, .int 1])) : Odd H (.ref a)
theorem Odd.keep {H H' : Hp} {v : V} (o : Odd H v) (s : Same H H') : Odd H' v := by
  cases o with
  | non => exact .non
  | bl b => exact .bl b
  | one => exact .one
  | emp => exact .emp
  | lst0 e => exact .lst0 (s _ _ e)
  | tup0 e => exact .tup0 (s _ _ e)
  | dct0 e => exact .dct0 (s _ _ e)
  | lst1 e => exact .lst1 (s _ _ e)
  | tup2 e => exact .tup2 (s _ _ e)
def oddTys : List String := ["NoneType", "bool", "str", "list", "tuple", "dict"]
theorem Odd.ty {K : PySem.W.Frag} {H : Hp} {v : V} (o : Odd H v) : ∃ t ∈ oddTys, TyX K H v (.type t) := by
  cases o with
  | non => exact ⟨_, by decide, .base .non⟩
  | bl b => exact ⟨_, by decide, .base (.bl b)⟩
  | one => exact ⟨_, by decide, .base (.str _)⟩
  | emp => exact ⟨_, by decide, .base (.str _)⟩
  | lst0 e => exact ⟨_, by decide, .base (.lst e)⟩
  | tup0 e => exact ⟨_, by decide, .base (.tup e)⟩
  | dct0 e => exact ⟨_, by decide, .base (.dK e)⟩
  | lst1 e => exact ⟨_, by decide, .base (.lst e)⟩
  | tup2 e => exact ⟨_, by decide, .base (.tup e)⟩
/-- what isinstance(x, Deal) needs -/
structure DealI (K : PySem.W.Frag) (C : Addr) : Prop where
  odd : ∀ t ∈ oddTys, PySem.W.kitOne K (.type t) (.ref C) = some false
  ha : PySem.W.findIn K (.ref C) "__class__" = some (some (.builtin "object.__class__"))
  hn : PySem.W.specialIn K (.builtin "object.__class__") "__get__" = some (some (.builtin "getset_descriptor.__get__"))
  htk : PySem.W.takesIn K (.builtin "object.__class__") = some true
  hm : PySem.W.mroIn K C (.type "object") = some true
theorem kit_self {K : PySem.W.Frag} {C : Addr} : PySem.W.kitOne K (.ref C) (.ref C) = some true := by
  unfold PySem.W.kitOne
  rw [if_pos (by simp)]
abbrev xNeedDeal : Stmt := top 12
abbrev xFrom : Stmt := top 16
abbrev xAlways : Stmt := top 17
section
variable {P : Program} {w : World} {K : PySem.W.Frag} {mg : Str → Option Value} {base : Heap} {C CB fI cc : Addr}
theorem sc_needDeal : FnScope ["value"] ["value"] (defScope xNeedDeal) := ⟨rfl, rfl, rfl, by decide +kernel, rfl, by decide +kernel, by decide +kernel⟩
/-- what BadValue of v leaves -/
def Bad (CB : Addr) (v : V) (H : Hp) (E : XK) : Prop := ∀ d, H d = none → E (.ref CB) (some d) (upd H d (.xd [(("value" : Str), v)]))
def spNeedDeal (C CB : Addr) : Sp := fun vs H Q E => ∃ v, vs = [v] ∧ ((∃ p B h S, v = .ref p ∧ DealAt C H p B h S ∧ Q .non H) ∨ (Odd H v ∧ Bad CB v H E))
theorem ok_needDeal {f : Addr} {fd : FuncData} (F : Fun K "need_deal" "need_deal" xNeedDeal f fd) (B : Bn mg) (T : DealC K mg C) (TI : DealI K C) (TB : BadTxt P K mg CB fI cc) : FnOk P w K mg base (L2.CX P w) 3 f fd ["value"] (spNeedDeal C CB) := by
  refine F.okX sc_needDeal (fun vs H Q E h => ?_) (fun cdv A outer s H vs Q E hr h => ?_)
  · obtain ⟨v, rfl, _⟩ := h
    rfl
  · obtain ⟨v, rfl, h⟩ := h
    refine ⟨_, pss_one (ps_if (pt_not (pt_val (pe_callB call_isi (by rfl) B.isi (by decide +kernel) (pa_cons (pv 0) (pa_cons (pe_glob (v := .ref C) (by rfl) T.mgC rfl) pa_nil)))))
      (pss_one (ps_raiseBad rfl TB hr (takes_of rfl rfl rfl rfl) (by exact (pa_cons (pv 0) pa_nil)))) pss_nil), ?_⟩
    rcases h with ⟨p, B', h', S, rfl, ⟨dx, hp⟩, k⟩ | ⟨o, k⟩
    · refine ⟨_, rfl, _, _, _, _, true, rfl, .own C, .base (.ins hp T.cl TI.ha TI.hn TI.htk TI.hm), kit_self, true, rfl, ?_⟩
      exact iteF k
    · obtain ⟨t, ht, ty⟩ := o.ty (K := K)
      refine ⟨_, rfl, _, _, _, _, false, rfl, .own C, ty, TI.odd t ht, false, rfl, ?_⟩
      refine iteT ?_
      exact ⟨_, rfl, _, rfl, k⟩
abbrev CalNeedDeal (P : Program) (w : World) (K : PySem.W.Frag) (mg : Str → Option Value) (base : Heap) (C CB : Addr) : Prop := Cal P w K mg base (L2.CX P w) 3 "need_deal" ["value"] (spNeedDeal C CB)
abbrev CalParted (P : Program) (w : World) (K : PySem.W.Frag) (mg : Str → Option Value) (base : Heap) (C : Addr) : Prop := Cal P w K mg base CX0 2 "parted" ["one", "other"] (spParted C)
theorem sc_from : FnScope ["one", "other"] ["one", "other"] (defScope xFrom) := ⟨rfl, rfl, rfl, by decide +kernel, rfl, by decide +kernel, by decide +kernel⟩
theorem sc_always : FnScope ["one", "other"] ["one", "other"] (defScope xAlways) := ⟨rfl, rfl, rfl, by decide +kernel, rfl, by decide +kernel, by decide +kernel⟩
/-- two Deals, or one that is none -/
def Two (C CB : Addr) (R : Option Int → Prop) (H : Hp) (E : XK) (a b : V) : Prop :=
  (∃ p q B1 h1 S1 B2 h2 S2, a = .ref p ∧ b = .ref q ∧ DealAt C H p B1 h1 S1 ∧ DealAt C H q B2 h2 S2 ∧ 1 ≤ B1 ∧ B1 ≤ 10 ^ 40 ∧ 1 ≤ h1 ∧ h1 ≤ 10 ^ 40 ∧ 1 ≤ B2 ∧ B2 ≤ 10 ^ 40 ∧ 1 ≤ h2 ∧ h2 ≤ 10 ^ 40 ∧ R (prt B1 h1 S1 B2 h2 S2)) ∨
  (Odd H a ∧ Bad CB a H E) ∨ ((∃ p B h S, a = .ref p ∧ DealAt C H p B h S) ∧ Odd H b ∧ Bad CB b H E)
def spFrom (C CB : Addr) : Sp := fun vs H Q E => ∃ a b, vs = [a, b] ∧ Two C CB (fun o => Q (optV o) H) H E a b
def spAlways (C CB : Addr) : Sp := fun vs H Q E => ∃ a b, vs = [a, b] ∧ Two C CB (fun o => Q (.bl (decide (o = none))) H) H E a b
theorem ok_from {f : Addr} {fd : FuncData} (F : Fun K "part_from" "part_from" xFrom f fd) (N : CalNeedDeal P w K mg base C CB) (D : CalParted P w K mg base C) : FnOk P w K mg base (L2.CX P w) 4 f fd ["one", "other"] (spFrom C CB) := by
  refine F.okX sc_from (fun vs H Q E h => ?_) (fun cdv A outer s H vs Q E hr h => ?_)
  · obtain ⟨a, b, rfl, _⟩ := h
    rfl
  · obtain ⟨a, b, rfl, h⟩ := h
    refine ⟨_, pss_cons (ps_expr (pe_cal (E := E) N hr (by decide) (passes_call (takes_of rfl rfl rfl rfl) fun _ _ _ _ z => z) (by rfl) (pa_cons (pv 0) pa_nil)))
      (pss_cons (ps_expr (pe_cal (E := E) N hr (by decide) (passes_call (takes_of rfl rfl rfl rfl) fun _ _ _ _ z => z) (by rfl) (pa_cons (pv 1) pa_nil)))
      (pss_one (ps_ret (pe_cal D hr (by decide) pass0 (by rfl) (pa_cons (pv 0) (pa_cons (pv 1) pa_nil)))))), ?_⟩
    rcases h with ⟨p, q, B1, h1, S1, B2, h2, S2, rfl, rfl, D1, D2, rest⟩ | ⟨o, k⟩ | ⟨⟨p, B1, h1, S1, rfl, D1⟩, o, k⟩
    · refine ⟨_, rfl, _, rfl, .inl ⟨p, B1, h1, S1, rfl, D1, ?_⟩⟩
      refine ⟨_, rfl, _, rfl, .inl ⟨q, B2, h2, S2, rfl, D2, ?_⟩⟩
      exact ⟨_, rfl, _, rfl, p, q, B1, h1, S1, B2, h2, S2, rfl, D1, D2, rest⟩
    · exact ⟨_, rfl, _, rfl, .inr ⟨o, k⟩⟩
    · refine ⟨_, rfl, _, rfl, .inl ⟨p, B1, h1, S1, rfl, D1, ?_⟩⟩
      exact ⟨_, rfl, _, rfl, .inr ⟨o, k⟩⟩
theorem ok_always {f : Addr} {fd : FuncData} (F : Fun K "always_alike" "always_alike" xAlways f fd) (N : CalNeedDeal P w K mg base C CB) (D : CalParted P w K mg base C) : FnOk P w K mg base (L2.CX P w) 4 f fd ["one", "other"] (spAlways C CB) := by
  refine F.okX sc_always (fun vs H Q E h => ?_) (fun cdv A outer s H vs Q E hr h => ?_)
  · obtain ⟨a, b, rfl, _⟩ := h
    rfl
  · obtain ⟨a, b, rfl, h⟩ := h
    refine ⟨_, pss_cons (ps_expr (pe_cal (E := E) N hr (by decide) (passes_call (takes_of rfl rfl rfl rfl) fun _ _ _ _ z => z) (by rfl) (pa_cons (pv 0) pa_nil)))
      (pss_cons (ps_expr (pe_cal (E := E) N hr (by decide) (passes_call (takes_of rfl rfl rfl rfl) fun _ _ _ _ z => z) (by rfl) (pa_cons (pv 1) pa_nil)))
      (pss_one (ps_ret (pe_cmpR op_isN (pe_cal D hr (by decide) pass0 (by rfl) (pa_cons (pv 0) (pa_cons (pv 1) pa_nil))) pe_non (nomark _))))), ?_⟩
    rcases h with ⟨p, q, B1, h1, S1, B2, h2, S2, rfl, rfl, D1, D2, r1, r2, r3, r4, r5, r6, r7, r8, k⟩ | ⟨o, k⟩ | ⟨⟨p, B1, h1, S1, rfl, D1⟩, o, k⟩
    · refine ⟨_, rfl, _, rfl, .inl ⟨p, B1, h1, S1, rfl, D1, ?_⟩⟩
      refine ⟨_, rfl, _, rfl, .inl ⟨q, B2, h2, S2, rfl, D2, ?_⟩⟩
      refine ⟨_, rfl, _, rfl, p, q, B1, h1, S1, B2, h2, S2, rfl, D1, D2, r1, r2, r3, r4, r5, r6, r7, r8, ?_⟩
      generalize prt B1 h1 S1 B2 h2 S2 = o at k ⊢
      cases o with
      | none => exact ⟨rfl, k⟩
      | some n => exact ⟨rfl, k⟩
    · exact ⟨_, rfl, _, rfl, .inr ⟨o, k⟩⟩
    · refine ⟨_, rfl, _, rfl, .inl ⟨p, B1, h1, S1, rfl, D1, ?_⟩⟩
      exact ⟨_, rfl, _, rfl, .inr ⟨o, k⟩⟩
end
end K41

set_option Elab.async false
set_option linter.all false
set_option maxRecDepth 100000
set_option maxHeartbeats 4000000
namespace K41
open PySem PySem.Spec PyProof.Rows L2
section
variable {P : Program} {w : World} {K : PySem.W.Frag} {mg : Str → Option Value} {base : Heap} {C CB : Addr}
abbrev CalPick (P : Program) (w : World) (K : PySem.W.Frag) (mg : Str → Option Value) (base : Heap) : Prop := Cal P w K mg base CX0 2 "_law_pick" ["_law_tape", "_law_some"] (spPick K)
theorem Odd.put {p : Addr} {H H' : Hp} {v : V} (o : Odd H v) (k : Keep p H H') (n : v ≠ .ref p) : Odd H' v := by
  have z : ∀ {a : Addr} {u : HO}, V.ref a ≠ .ref p → H a = some u → H' a = some u := fun {a u} n e => k _ _ e (fun q => n (by rw [q]))
  cases o with
  | non => exact .non
  | bl b => exact .bl b
  | one => exact .one
  | emp => exact .emp
  | lst0 e => exact .lst0 (z n e)
  | tup0 e => exact .tup0 (z n e)
  | dct0 e => exact .dct0 (z n e)
  | lst1 e => exact .lst1 (z n e)
  | tup2 e => exact .tup2 (z n e)
theorem sc_noInt : FnScope ["_law_tape"] ["_law_tape"] (defScope xNoInt) := ⟨rfl, rfl, rfl, by decide +kernel, rfl, by decide +kernel, by decide +kernel⟩
def spNoInt : Sp := fun vs H Q _ => ∃ (p : Addr) (A : Nat), vs = [.ref p] ∧ Tape H p A ∧ A ≤ 1000000 ∧ ∀ v H', Odd H' v → Keep p H H' → Tape H' p (A + 1) → Q v H'
theorem ok_noInt {f : Addr} {fd : FuncData} (F : Fun K "_law_no_integer" "_law_no_integer" xNoInt f fd) (D : CalPick P w K mg base) : FnOk P w K mg base CX0 3 f fd ["_law_tape"] spNoInt := by
  refine F.ok sc_noInt (fun vs H Q E h => ?_) (fun cdv A outer s H vs Q E hr h => ?_)
  · obtain ⟨p, A, rfl, _⟩ := h
    rfl
  · obtain ⟨p, A, rfl, T, hA, k⟩ := h
    refine ⟨_, pss_one (ps_ret (pe_cal D hr (by decide) pass0 (by rfl) (pa_cons (pv 0) (pa_cons (pe_lst (pa_cons pe_non (pa_cons pe_bl (pa_cons pe_bl (pa_cons pe_str (pa_cons pe_str (pa_cons (pe_lst pa_nil) (pa_cons (pe_tup pa_nil) (pa_cons pe_dnewK (pa_cons (pe_lst (pa_cons pe_int pa_nil)) (pa_cons (pe_tup (pa_cons pe_int (pa_cons pe_int pa_nil))) pa_nil))))))))))) pa_nil)))), ?_⟩
    have sl : ∀ n : Nat, n ≤ 100 → n ≤ sizeLine := fun n h => by rw [sizeLine_eq]; omega
    refine ⟨_, rfl, ⟨sl 0 (by decide), fun a na => ⟨sl 0 (by decide), fun b nb => fun c nc => ⟨sl 1 (by decide), fun d nd => ⟨sl 2 (by decide), fun e ne => ⟨sl 10 (by decide), fun q nq => ?_⟩⟩⟩⟩⟩⟩
    have s1 := same_new (o := .lst []) na
    have s2 := same_new (o := .tup []) nb
    have s3 := same_new (o := .dK []) nc
    have s4 := same_new (o := .lst [.int 1]) nd
    have s5 := same_new (o := .tup [.int 0, .int 1]) ne
    have s6 := same_new (o := .lst [.non, .bl true, .bl false, .str "1", .str "", .ref a, .ref b, .ref c, .ref d, .ref e]) nq
    have s56 := s5.trans s6
    have s46 := s4.trans s56
    have s36 := s3.trans s46
    have s26 := s2.trans s36
    have s16 := s1.trans s26
    have T1 := T.keep s16
    obtain ⟨l, cs, u, r, TR, _⟩ := T1
    have np : ∀ {x : Addr} {o : HO}, (∀ kvs, o ≠ .dK (tapeK kvs u r)) → (upd (upd (upd (upd (upd (upd H a (.lst [])) b (.tup [])) c (.dK [])) d (.lst [.int 1])) e (.tup [.int 0, .int 1])) q (.lst [.non, .bl true, .bl false, .str "1", .str "", .ref a, .ref b, .ref c, .ref d, .ref e])) x = some o → V.ref x ≠ .ref p := fun {x o} n h z => by
      have z := V.ref.inj z
      rw [z, TR.d] at h
      exact n _ (Option.some.inj h).symm
    have oa := s26 _ _ (upd_same (H := H) (a := a) (o := .lst []))
    have ob := s36 _ _ (upd_same (a := b) (o := .tup []))
    have oc := s46 _ _ (upd_same (a := c) (o := .dK []))
    have od := s56 _ _ (upd_same (a := d) (o := .lst [.int 1]))
    have oe := s6 _ _ (upd_same (a := e) (o := .tup [.int 0, .int 1]))
    refine ⟨p, q, _, A, rfl, T.keep s16, hA, SqL.of upd_same, fun z => ?_, (by show 1 ≤ 10; decide), (by show 10 ≤ 1000; decide), fun v H' hv kp T' => ?_⟩
    · exact np (fun kvs z => by cases z) upd_same (by rw [z])
    · refine k v H' ?_ ((Keep.of_same s16).trans kp) T'
      simp only [List.mem_cons, List.not_mem_nil, or_false] at hv
      rcases hv with rfl | rfl | rfl | rfl | rfl | rfl | rfl | rfl | rfl | rfl
      · exact .non
      · exact .bl _
      · exact .bl _
      · exact .one
      · exact .emp
      · exact (Odd.lst0 oa).put kp (np (fun kvs z => by cases z) oa)
      · exact (Odd.tup0 ob).put kp (np (fun kvs z => by cases z) ob)
      · exact (Odd.dct0 oc).put kp (np (fun kvs z => by cases z) oc)
      · exact (Odd.lst1 od).put kp (np (fun kvs z => by cases z) od)
      · exact (Odd.tup2 oe).put kp (np (fun kvs z => by cases z) oe)
/-! ### drawn deals -/
structure TD (H : Hp) (t : Addr) (b h s : Int) : Prop where
  at_ : TupAt H t b h s
  b1 : 1 ≤ b
  b2 : b ≤ 10 ^ 40
  h1 : 1 ≤ h
  h2 : h ≤ 10 ^ 40
theorem TD.keep {H H' : Hp} {t : Addr} {b h s : Int} (T : TD H t b h s) (k : Same H H') : TD H' t b h s := ⟨k _ _ T.at_, T.b1, T.b2, T.h1, T.h2⟩
theorem TD.put {H H' : Hp} {p t : Addr} {A : Nat} {b h s : Int} (T : TD H t b h s) (k : Keep p H H') (X : Tape H p A) : TD H' t b h s := by
  obtain ⟨l, cs, a, r, TR, _⟩ := X
  exact ⟨k _ _ T.at_ (ne_of T.at_ TR.d (by intro z; cases z)), T.b1, T.b2, T.h1, T.h2⟩
theorem Tape.ne {H : Hp} {p q : Addr} {A : Nat} (X : Tape H p A) (n : H q = none) : q ≠ p := by
  obtain ⟨l, cs, a, r, TR, _⟩ := X
  intro z
  rw [z, TR.d] at n
  cases n
abbrev CalSigned (P : Program) (w : World) (K : PySem.W.Frag) (mg : Str → Option Value) (base : Heap) : Prop := Cal P w K mg base CX0 4 "_law_signed" ["_law_tape", "_law_figures"] spSigned
theorem sc_drawn : FnScope ["_law_tape", "_law_figures", "_law_block", "_law_houses"] ["_law_tape", "_law_figures"] (defScope xDrawn) := ⟨rfl, rfl, rfl, by decide +kernel, rfl, by decide +kernel, by decide +kernel⟩
def spDrawn : Sp := fun vs H Q _ => ∃ (p : Addr) (A : Nat), vs = [.ref p, .int 30] ∧ Tape H p A ∧ A ≤ 600000 ∧ ∀ t H' b h s, Keep p H H' → Tape H' p (A + 22) → TupAt H' t b h s → 1 ≤ b → b ≤ 10 ^ 30 → 1 ≤ h → h ≤ 10 ^ 30 → Q (.ref t) H'
theorem ok_drawn {f : Addr} {fd : FuncData} (F : Fun K "_law_drawn_deal" "_law_drawn_deal" xDrawn f fd) (D : CalPick P w K mg base) (Z : CalSize P w K mg base) (S : CalSigned P w K mg base) : FnOk P w K mg base CX0 5 f fd ["_law_tape", "_law_figures"] spDrawn := by
  refine F.ok sc_drawn (fun vs H Q E h => ?_) (fun cdv A outer s H vs Q E hr h => ?_)
  · obtain ⟨p, A, rfl, _⟩ := h
    rfl
  · obtain ⟨p, A, rfl, T, hA, k⟩ := h
    refine ⟨_, pss_cons (ps_set (i := 2) sc_drawn.nd rfl (.inl rfl) (pe_op op_add pe_int (pe_cal Z hr (by decide) pass0 (by rfl) (pa_cons (pv 0) (pa_cons (pv 1) pa_nil)))))
      (pss_cons (ps_set (i := 3) sc_drawn.nd rfl (.inl rfl) (pe_cal D hr (by decide) pass0 (by rfl) (pa_cons (pv 0) (pa_cons (pe_lst (pa_cons pe_int (pa_cons pe_int (pa_cons pe_int
        (pa_cons (pe_op op_add pe_int (pe_cal Z hr (by decide) pass0 (by rfl) (pa_cons (pv 0) (pa_cons (pv 1) pa_nil))))
        (pa_cons (pe_op op_add pe_int (pe_cal Z hr (by decide) pass0 (by rfl) (pa_cons (pv 0) (pa_cons (pv 1) pa_nil)))) pa_nil)))))) pa_nil))))
      (pss_one (ps_ret (pe_tup (pa_cons (pv 2) (pa_cons (pv 3) (pa_cons (pe_cal S hr (by decide) pass0 (by rfl) (pa_cons (pv 0) (pa_cons (pe_op op_add (pv 1) pe_int) pa_nil))) pa_nil))))))), ?_⟩
    refine ⟨_, rfl, _, rfl, p, 30, A, rfl, T, by omega, by decide, by decide, fun z H1 z0 z1 k1 T1 => ⟨_, _, rfl, rfl, ?_⟩⟩
    refine ⟨_, rfl, _, rfl, _, rfl, p, 30, A + 5, rfl, T1, by omega, by decide, by decide, fun y H2 y0 y1 k2 T2 => ⟨_, _, rfl, rfl, ?_⟩⟩
    refine ⟨_, rfl, _, rfl, p, 30, A + 10, rfl, T2, by omega, by decide, by decide, fun x H3 x0 x1 k3 T3 => ⟨_, _, rfl, rfl, ?_⟩⟩
    refine ⟨(by show 5 ≤ sizeLine; rw [sizeLine_eq]; decide), fun q nq => ?_⟩
    have s1 := same_new (o := .lst [.int 1, .int 2, .int 3, .int (1 + y), .int (1 + x)]) nq
    refine ⟨p, q, _, A + 15, rfl, T3.keep s1, by omega, SqL.of upd_same, T3.ne nq, (by show 1 ≤ 5; decide), (by show 5 ≤ 1000; decide), fun v H4 hv k4 T4 => ?_⟩
    have hv : ∃ h : Int, v = .int h ∧ 1 ≤ h ∧ h ≤ 10 ^ 30 := by
      simp only [List.mem_cons, List.not_mem_nil, or_false] at hv
      rcases hv with rfl | rfl | rfl | rfl | rfl
      · exact ⟨_, rfl, by decide, by decide⟩
      · exact ⟨_, rfl, by decide, by decide⟩
      · exact ⟨_, rfl, by decide, by decide⟩
      · exact ⟨_, rfl, by omega, by omega⟩
      · exact ⟨_, rfl, by omega, by omega⟩
    obtain ⟨h, rfl, h1, h2⟩ := hv
    refine ⟨_, rfl, _, rfl, _, rfl, _, rfl, _, _, rfl, rfl, p, 32, A + 16, rfl, T4, by omega, by decide, by decide, fun u H5 u0 u1 k5 T5 => ?_⟩
    refine ⟨(by show 3 ≤ sizeLine; rw [sizeLine_eq]; decide), fun t nt => ?_⟩
    have s2 := same_new (o := .tup [.int (1 + z), .int h, .int u]) nt
    exact k t _ _ _ _ (k1.trans (k2.trans (k3.trans ((Keep.of_same s1).trans (k4.trans (k5.trans (Keep.of_same s2))))))) (T5.keep s2) upd_same (by omega) (by omega) h1 h2
abbrev CalDrawn (P : Program) (w : World) (K : PySem.W.Frag) (mg : Str → Option Value) (base : Heap) : Prop := Cal P w K mg base CX0 5 "_law_drawn_deal" ["_law_tape", "_law_figures"] spDrawn
theorem sc_two : FnScope ["_law_tape", "_law_figures", "_law_one", "_law_other", "_law_block", "_law_houses", "_law_shift", "_law_near"] ["_law_tape", "_law_figures"] (defScope xTwo) := ⟨rfl, rfl, rfl, by decide +kernel, rfl, by decide +kernel, by decide +kernel⟩
def spTwo : Sp := fun vs H Q _ => ∃ (p : Addr) (A : Nat), vs = [.ref p, .int 30] ∧ Tape H p A ∧ A ≤ 500000 ∧ ∀ r H' t u b1 h1 s1 b2 h2 s2, Keep p H H' → Tape H' p (A + 52) → H' r = some (.tup [.ref t, .ref u]) → TD H' t b1 h1 s1 → TD H' u b2 h2 s2 → Q (.ref r) H'
theorem ok_two {f : Addr} {fd : FuncData} (F : Fun K "_law_drawn_two" "_law_drawn_two" xTwo f fd) (W : CalDrawn P w K mg base) (G : CalPick P w K mg base) (D : CalDraw P w K mg base) (S : CalSigned P w K mg base) : FnOk P w K mg base CX0 6 f fd ["_law_tape", "_law_figures"] spTwo := by
  refine F.ok sc_two (fun vs H Q E h => ?_) (fun cdv A outer s H vs Q E hr h => ?_)
  · obtain ⟨p, A, rfl, _⟩ := h
    rfl
  · obtain ⟨p, A, rfl, T, hA, k⟩ := h
    refine ⟨_, pss_cons (ps_par (i := 2) (j := 3) rfl sc_two.nd rfl rfl (by decide) rfl rfl (pa_cons (pe_cal W hr (by decide) pass0 (by rfl) (pa_cons (pv 0) (pa_cons (pv 1) pa_nil))) (pa_cons (pe_cal W hr (by decide) pass0 (by rfl) (pa_cons (pv 0) (pa_cons (pv 1) pa_nil))) pa_nil)) (by rfl))
      (pss_cons (ps_asg (pv 2) (pg_tup rfl (pgs_cons (pg_name (i := 4) sc_two.nd rfl (.inl rfl)) (pgs_cons (pg_name (i := 5) sc_two.nd rfl (.inl rfl)) (pgs_cons (pg_name (i := 6) sc_two.nd rfl (.inl rfl)) pgs_nil)))))
      (pss_cons (ps_set (i := 7) sc_two.nd rfl (.inl rfl) (pe_lst (pa_cons
          (pe_tup (pa_cons (pv 4) (pa_cons (pv 5) (pa_cons (pe_op op_add (pv 6) (pe_op op_mulW (pv 4) (pe_cal S hr (by decide) pass0 (by rfl) (pa_cons (pv 0) (pa_cons (pv 1) pa_nil))))) pa_nil)))) (pa_cons
          (pe_tup (pa_cons (pe_op op_add (pv 4) pe_int) (pa_cons (pv 5) (pa_cons (pv 6) pa_nil)))) (pa_cons
          (pe_tup (pa_cons (pv 4) (pa_cons (pe_op op_add (pv 5) pe_int) (pa_cons (pv 6) pa_nil)))) (pa_cons
          (pe_tup (pa_cons (pv 4) (pa_cons (pv 5) (pa_cons (pe_op op_add (pv 6) pe_int) pa_nil)))) (pa_cons
          (pe_tup (pa_cons (pe_op op_mulW (pv 4) pe_int) (pa_cons (pv 5) (pa_cons (pv 6) pa_nil)))) (pa_cons
          (pe_tup (pa_cons (pv 4) (pa_cons pe_int (pa_cons (pv 6) pa_nil)))) (pa_cons (pv 3) (pa_cons (pv 3) pa_nil))))))))))
      (pss_cons (ps_set (i := 3) sc_two.nd rfl (.inl rfl) (pe_cal G hr (by decide) pass0 (by rfl) (pa_cons (pv 0) (pa_cons (pv 7) pa_nil))))
      (pss_one (ps_ret (pe_ifExp (pt_truth (pe_cal D hr (by decide) pass0 (by rfl) (pa_cons (pv 0) (pa_cons pe_int pa_nil))) (by intro _; rfl)) (pe_tup (pa_cons (pv 2) (pa_cons (pv 3) pa_nil))) (pe_tup (pa_cons (pv 3) (pa_cons (pv 2) pa_nil))))))))), ?_⟩
    have sl : ∀ n : Nat, n ≤ 100 → n ≤ sizeLine := fun n h => by rw [sizeLine_eq]; omega
    refine ⟨_, rfl, _, rfl, p, A, rfl, T, by omega, fun t H1 b h sh k1 T1 U b1 b2 h1 h2 => ?_⟩
    refine ⟨_, rfl, _, rfl, p, A + 22, rfl, T1, by omega, fun u H2 c g r k2 T2 V c1 c2 g1 g2 => ?_⟩
    have U1 : TD H1 t b h sh := ⟨U, b1, by omega, h1, by omega⟩
    have U2 := U1.put k2 T1
    have V2 : TD H2 u c g r := ⟨V, c1, by omega, g1, by omega⟩
    refine ⟨_, _, rfl, ?_⟩
    refine ⟨_, rfl, t, _, rfl, SqT.of U2.at_, rfl, _, _, rfl, _, _, rfl, _, _, rfl, rfl, ?_⟩
    -- near
    refine ⟨_, rfl, _, rfl, _, rfl, _, rfl, _, rfl, _, rfl, p, 30, A + 44, rfl, T2, by omega, by decide, by decide, fun x H3 x0 x1 k3 T3 => ?_⟩
    have U3 := U2.put k3 T2
    have V3 := V2.put k3 T2
    refine ⟨_, _, rfl, rfl, wide_mul (a := 200) (b := 200) (by omega) (by omega) (by decide) (by decide) (by decide), _, _, rfl, rfl, sl 3 (by decide), fun q1 n1 => ?_⟩
    have e1 := same_new (o := .tup [.int b, .int h, .int (sh + b * x)]) n1
    refine ⟨_, rfl, _, _, rfl, rfl, _, rfl, _, rfl, sl 3 (by decide), fun q2 n2 => ?_⟩
    have e2 := same_new (o := .tup [.int (b + 1), .int h, .int sh]) n2
    refine ⟨_, rfl, _, rfl, _, _, rfl, rfl, _, rfl, sl 3 (by decide), fun q3 n3 => ?_⟩
    have e3 := same_new (o := .tup [.int b, .int (h + 1), .int sh]) n3
    refine ⟨_, rfl, _, rfl, _, rfl, _, _, rfl, rfl, sl 3 (by decide), fun q4 n4 => ?_⟩
    have e4 := same_new (o := .tup [.int b, .int h, .int (sh + 1)]) n4
    refine ⟨_, rfl, _, _, rfl, rfl, wide_mul (a := 200) (b := 200) (by omega) (by omega) (by decide) (by decide) (by decide), _, rfl, _, rfl, sl 3 (by decide), fun q5 n5 => ?_⟩
    have e5 := same_new (o := .tup [.int (b * 2), .int h, .int sh]) n5
    refine ⟨_, rfl, _, rfl, sl 3 (by decide), fun q6 n6 => ?_⟩
    have e6 := same_new (o := .tup [.int b, .int 1, .int sh]) n6
    refine ⟨_, rfl, _, rfl, sl 8 (by decide), fun q nq => ?_⟩
    have e7 := same_new (o := .lst [.ref q1, .ref q2, .ref q3, .ref q4, .ref q5, .ref q6, .ref u, .ref u]) nq
    have e67 := e6.trans e7
    have e57 := e5.trans e67
    have e47 := e4.trans e57
    have e37 := e3.trans e47
    have e27 := e2.trans e37
    have e17 := e1.trans e27
    have w1 : TD _ q1 b h (sh + b * x) := TD.keep ⟨upd_same, b1, by omega, h1, by omega⟩ e27
    have w2 : TD _ q2 (b + 1) h sh := TD.keep ⟨upd_same, by omega, by omega, h1, by omega⟩ e37
    have w3 : TD _ q3 b (h + 1) sh := TD.keep ⟨upd_same, b1, by omega, by omega, by omega⟩ e47
    have w4 : TD _ q4 b h (sh + 1) := TD.keep ⟨upd_same, b1, by omega, h1, by omega⟩ e57
    have w5 : TD _ q5 (b * 2) h sh := TD.keep ⟨upd_same, by omega, by omega, h1, by omega⟩ e67
    have w6 : TD _ q6 b 1 sh := TD.keep ⟨upd_same, b1, by omega, by omega, by decide⟩ e7
    have U4 := U3.keep e17
    have V4 := V3.keep e17
    have T4 := T3.keep e17
    refine ⟨_, rfl, _, rfl, p, q, _, A + 50, rfl, T4, by omega, SqL.of upd_same, (T3.keep (e1.trans (e2.trans (e3.trans (e4.trans (e5.trans e6)))))).ne nq, (by show 1 ≤ 8; decide), (by show 8 ≤ 1000; decide), fun v H5 hv k5 T5 => ?_⟩
    have hv : ∃ (y : Addr) (c g r : Int), v = .ref y ∧ TD H5 y c g r := by
      simp only [List.mem_cons, List.not_mem_nil, or_false] at hv
      rcases hv with rfl | rfl | rfl | rfl | rfl | rfl | rfl | rfl
      · exact ⟨_, _, _, _, rfl, w1.put k5 T4⟩
      · exact ⟨_, _, _, _, rfl, w2.put k5 T4⟩
      · exact ⟨_, _, _, _, rfl, w3.put k5 T4⟩
      · exact ⟨_, _, _, _, rfl, w4.put k5 T4⟩
      · exact ⟨_, _, _, _, rfl, w5.put k5 T4⟩
      · exact ⟨_, _, _, _, rfl, w6.put k5 T4⟩
      · exact ⟨_, _, _, _, rfl, V4.put k5 T4⟩
      · exact ⟨_, _, _, _, rfl, V4.put k5 T4⟩
    obtain ⟨y, c', g', r', rfl, W5⟩ := hv
    have U5 := U4.put k5 T4
    have kk := k1.trans (k2.trans (k3.trans ((Keep.of_same e17).trans k5)))
    refine ⟨_, rfl, p, _, A + 51, rfl, T5, by omega, by decide, by decide, fun z H6 z0 z1 k6 T6 => ⟨_, rfl, ?_⟩⟩
    have U6 := U5.put k6 T5
    have W6 := W5.put k6 T5
    refine ite2 (fun _ => ?_) (fun _ => ?_)
    · refine ⟨_, rfl, _, rfl, sl 2 (by decide), fun m nm => ?_⟩
      have e8 := same_new (o := .tup [.ref t, .ref y]) nm
      exact k m _ _ _ _ _ _ _ _ _ (kk.trans (k6.trans (Keep.of_same e8))) (T6.keep e8) upd_same (U6.keep e8) (W6.keep e8)
    · refine ⟨_, rfl, _, rfl, sl 2 (by decide), fun m nm => ?_⟩
      have e8 := same_new (o := .tup [.ref y, .ref t]) nm
      exact k m _ _ _ _ _ _ _ _ _ (kk.trans (k6.trans (Keep.of_same e8))) (T6.keep e8) upd_same (W6.keep e8) (U6.keep e8)
end
end K41

set_option Elab.async false
set_option linter.all false
set_option maxRecDepth 100000
set_option maxHeartbeats 4000000
namespace K41
open PySem PySem.Spec PyProof.Rows L2
theorem Tape.tne {H : Hp} {p z : Addr} {A : Nat} {xs : List V} (X : Tape H p A) (e : H z = some (.tup xs)) : z ≠ p := by
  obtain ⟨l, cs, a', r', TR, _⟩ := X
  exact ne_of e TR.d (by intro z; cases z)
section
variable {P : Program} {w : World} {K : PySem.W.Frag} {mg : Str → Option Value} {base : Heap} {C CB : Addr}
abbrev CalTwo (P : Program) (w : World) (K : PySem.W.Frag) (mg : Str → Option Value) (base : Heap) : Prop := Cal P w K mg base CX0 6 "_law_drawn_two" ["_law_tape", "_law_figures"] spTwo
abbrev CalDealOf (P : Program) (w : World) (K : PySem.W.Frag) (mg : Str → Option Value) (base : Heap) (C : Addr) : Prop := Cal P w K mg base CX0 6 "_law_deal_of" ["_law_deal"] (spDealOf C)
abbrev CalFrom (P : Program) (w : World) (K : PySem.W.Frag) (mg : Str → Option Value) (base : Heap) (C CB : Addr) : Prop := Cal P w K mg base (L2.CX P w) 4 "part_from" ["one", "other"] (spFrom C CB)
abbrev CalAlways (P : Program) (w : World) (K : PySem.W.Frag) (mg : Str → Option Value) (base : Heap) (C CB : Addr) : Prop := Cal P w K mg base (L2.CX P w) 4 "always_alike" ["one", "other"] (spAlways C CB)
abbrev CalAlike (P : Program) (w : World) (K : PySem.W.Frag) (mg : Str → Option Value) (base : Heap) : Prop := Cal P w K mg base CX0 2 "_law_alike" ["_law_one", "_law_other"] spAlike
abbrev CalTruth (P : Program) (w : World) (K : PySem.W.Frag) (mg : Str → Option Value) (base : Heap) : Prop := Cal P w K mg base CX0 1 "_law_truth" ["_law_value", "_law_due"] spTruth
abbrev CalWhole (P : Program) (w : World) (K : PySem.W.Frag) (mg : Str → Option Value) (base : Heap) : Prop := Cal P w K mg base CX0 1 "_law_whole_is" ["_law_value", "_law_due"] spWhole
abbrev nFar : List Str := ["_law_tape", "_law_one", "_law_other", "_law_made", "_law_found", "_law_alike_here", "_law_last", "_law_i", "_law_turn", "_law_j"]
theorem sc_far : FnScope nFar ["_law_tape"] (defScope xFar) := ⟨rfl, rfl, rfl, by decide +kernel, rfl, by decide +kernel, by decide +kernel⟩
def spFar : Sp := fun vs H Q _ => ∃ (p : Addr) (A : Nat), vs = [.ref p] ∧ Tape H p A ∧ A ≤ 400000 ∧ ∀ H', Keep p H H' → Tape H' p (A + 100) → Q (.bl true) H'
structure CalsFar (P : Program) (w : World) (K : PySem.W.Frag) (mg : Str → Option Value) (base : Heap) (C CB : Addr) : Prop where
  two : CalTwo P w K mg base
  dealOf : CalDealOf P w K mg base C
  pf : CalFrom P w K mg base C CB
  al : CalAlways P w K mg base C CB
  alike : CalAlike P w K mg base
  truth : CalTruth P w K mg base
  whole : CalWhole P w K mg base
  tog : CalTog P w K mg base
  size : CalSize P w K mg base
  pick : CalPick P w K mg base
theorem ok_far {f : Addr} {fd : FuncData} (F : Fun K "_law_far_right" "_law_far_right" xFar f fd) (B : Bn mg) (Z : CalsFar P w K mg base C CB) : FnOk P w K mg base CX0 7 f fd ["_law_tape"] spFar := by
  refine F.ok sc_far (fun vs H Q E h => ?_) (fun cdv A outer s H vs Q E hr h => ?_)
  · obtain ⟨p, A, rfl, _⟩ := h
    rfl
  · obtain ⟨p, A, rfl, T, hA, k⟩ := h
    refine ⟨_, pss_cons (ps_asg (pe_cal Z.two hr (by decide) pass0 (by rfl) (pa_cons (pv 0) (pa_cons pe_int pa_nil))) (pg_tup rfl (pgs_cons (pg_name (i := 1) sc_far.nd rfl (.inr rfl)) (pgs_cons (pg_name (i := 2) sc_far.nd rfl (.inr rfl)) pgs_nil))))
      (pss_cons (ps_set (i := 3) sc_far.nd rfl (.inl rfl) (pe_tup (pa_cons (pe_cal Z.dealOf hr (by decide) pass0 (by rfl) (pa_cons (pv 1) pa_nil)) (pa_cons (pe_cal Z.dealOf hr (by decide) pass0 (by rfl) (pa_cons (pv 2) pa_nil)) pa_nil))))
      (pss_cons (ps_par (i := 4) (j := 5) rfl sc_far.nd rfl rfl (by decide) rfl rfl (pa_cons (pe_cal Z.pf hr (by decide) passL (by rfl) (pa_cons (pe_ix ix_tup (pv 3) pe_int (fun _ _ => rfl)) (pa_cons (pe_ix ix_tup (pv 3) pe_int (fun _ _ => rfl)) pa_nil))) (pa_cons (pe_cal Z.alike hr (by decide) pass0 (by rfl) (pa_cons (pv 1) (pa_cons (pv 2) pa_nil))) pa_nil)) (by rfl))
      (pss_cons (ps_if (pt_not (pt_val (pe_cal Z.truth hr (by decide) pass0 (by rfl) (pa_cons (pe_cal Z.al hr (by decide) passL (by rfl) (pa_cons (pe_ix ix_tup (pv 3) pe_int (fun _ _ => rfl)) (pa_cons (pe_ix ix_tup (pv 3) pe_int (fun _ _ => rfl)) pa_nil))) (pa_cons (pv 5) pa_nil))))) pss_never pss_nil)
      (pss_cons (ps_if (pt_val (pv 5)) (pss_one (ps_ret (pe_and (pe_cmpR op_isN (pv 4) pe_non (nomark _)) (pe_one (pe_cmpR op_isN (pe_cal Z.pf hr (by decide) passL (by rfl) (pa_cons (pe_ix ix_tup (pv 3) pe_int (fun _ _ => rfl)) (pa_cons (pe_ix ix_tup (pv 3) pe_int (fun _ _ => rfl)) pa_nil))) pe_non (nomark _)))))) pss_nil)
      (pss_cons (ps_if (PW.pt (pw_or (pt_not (pt_val (pe_cal Z.whole hr (by decide) pass0 (by rfl) (pa_cons (pv 4) (pa_cons (pv 4) pa_nil))))) (pw_or (pt_cmpR op_lt (pv 4) pe_int (nomark _)) (pw_or1 (pt_cmpR op_ne (pe_cal Z.pf hr (by decide) passL (by rfl) (pa_cons (pe_ix ix_tup (pv 3) pe_int (fun _ _ => rfl)) (pa_cons (pe_ix ix_tup (pv 3) pe_int (fun _ _ => rfl)) pa_nil))) (pv 4) (nomark _)))))) pss_never pss_nil)
      (pss_cons (ps_set (i := 6) sc_far.nd rfl (.inr rfl) (pe_op op_sub (pv 4) pe_int))
      (C8.pss_cut (ps_if (pt_not (pt_val (pe_callB (cr_any rfl) (by rfl) B.any (by decide +kernel) (pa_cons (pe_lc (own := [("_law_i", 7)]) (g := gName 7) (by rfl) sc_far.nd (pi_list (pe_lst (pa_cons pe_int (pa_cons (pe_op op_sub (pv 6) pe_int) pa_nil)))) (blkOk_by (own := [("_law_i", 7)]) (N := nFar) (sc := defScope xFar) (by decide +kernel))
          (fun _ _ _ _ _ => pg_name (i := 7) sc_far.nd rfl (.inl rfl)) (fun _ _ _ _ _ => pts_nil) (fun _ _ _ _ _ => pe_cmpR op_ne (pe_cal Z.tog hr (by decide) pass0 (by rfl) (pa_cons (pv 1) (pa_cons (pv 7) (pa_cons (pv 6) pa_nil)))) (pe_cal Z.tog hr (by decide) pass0 (by rfl) (pa_cons (pv 2) (pa_cons (pv 7) (pa_cons (pv 6) pa_nil)))) (nomark _))) pa_nil)))) pss_never pss_nil)
      (pss_cons (ps_for PassesOwn.never rfl (pi_range1 (by rfl) B.range (pa_cons pe_int pa_nil)) (pg_name (i := 8) sc_far.nd rfl (.inl rfl))
        (pss_cons (ps_par (i := 7) (j := 9) rfl sc_far.nd rfl rfl (by decide) rfl rfl (pa_cons (pe_op op_mod (pe_callTy call_int1 (by rfl) B.int (by decide +kernel) (pa_cons (pe_cal Z.size hr (by decide) pass0 (by rfl) (pa_cons (pv 0) (pa_cons pe_int pa_nil))) pa_nil)) (pv 6)) (pa_cons (pe_op op_mod (pe_callTy call_int1 (by rfl) B.int (by decide +kernel) (pa_cons (pe_cal Z.size hr (by decide) pass0 (by rfl) (pa_cons (pv 0) (pa_cons pe_int pa_nil))) pa_nil)) (pv 6)) pa_nil)) (by rfl))
        (pss_cons (ps_asg (pe_cal Z.pick hr (by decide) pass0 (by rfl) (pa_cons (pv 0) (pa_cons (pe_lst (pa_cons (pe_tup (pa_cons (pv 7) (pa_cons (pv 9) pa_nil))) (pa_cons (pe_tup (pa_cons pe_int (pa_cons (pv 9) pa_nil))) (pa_cons (pe_tup (pa_cons (pe_op op_sub (pv 6) pe_int) (pa_cons (pv 9) pa_nil))) (pa_cons (pe_tup (pa_cons (pv 7) (pa_cons (pe_callB (call_max2 rfl) (by rfl) B.max (by decide +kernel) (pa_cons pe_int (pa_cons (pe_op op_sub (pv 7) pe_int) pa_nil))) pa_nil))) pa_nil))))) pa_nil)))
            (pg_tup rfl (pgs_cons (pg_name (i := 7) sc_far.nd rfl (.inl rfl)) (pgs_cons (pg_name (i := 9) sc_far.nd rfl (.inl rfl)) pgs_nil))))
        (pss_one (ps_if (pt_cmpR op_ne (pe_cal Z.tog hr (by decide) pass0 (by rfl) (pa_cons (pv 1) (pa_cons (pv 7) (pa_cons (pv 9) pa_nil)))) (pe_cal Z.tog hr (by decide) pass0 (by rfl) (pa_cons (pv 2) (pa_cons (pv 7) (pa_cons (pv 9) pa_nil)))) (nomark _)) pss_never pss_nil)))))
      (pss_one (ps_ret pe_bl)))))))))), ?_⟩
    have sl : ∀ n : Nat, n ≤ 100 → n ≤ sizeLine := fun n h => by rw [sizeLine_eq]; omega
    refine ⟨_, rfl, p, A, rfl, T, by omega, fun r H1 t u b1 h1 s1 b2 h2 s2 k1 T1 er U V => ?_⟩
    refine ⟨r, _, rfl, SqT.of er, rfl, _, _, rfl, _, _, rfl, rfl, ?_⟩
    -- the Deals
    refine ⟨_, rfl, t, b1, h1, s1, rfl, U.at_, U.b1, U.b2, U.h1, U.h2, fun x H2 e2 nx D1 => ?_⟩
    have U2 := U.keep e2
    have V2 := V.keep e2
    refine ⟨_, rfl, u, b2, h2, s2, rfl, V2.at_, V2.b1, V2.b2, V2.h1, V2.h2, fun y H3 e3 ny D2 => ?_⟩
    have D13 := D1.keep e3
    refine ⟨sl 2 (by decide), fun m nm => ?_⟩
    have e4 := same_new (o := .tup [.ref x, .ref y]) nm
    have U4 := (U2.keep e3).keep e4
    have V4 := (V2.keep e3).keep e4
    have D1 := D13.keep e4
    have D2 := D2.keep e4
    have em : upd H3 m (.tup [.ref x, .ref y]) m = some (.tup [.ref x, .ref y]) := upd_same
    have T4 := (T1.keep (e2.trans e3)).keep e4
    have k4 := k1.trans (Keep.of_same (e2.trans (e3.trans e4)))
    clear D13 U2 V2 T1 k1 e2 e3 e4 U V nm nx ny er
    revert U4 V4 D1 D2 em T4 k4
    generalize upd H3 m (.tup [.ref x, .ref y]) = H4
    intro U4 V4 D1 D2 em T4 k4
    have db1 := dB_pos (b := b1) (P := h1) U4.b1
    have db2 := dB_pos (b := b2) (P := h2) V4.b1
    have db1' : dB b1 h1 ≤ 10 ^ 40 := by unfold dB; split; exact U4.b2; decide
    have db2' : dB b2 h2 ≤ 10 ^ 40 := by unfold dB; split; exact V4.b2; decide
    have e12 := prt_d (b1 := b1) (P1 := h1) (s1 := s1) (b2 := b2) (P2 := h2) (s2 := s2) U4.h1 V4.h1
    have e21 : prt (dB b2 h2) h2 (dS b2 h2 s2) (dB b1 h1) h1 (dS b1 h1 s1) = prt b1 h1 s1 b2 h2 s2 := (prt_comm _ _ _ _ _ _).trans e12
    have two : ∀ {R : Option Int → Prop} {E : XK} {H' : Hp}, Same H4 H' → R (prt b1 h1 s1 b2 h2 s2) → Two C CB R H' E (.ref x) (.ref y) := fun {R E H'} e q =>
      .inl ⟨x, y, _, _, _, _, _, _, rfl, rfl, D1.keep e, D2.keep e, db1, db1', U4.h1, U4.h2, db2, db2', V4.h1, V4.h2, by rw [e12]; exact q⟩
    have two' : ∀ {R : Option Int → Prop} {E : XK} {H' : Hp}, Same H4 H' → R (prt b1 h1 s1 b2 h2 s2) → Two C CB R H' E (.ref y) (.ref x) := fun {R E H'} e q =>
      .inl ⟨y, x, _, _, _, _, _, _, rfl, rfl, D2.keep e, D1.keep e, db2, db2', V4.h1, V4.h2, db1, db1', U4.h1, U4.h2, by rw [e21]; exact q⟩
    have a0 : atI [V.ref x, V.ref y] 0 = some (.ref x) := at_of (j := 0) rfl rfl
    have a1 : atI [V.ref x, V.ref y] 1 = some (.ref y) := at_of (j := 1) rfl rfl
    -- found, alike_here
    refine ⟨_, rfl, m, _, _, _, rfl, rfl, SqT.of em, a0, _, rfl, m, _, _, _, rfl, rfl, SqT.of em, a1, _, _, rfl, two (Same.refl _) ?_⟩
    refine ⟨_, rfl, _, rfl, t, u, b1, h1, s1, b2, h2, s2, rfl, U4.at_, V4.at_, U4.b1, U4.h1, V4.b1, V4.h1, fun H5 e5 => ?_⟩
    refine ⟨_, _, rfl, ?_⟩
    have em5 := e5 _ _ em
    -- always_alike
    refine ⟨_, rfl, m, _, _, _, rfl, rfl, SqT.of em5, a0, _, rfl, m, _, _, _, rfl, rfl, SqT.of em5, a1, _, _, rfl, two e5 ?_⟩
    have ea : alk b1 h1 s1 b2 h2 s2 = decide (prt b1 h1 s1 b2 h2 s2 = none) := by
      have q := prt_alk (b1 := b1) (P1 := h1) (s1 := s1) (b2 := b2) (P2 := h2) (s2 := s2)
      rw [Bool.eq_iff_iff, decide_eq_true_iff]
      exact q.symm
    rw [ea]
    refine ⟨_, rfl, _, _, rfl, _, rfl, ?_⟩
    cases e : prt b1 h1 s1 b2 h2 s2 with
    | none =>
      refine iteF ?_
      refine ⟨_, rfl, _, rfl, ?_⟩
      refine iteT ⟨_, rfl, rfl, _, rfl, ?_⟩
      refine iteT ⟨_, rfl, m, _, _, _, rfl, rfl, SqT.of em5, a1, _, rfl, m, _, _, _, rfl, rfl, SqT.of em5, a0, _, _, rfl, two' e5 ?_⟩
      rw [e]
      exact ⟨rfl, k _ (k4.trans (Keep.of_same e5)) ((T4.keep e5).mono (by omega))⟩
    | some n =>
      rw [e] at two two'
      have PN := prt_some U4.b1 U4.h1 V4.b1 V4.h1 e
      have n2 := PN.two
      refine iteF ?_
      refine ⟨_, rfl, _, rfl, ?_⟩
      refine iteF ?_
      refine ⟨_, rfl, _, rfl, n, n, rfl, _, rfl, ?_⟩
      rw [decide_eq_true (rfl : n = n)]
      refine iteF ?_
      refine ⟨_, rfl, _, _, rfl, rfl, _, rfl, ?_⟩
      rw [decide_eq_false (show ¬ n < 2 by omega)]
      refine iteF ?_
      refine ⟨_, rfl, m, _, _, _, rfl, rfl, SqT.of em5, a1, _, rfl, m, _, _, _, rfl, rfl, SqT.of em5, a0, _, _, rfl, two' e5 ?_⟩
      refine ⟨_, rfl, rfl, _, rfl, ?_⟩
      refine iteNS rfl ?_
      refine ⟨_, rfl, _, _, rfl, rfl, ?_⟩
      have U5 := U4.keep e5
      have V5 := V4.keep e5
      have T5 := T4.keep e5
      refine ⟨fun σ H' => σ = [some (.ref p), some (.ref t), some (.ref u), some (.ref m), some (.int n), some (.bl false), some (.int (n - 1)), none, none, none] ∧ Same H5 H', ?_, ?_⟩
      · refine ⟨_, rfl, _, _, rfl, rfl, sl 2 (by decide), fun q nq => ?_⟩
        have e6 := same_new (o := .lst [.int 0, .int (n - 1 - 1)]) nq
        refine ⟨q, rfl, ⟨_, SqL.of upd_same⟩, fun D nD => ?_⟩
        have e7 := same_new (o := .lst []) nD
        refine lc_list (K := K) (a := q) (xs := [.int 0, .int (n - 1 - 1)]) (fun i H' => Same (upd H5 q (.lst [.int 0, .int (n - 1 - 1)])) H' ∧ H' D = some (.lst (([!decide (V.bl (decide (hs b1 h1 s1 0 = hs b1 h1 s1 (n - 1))) = V.bl (decide (hs b2 h2 s2 0 = hs b2 h2 s2 (n - 1)))), !decide (V.bl (decide (hs b1 h1 s1 (n - 1 - 1) = hs b1 h1 s1 (n - 1))) = V.bl (decide (hs b2 h2 s2 (n - 1 - 1) = hs b2 h2 s2 (n - 1))))] : List Bool).take i |>.map V.bl))) ⟨e7, upd_same⟩ (fun i H' _ p => SqL.of (p.1 _ _ upd_same)) ?_ ?_
        · rintro i x H' hi ⟨e8, eD⟩
          have hz : ∃ z : Int, x = .int z ∧ (([!decide (V.bl (decide (hs b1 h1 s1 0 = hs b1 h1 s1 (n - 1))) = V.bl (decide (hs b2 h2 s2 0 = hs b2 h2 s2 (n - 1)))), !decide (V.bl (decide (hs b1 h1 s1 (n - 1 - 1) = hs b1 h1 s1 (n - 1))) = V.bl (decide (hs b2 h2 s2 (n - 1 - 1) = hs b2 h2 s2 (n - 1))))] : List Bool).take (i + 1)) =
              (([!decide (V.bl (decide (hs b1 h1 s1 0 = hs b1 h1 s1 (n - 1))) = V.bl (decide (hs b2 h2 s2 0 = hs b2 h2 s2 (n - 1)))), !decide (V.bl (decide (hs b1 h1 s1 (n - 1 - 1) = hs b1 h1 s1 (n - 1))) = V.bl (decide (hs b2 h2 s2 (n - 1 - 1) = hs b2 h2 s2 (n - 1))))] : List Bool).take i) ++ [!decide (V.bl (decide (hs b1 h1 s1 z = hs b1 h1 s1 (n - 1))) = V.bl (decide (hs b2 h2 s2 z = hs b2 h2 s2 (n - 1))))] ∧ i < 2 := by
            match i, hi with
            | 0, hi => exact ⟨0, (Option.some.inj hi).symm, rfl, by decide⟩
            | 1, hi => exact ⟨_, (Option.some.inj hi).symm, rfl, by decide⟩
            | i + 2, hi => simp at hi
          obtain ⟨z, rfl, ez, i2⟩ := hz
          have U6 := U5.keep (e6.trans e8)
          have V6 := V5.keep (e6.trans e8)
          refine ⟨rfl, ?_⟩
          unfold tYes
          dsimp only
          refine iteT ?_
          refine ⟨_, rfl, _, rfl, _, rfl, t, b1, h1, s1, z, n - 1, rfl, U6.at_, U6.b1, by have := U6.b2; omega, U6.h1, ?_⟩
          refine ⟨_, rfl, _, rfl, _, rfl, u, b2, h2, s2, z, n - 1, rfl, V6.at_, V6.b1, by have := V6.b2; omega, V6.h1, ?_⟩
          refine ⟨rfl, _, eD, ?_, ?_⟩
          · rw [List.length_map, sizeLine_eq]
            have := List.length_take_le i ([!decide (V.bl (decide (hs b1 h1 s1 0 = hs b1 h1 s1 (n - 1))) = V.bl (decide (hs b2 h2 s2 0 = hs b2 h2 s2 (n - 1)))), !decide (V.bl (decide (hs b1 h1 s1 (n - 1 - 1) = hs b1 h1 s1 (n - 1))) = V.bl (decide (hs b2 h2 s2 (n - 1 - 1) = hs b2 h2 s2 (n - 1))))] : List Bool)
            omega
          · refine ⟨fun b o eb => ?_, ?_⟩
            · rw [upd_ne (fun zz => by rw [zz, nD] at eb; cases eb)]
              exact e8 b o eb
            · rw [ez, List.map_append]
              exact upd_same
        · rintro H' ⟨e8, eD⟩
          refine ⟨D, _, rfl, SqL.of eD, ?_⟩
          refine ⟨true, ?_, ?_⟩
          · have l := PN.last
            rw [show n - 2 = n - 1 - 1 by omega] at l
            show V.bl _ = V.bl true
            congr 1
            simp only [List.take, List.length, List.any_cons, List.any_nil, id, Bool.or_false, Bool.or_eq_true, Bool.not_eq_true', decide_eq_false_iff_not, V.bl.injEq, decide_eq_decide]
            exact l
          · refine iteF ⟨rfl, e6.trans e8⟩
      · rintro σ H6 ⟨rfl, e6⟩
        have U6 := U5.keep e6
        have V6 := V5.keep e6
        have T6 := T5.keep e6
        have k6 := k4.trans (Keep.of_same (e5.trans e6))
        refine ⟨_, rfl, by decide, by decide, for_range (lo := 0) (n := 4) (fun i σ H' => ∃ (a b c : Option V), σ = [some (.ref p), some (.ref t), some (.ref u), some (.ref m), some (.int n), some (.bl false), some (.int (n - 1)), a, b, c] ∧ Keep p H6 H' ∧ Tape H' p (A + 52 + 11 * i)) ⟨none, none, none, rfl, Keep.refl _ _, T6⟩ ?_ ?_⟩
        · rintro i σ H7 hi ⟨va, vb, vc, rfl, k7, T7⟩
          have U7 := U6.put k7 T6
          have V7 := V6.put k7 T6
          refine ⟨_, rfl, p, 40, A + 52 + 11 * i, rfl, T7, by omega, by decide, by decide, fun za H8 za0 za1 k8 T8 => .inl ⟨_, rfl, _, rfl, _, _, rfl, rfl, (show (0 : Int) < n - 1 by omega), ?_⟩⟩
          refine ⟨_, rfl, p, 40, A + 52 + 11 * i + 5, rfl, T8, by omega, by decide, by decide, fun zb H9 zb0 zb1 k9 T9 => .inl ⟨_, rfl, _, rfl, _, _, rfl, rfl, (show (0 : Int) < n - 1 by omega), ?_⟩⟩
          have ma0 := Int.emod_nonneg za (show n - 1 ≠ 0 by omega)
          have ma1 := Int.emod_lt_of_pos za (show 0 < n - 1 by omega)
          have mb0 := Int.emod_nonneg zb (show n - 1 ≠ 0 by omega)
          have mb1 := Int.emod_lt_of_pos zb (show 0 < n - 1 by omega)
          refine ⟨_, _, rfl, ?_⟩
          dsimp only
          revert ma0 ma1 mb0 mb1
          generalize za % (n - 1) = ia
          generalize zb % (n - 1) = ib
          intro ma0 ma1 mb0 mb1
          have U9 := (U7.put k8 T7).put k9 T8
          have V9 := (V7.put k8 T7).put k9 T8
          refine ⟨_, rfl, _, rfl, _, rfl, sl 2 (by decide), fun q1 n1 => ?_⟩
          have f1 := same_new (o := .tup [.int ia, .int ib]) n1
          refine ⟨_, rfl, sl 2 (by decide), fun q2 n2 => ?_⟩
          have f2 := same_new (o := .tup [.int 0, .int ib]) n2
          refine ⟨_, rfl, _, _, rfl, rfl, _, rfl, sl 2 (by decide), fun q3 n3 => ?_⟩
          have f3 := same_new (o := .tup [.int (n - 1 - 1), .int ib]) n3
          refine ⟨_, rfl, _, rfl, _, _, rfl, rfl, _, _, rfl, ?_⟩
          refine ⟨sl 2 (by decide), fun q4 n4 => ?_⟩
          have f4 := same_new (o := .tup [.int ia, .int (if ia - 1 > 0 then ia - 1 else 0)]) n4
          refine ⟨sl 4 (by decide), fun q nq => ?_⟩
          have f5 := same_new (o := .lst [.ref q1, .ref q2, .ref q3, .ref q4]) nq
          have f45 := f4.trans f5
          have f35 := f3.trans f45
          have f25 := f2.trans f35
          have f15 := f1.trans f25
          have w1 := f25 _ _ (upd_same (H := H9) (a := q1) (o := .tup [.int ia, .int ib]))
          have w2 := f35 _ _ (upd_same (a := q2) (o := .tup [.int 0, .int ib]))
          have w3 := f45 _ _ (upd_same (a := q3) (o := .tup [.int (n - 1 - 1), .int ib]))
          have w4 := f5 _ _ (upd_same (a := q4) (o := .tup [.int ia, .int (if ia - 1 > 0 then ia - 1 else 0)]))
          have U9 := U9.keep f15
          have V9 := V9.keep f15
          have T9' := T9.keep f15
          have nqp := (T9.keep (f1.trans (f2.trans (f3.trans f4)))).ne nq
          refine ⟨p, q, _, A + 52 + 11 * i + 10, rfl, T9', by omega, SqL.of upd_same, nqp, (by show 1 ≤ 4; decide), (by show 4 ≤ 1000; decide), fun v H10 hv k10 T10 => ?_⟩
          have hv : ∃ (z : Addr) (a b : Int), v = .ref z ∧ H10 z = some (.tup [.int a, .int b]) ∧ 0 ≤ a ∧ a < n - 1 ∧ 0 ≤ b ∧ b < n - 1 := by
            simp only [List.mem_cons, List.not_mem_nil, or_false] at hv
            rcases hv with rfl | rfl | rfl | rfl
            · exact ⟨_, _, _, rfl, k10 _ _ w1 (T9'.tne w1), ma0, ma1, mb0, mb1⟩
            · exact ⟨_, _, _, rfl, k10 _ _ w2 (T9'.tne w2), by omega, by omega, mb0, mb1⟩
            · exact ⟨_, _, _, rfl, k10 _ _ w3 (T9'.tne w3), by omega, by omega, mb0, mb1⟩
            · exact ⟨_, _, _, rfl, k10 _ _ w4 (T9'.tne w4), ma0, ma1, by split <;> omega, by split <;> omega⟩
          obtain ⟨z, a, b, rfl, ez, a0', a1', b0', b1'⟩ := hv
          have U10 := U9.put k10 T9'
          have V10 := V9.put k10 T9'
          refine ⟨z, _, rfl, SqT.of ez, rfl, _, _, rfl, _, _, rfl, rfl, ?_⟩
          refine ⟨_, rfl, _, rfl, _, rfl, t, b1, h1, s1, a, b, rfl, U10.at_, U10.b1, by have := U10.b2; omega, U10.h1, ?_⟩
          refine ⟨_, rfl, _, rfl, _, rfl, u, b2, h2, s2, a, b, rfl, V10.at_, V10.b1, by have := V10.b2; omega, V10.h1, ?_⟩
          refine ⟨rfl, _, rfl, ?_⟩
          refine iteNS (by congr 1; exact decide_eq_decide.mpr (PN.same a b a0' a1' b0' b1')) ?_
          exact ⟨_, _, _, rfl, k7.trans (k8.trans (k9.trans ((Keep.of_same f15).trans k10))), T10.mono (by omega)⟩
        · rintro σ H7 ⟨va, vb, vc, rfl, k7, T7⟩
          exact k _ (k6.trans k7) (T7.mono (by omega))
end
end K41

set_option Elab.async false
set_option linter.all false
set_option maxRecDepth 100000
set_option maxHeartbeats 4000000
namespace K41
open PySem PySem.Spec PyProof.Rows L2
/-! ### the small deals: all pairs looked at -/
def un (b1 P1 s1 b2 P2 s2 l : Int) (i : Nat) : Bool := !decide (V.bl (decide (hs b1 P1 s1 i = hs b1 P1 s1 l)) = V.bl (decide (hs b2 P2 s2 i = hs b2 P2 s2 l)))
def unl (b1 P1 s1 b2 P2 s2 : Int) (l : Nat) : List Nat := (List.range l).filter (un b1 P1 s1 b2 P2 s2 l)
def dueAt (o : Option Int) (i : Nat) : Option Int := o.bind fun n => if n - 1 ≤ i then some n else none
theorem un_iff {b1 P1 s1 b2 P2 s2 l : Int} {i : Nat} : un b1 P1 s1 b2 P2 s2 l i = true ↔ ¬ (hs b1 P1 s1 i = hs b1 P1 s1 l ↔ hs b2 P2 s2 i = hs b2 P2 s2 l) := by
  unfold un
  rw [Bool.not_eq_true', decide_eq_false_iff_not, V.bl.injEq, decide_eq_decide]
theorem unl_nil {b1 P1 s1 b2 P2 s2 : Int} {l : Nat} (h : ∀ i : Nat, i < l → (hs b1 P1 s1 i = hs b1 P1 s1 l ↔ hs b2 P2 s2 i = hs b2 P2 s2 l)) : unl b1 P1 s1 b2 P2 s2 l = [] := by
  unfold unl
  rw [List.filter_eq_nil_iff]
  intro i hi c
  exact un_iff.mp c (h i (List.mem_range.mp hi))
theorem unl_some {b1 P1 s1 b2 P2 s2 : Int} {l i : Nat} (hi : i < l) (h : ¬ (hs b1 P1 s1 i = hs b1 P1 s1 l ↔ hs b2 P2 s2 i = hs b2 P2 s2 l)) : unl b1 P1 s1 b2 P2 s2 l ≠ [] := fun z => by
  have : i ∈ unl b1 P1 s1 b2 P2 s2 l := List.mem_filter.mpr ⟨List.mem_range.mpr hi, un_iff.mpr h⟩
  rw [z] at this
  cases this
theorem due_step {b1 P1 s1 b2 P2 s2 : Int} (h1 : 1 ≤ b1) (hP1 : 1 ≤ P1) (h2 : 1 ≤ b2) (hP2 : 1 ≤ P2) (i : Nat) :
    (dueAt (prt b1 P1 s1 b2 P2 s2) i = none ∧ unl b1 P1 s1 b2 P2 s2 (i + 1) ≠ [] → dueAt (prt b1 P1 s1 b2 P2 s2) (i + 1) = some ((i : Int) + 2)) ∧
    (¬ (dueAt (prt b1 P1 s1 b2 P2 s2) i = none ∧ unl b1 P1 s1 b2 P2 s2 (i + 1) ≠ []) → dueAt (prt b1 P1 s1 b2 P2 s2) (i + 1) = dueAt (prt b1 P1 s1 b2 P2 s2) i) := by
  cases e : prt b1 P1 s1 b2 P2 s2 with
  | none =>
    have q := prt_none h1 hP1 h2 hP2 e
    refine ⟨fun c => absurd (unl_nil fun j _ => q j _) c.2, fun _ => rfl⟩
  | some n =>
    have PN := prt_some h1 hP1 h2 hP2 e
    have n2 := PN.two
    have d : ∀ j : Nat, dueAt (some n) j = if n - 1 ≤ j then some n else none := fun j => rfl
    rw [d, d]
    by_cases c : n - 1 ≤ i
    · rw [if_pos c, if_pos (by omega)]
      exact ⟨fun z => (nomatch z.1), fun _ => rfl⟩
    · rw [if_neg c]
      by_cases c2 : n - 1 ≤ ((i + 1 : Nat) : Int)
      · rw [if_pos c2]
        have en : n = (i : Int) + 2 := by omega
        refine ⟨fun _ => by rw [en], fun z => absurd ⟨rfl, ?_⟩ z⟩
        have l := PN.last
        have e1 : n - 1 = ((i + 1 : Nat) : Int) := by omega
        have e2 : n - 2 = ((i : Nat) : Int) := by omega
        rw [e1, e2] at l
        rcases l with l | l
        · exact unl_some (i := 0) (by omega) l
        · exact unl_some (i := i) (by omega) l
      · rw [if_neg c2]
        refine ⟨fun z => absurd (unl_nil fun j hj => ?_) z.2, fun _ => rfl⟩
        exact PN.same _ _ (by omega) (by omega) (by omega) (by omega)
theorem due_end {b1 P1 s1 b2 P2 s2 : Int} (h1 : 1 ≤ b1) (h1' : b1 ≤ 4) (hP1 : 1 ≤ P1) (hP1' : P1 ≤ 3) (h2 : 1 ≤ b2) (h2' : b2 ≤ 4) (hP2 : 1 ≤ P2) (hP2' : P2 ≤ 3) : dueAt (prt b1 P1 s1 b2 P2 s2) 13 = prt b1 P1 s1 b2 P2 s2 := by
  cases e : prt b1 P1 s1 b2 P2 s2 with
  | none => rfl
  | some n =>
    have q := prt_small h1 h1' hP1 hP1' h2 h2' hP2 hP2' e
    show (if n - 1 ≤ ((13 : Nat) : Int) then some n else none) = some n
    rw [if_pos (by omega)]
theorem unl_range {b1 P1 s1 b2 P2 s2 : Int} {l : Int} {i : Nat} : (List.range (i + 1)).filter (un b1 P1 s1 b2 P2 s2 l) = (List.range i).filter (un b1 P1 s1 b2 P2 s2 l) ++ (if un b1 P1 s1 b2 P2 s2 l i = true then [i] else []) := by
  rw [List.range_succ, List.filter_append, List.filter_cons, List.filter_nil]
theorem nats_lay : ∀ l : List Nat, PyData.canLayAll0 (l.map fun j => PyData.int (j : Nat)) = true
  | [] => by simp only [List.map_nil, PyData.canLayAll0]
  | x :: l => by simp only [List.map_cons, PyData.canLayAll0, PyData.canLay0, nats_lay l, Bool.and_self]
theorem nats_depth : ∀ l : List Nat, PyData.depthAll (l.map fun j => PyData.int (j : Nat)) = 0
  | [] => by simp only [List.map_nil, PyData.depthAll]
  | x :: l => by simp only [List.map_cons, PyData.depthAll, PyData.depth, nats_depth l, Nat.max_self]
theorem nats_shaped (l : List Nat) : SeqAt.shaped (.list (l.map fun j => PyData.int (j : Nat))) = true := by
  unfold SeqAt.shaped
  simp only [PyData.canLay0, PyData.depth, nats_lay, nats_depth, Bool.true_and]
  decide
theorem nats_dp {K : PySem.W.Frag} {H : Hp} : ∀ l : List Nat, DpAll K H (l.map fun j => V.int (j : Nat)) (l.map fun j => PyData.int (j : Nat))
  | [] => .nil
  | x :: l => .cons (.int _) (nats_dp l)
theorem nats_eqv : ∀ l : List Nat, PyData.eqv (.list (l.map fun j => PyData.int (j : Nat))) (.list []) = decide (l = [])
  | [] => by simp [PyData.eqv, PyData.eqvAll]
  | x :: l => by simp [PyData.eqv, PyData.eqvAll]
theorem optV_none (o : Option Int) : decide (optV o = .non) = decide (o = none) := by
  cases o with
  | none => rfl
  | some n => rfl
theorem scal_opt (o : Option Int) : scal (optV o) (optV o) = true := by
  cases o with
  | none => rfl
  | some n => rfl
section
variable {P : Program} {w : World} {K : PySem.W.Frag} {mg : Str → Option Value} {base : Heap} {C CB : Addr}
abbrev nSmR : List Str := ["_law_tape", "_law_one", "_law_other", "_law_due", "_law_last", "_law_unlike", "_law_k", "_law_i"]
theorem sc_smR : FnScope nSmR ["_law_tape"] (defScope xSmR) := ⟨rfl, rfl, rfl, by decide +kernel, rfl, by decide +kernel, by decide +kernel⟩
def spSmR : Sp := fun vs H Q _ => ∃ (p : Addr) (A : Nat), vs = [.ref p] ∧ Tape H p A ∧ A ≤ 450000 ∧ ∀ H', Keep p H H' → Tape H' p (A + 6) → Q (.bl true) H'
structure Sm (H : Hp) (t : Addr) (b h s : Int) : Prop where
  at_ : TupAt H t b h s
  b1 : 1 ≤ b
  b2 : b ≤ 4
  h1 : 1 ≤ h
  h2 : h ≤ 3
theorem Sm.keep {H H' : Hp} {t : Addr} {b h s : Int} (T : Sm H t b h s) (k : Same H H') : Sm H' t b h s := ⟨k _ _ T.at_, T.b1, T.b2, T.h1, T.h2⟩
theorem Sm.put {H H' : Hp} {p t : Addr} {A : Nat} {b h s : Int} (T : Sm H t b h s) (k : Keep p H H') (X : Tape H p A) : Sm H' t b h s := ⟨k _ _ T.at_ (X.tne T.at_), T.b1, T.b2, T.h1, T.h2⟩
theorem ok_smR {f : Addr} {fd : FuncData} (F : Fun K "_law_small_right" "_law_small_right" xSmR f fd) (B : Bn mg) (Z : CalsFar P w K mg base C CB) (D : CalDraw P w K mg base) : FnOk P w K mg base CX0 7 f fd ["_law_tape"] spSmR := by
  refine F.ok sc_smR (fun vs H Q E h => ?_) (fun cdv A outer s H vs Q E hr h => ?_)
  · obtain ⟨p, A, rfl, _⟩ := h
    rfl
  · obtain ⟨p, A, rfl, T, hA, k⟩ := h
    refine ⟨_, C8.pss_cut (ps_asg (pe_lc (own := [("_law_k", 6)]) (g := gName 6) (by rfl) sc_smR.nd (pi_range1 (by rfl) B.range (pa_cons pe_int pa_nil)) (blkOk_by (own := [("_law_k", 6)]) (N := nSmR) (sc := defScope xSmR) (by decide +kernel))
          (fun _ _ _ _ _ => pg_name (i := 6) sc_smR.nd rfl (.inl rfl)) (fun _ _ _ _ _ => pts_nil) (fun _ _ _ _ _ => pe_tup (pa_cons (pe_op op_add pe_int (pe_cal D hr (by decide) pass0 (by rfl) (pa_cons (pv 0) (pa_cons pe_int pa_nil)))) (pa_cons (pe_op op_add pe_int (pe_cal D hr (by decide) pass0 (by rfl) (pa_cons (pv 0) (pa_cons pe_int pa_nil)))) (pa_cons (pe_op op_sub (pe_cal D hr (by decide) pass0 (by rfl) (pa_cons (pv 0) (pa_cons pe_int pa_nil))) pe_int) pa_nil)))))
          (pg_lst rfl (pgs_cons (pg_name (i := 1) sc_smR.nd rfl (.inr rfl)) (pgs_cons (pg_name (i := 2) sc_smR.nd rfl (.inr rfl)) pgs_nil))))
      (pss_cons (ps_set (i := 3) sc_smR.nd rfl (.inl rfl) pe_non)
      (pss_cons (ps_for PassesOwn.never rfl (pi_range2 (by rfl) B.range (pa_cons pe_int (pa_cons pe_int pa_nil))) (pg_name (i := 4) sc_smR.nd rfl (.inr rfl))
        (C8.pss_cut (ps_setLc (i := 5) (own := [("_law_i", 7)]) (g := gName 7) (by rfl) sc_smR.nd rfl rfl (by rfl) (pi_range1 (by rfl) B.range (pa_cons (pv 4) pa_nil)) (blkOk_by (own := [("_law_i", 7)]) (N := nSmR) (sc := defScope xSmR) (by decide +kernel))
          (fun _ _ _ _ _ => pg_name (i := 7) sc_smR.nd rfl (.inl rfl)) (fun _ _ _ _ _ => pts_one (pt_cmpR op_ne (pe_cal Z.tog hr (by decide) pass0 (by rfl) (pa_cons (pv 1) (pa_cons (pv 7) (pa_cons (pv 4) pa_nil)))) (pe_cal Z.tog hr (by decide) pass0 (by rfl) (pa_cons (pv 2) (pa_cons (pv 7) (pa_cons (pv 4) pa_nil)))) (nomark _))) (fun _ _ _ _ _ => pv 7))
        (pss_one (ps_if (PW.pt (pw_and (pt_cmpR op_isN (pv 3) pe_non (nomark _)) (pw_and1 (pt_cmpR (op_neD hr.units) (pv 5) (pe_lst pa_nil) (nomark _)))))
          (pss_one (ps_set (i := 3) sc_smR.nd rfl (.inl rfl) (pe_op op_add (pv 4) pe_int))) pss_nil))))
      (pss_one (ps_ret (pe_cmpR op_eq (pe_cal Z.pf hr (by decide) passL (by rfl) (pa_cons (pe_cal Z.dealOf hr (by decide) pass0 (by rfl) (pa_cons (pv 1) pa_nil)) (pa_cons (pe_cal Z.dealOf hr (by decide) pass0 (by rfl) (pa_cons (pv 2) pa_nil)) pa_nil))) (pv 3) (nomark _)))))), ?_⟩
    have sl : ∀ n : Nat, n ≤ 100 → n ≤ sizeLine := fun n h => by rw [sizeLine_eq]; omega
    refine ⟨fun σ H' => ∃ t u b1 h1 s1 b2 h2 s2, σ = [some (.ref p), some (.ref t), some (.ref u), none, none, none, none, none] ∧ Keep p H H' ∧ Tape H' p (A + 6) ∧ Sm H' t b1 h1 s1 ∧ Sm H' u b2 h2 s2, ?_, ?_⟩
    · refine ⟨_, rfl, by decide, by decide, fun D nD => ?_⟩
      refine lc_range (lo := 0) (n := 2) (fun i H' => Keep p H H' ∧ Tape H' p (A + 3 * i) ∧ ∃ ts : List Addr, ts.length = i ∧ H' D = some (.lst (ts.map V.ref)) ∧ ∀ t ∈ ts, ∃ b h s, Sm H' t b h s) ?_ ?_ ?_
      · have e1 := same_new (o := .lst []) nD
        exact ⟨Keep.of_same e1, T.keep e1, [], rfl, upd_same, fun t ht => by cases ht⟩
      · rintro i H1 hi ⟨k1, T1, ts, lt, eD, hts⟩
        refine ⟨rfl, ?_⟩
        unfold tYes
        dsimp only
        refine iteT ?_
        refine ⟨_, rfl, p, 4, A + 3 * i, rfl, T1, by omega, by decide, by decide, fun x H2 x0 x1 k2 T2 => ⟨_, _, rfl, rfl, ?_⟩⟩
        refine ⟨_, rfl, p, 3, A + 3 * i + 1, rfl, T2, by omega, by decide, by decide, fun y H3 y0 y1 k3 T3 => ⟨_, _, rfl, rfl, ?_⟩⟩
        refine ⟨_, rfl, p, 9, A + 3 * i + 2, rfl, T3, by omega, by decide, by decide, fun z H4 z0 z1 k4 T4 => ⟨_, _, rfl, rfl, ?_⟩⟩
        refine ⟨sl 3 (by decide), fun q nq => ?_⟩
        have e5 := same_new (o := .tup [.int (1 + x), .int (1 + y), .int (z - 4)]) nq
        have np : D ≠ p := fun zz => by
          obtain ⟨l, cs, a, r, TR, _⟩ := T1
          rw [zz, TR.d] at eD
          cases eD
        have eD4 := e5 _ _ (k4 _ _ (k3 _ _ (k2 _ _ eD np) np) np)
        refine ⟨_, eD4, ?_, ?_⟩
        · rw [List.length_map, lt, sizeLine_eq]
          omega
        · have kD : ∀ {b : Addr} {o : HO} (ys : List V), (∀ zs, o ≠ .lst zs) → upd H4 q (.tup [.int (1 + x), .int (1 + y), .int (z - 4)]) b = some o → upd (upd H4 q (.tup [.int (1 + x), .int (1 + y), .int (z - 4)])) D (.lst ys) b = some o := fun {b o} ys no e => by
            rw [upd_ne (fun zz => by rw [zz, eD4] at e; exact no _ (Option.some.inj e).symm)]
            exact e
          have kk := k2.trans (k3.trans (k4.trans (Keep.of_same e5)))
          refine ⟨fun b o e nb => ?_, ?_, ts ++ [q], by rw [List.length_append, lt]; rfl, ?_, ?_⟩
          · have nbD : b ≠ D := fun zz => by
              rw [zz, nD] at e
              cases e
            rw [upd_ne nbD]
            exact kk b o (k1 b o e nb) nb
          · obtain ⟨l, cs, a, r, TR, ha⟩ := T4.keep e5
            refine ⟨l, cs, a, r, ⟨kD _ (fun zs zz => by cases zz) TR.d, ?_, TR.ne, TR.few, TR.a0, TR.r0⟩, by omega⟩
            rw [upd_ne (fun zz => ?_)]
            · exact TR.c
            · have c := TR.c
              rw [zz, eD4] at c
              have c := HO.lst.inj (Option.some.inj c)
              have ne := TR.ne
              cases cs with
              | nil => exact ne rfl
              | cons c0 cs =>
                cases ts with
                | nil => cases c
                | cons t0 ts => cases c
          · rw [List.map_append]
            exact upd_same
          · intro t ht
            rcases List.mem_append.mp ht with ht | ht
            · obtain ⟨b, h, s', S⟩ := hts t ht
              have S' := (((S.put k2 T1).put k3 T2).put k4 T3).keep e5
              exact ⟨b, h, s', kD _ (fun zs zz => by cases zz) S'.at_, S'.b1, S'.b2, S'.h1, S'.h2⟩
            · obtain rfl := List.mem_singleton.mp ht
              exact ⟨_, _, _, kD _ (fun zs zz => by cases zz) upd_same, by omega, by omega, by omega, by omega⟩
      · rintro H1 ⟨k1, T1, ts, lt, eD, hts⟩
        match ts, lt with
        | [t, u], _ =>
          obtain ⟨b1, h1, s1, S1⟩ := hts t (by simp)
          obtain ⟨b2, h2, s2, S2⟩ := hts u (by simp)
          refine ⟨D, _, rfl, SqL.of eD, rfl, ?_⟩
          refine ⟨_, _, rfl, _, _, rfl, rfl, ?_⟩
          exact ⟨t, u, b1, h1, s1, b2, h2, s2, rfl, k1, T1, S1, S2⟩
    · rintro σ H0 ⟨t, u, b1, h1, s1, b2, h2, s2, rfl, k0, T0, U0, V0⟩
      generalize eo : prt b1 h1 s1 b2 h2 s2 = o
      have st := due_step (s1 := s1) (s2 := s2) U0.b1 U0.h1 V0.b1 V0.h1
      have en := due_end (s1 := s1) (s2 := s2) U0.b1 U0.b2 U0.h1 U0.h2 V0.b1 V0.b2 V0.h1 V0.h2
      rw [eo] at st en
      refine ⟨_, _, rfl, ⟨by decide, by decide, by decide, by decide⟩, for_range (lo := 1) (n := 13) (fun i σ H' => ∃ (a b : Option V), σ = [some (.ref p), some (.ref t), some (.ref u), some (optV (dueAt o i)), a, b, none, none] ∧ Same H0 H') ⟨none, none, ?_, Same.refl _⟩ ?_ ?_⟩
      · have z : dueAt o 0 = none := by
          cases o with
          | none => rfl
          | some n =>
            have PN := prt_some U0.b1 U0.h1 V0.b1 V0.h1 eo
            have n2 := PN.two
            show (if n - 1 ≤ ((0 : Nat) : Int) then some n else none) = none
            rw [if_neg (by omega)]
        rw [z]
        rfl
      · rintro i σ H1 hi ⟨a, b, rfl, e1⟩
        rw [show (1 : Int) + (i : Nat) = ((i + 1 : Nat) : Int) by omega]
        have U1 := U0.keep e1
        have V1 := V0.keep e1
        refine ⟨fun σ H' => ∃ D, σ = [some (.ref p), some (.ref t), some (.ref u), some (optV (dueAt o i)), some (.int ((i + 1 : Nat) : Int)), some (.ref D), none, none] ∧ Same H0 H' ∧ H' D = some (.lst ((unl b1 h1 s1 b2 h2 s2 (i + 1)).map fun j => V.int (j : Nat))), ?_, ?_⟩
        · refine ⟨_, rfl, _, rfl, by omega, by omega, fun D nD => ?_⟩
          have e2 := same_new (o := .lst []) nD
          refine lc_range (lo := 0) (n := i + 1) (fun j H' => Same H1 H' ∧ H' D = some (.lst (((List.range j).filter (un b1 h1 s1 b2 h2 s2 ((i + 1 : Nat) : Int))).map fun j => V.int (j : Nat)))) ⟨e2, upd_same⟩ ?_ ?_
          · rintro j H2 hj ⟨e3, eD⟩
            rw [show (0 : Int) + (j : Nat) = ((j : Nat) : Int) by omega]
            have U2 := U1.keep e3
            have V2 := V1.keep e3
            refine ⟨rfl, ?_⟩
            refine ⟨_, rfl, _, rfl, _, rfl, t, b1, h1, s1, _, _, rfl, U2.at_, U2.b1, by have := U2.b2; omega, U2.h1, ?_⟩
            refine ⟨_, rfl, _, rfl, _, rfl, u, b2, h2, s2, _, _, rfl, V2.at_, V2.b1, by have := V2.b2; omega, V2.h1, ?_⟩
            refine ⟨rfl, _, rfl, ?_⟩
            have er := unl_range (b1 := b1) (P1 := h1) (s1 := s1) (b2 := b2) (P2 := h2) (s2 := s2) (l := ((i + 1 : Nat) : Int)) (i := j)
            have lz : (List.filter (un b1 h1 s1 b2 h2 s2 ((i + 1 : Nat) : Int)) (List.range j)).length ≤ j := by
              have := List.length_filter_le (un b1 h1 s1 b2 h2 s2 ((i + 1 : Nat) : Int)) (List.range j)
              rwa [List.length_range] at this
            refine ite2 (fun c => ?_) (fun c => ?_)
            · have c : un b1 h1 s1 b2 h2 s2 ((i + 1 : Nat) : Int) j = true := c
              rw [if_pos c] at er
              refine ⟨_, rfl, _, eD, ?_, ?_, ?_⟩
              · rw [List.length_map, sizeLine_eq]
                omega
              · intro x o' ex
                rw [upd_ne (fun zz => by rw [zz, nD] at ex; cases ex)]
                exact e3 x o' ex
              · rw [er, List.map_append]
                exact upd_same
            · have c : ¬ un b1 h1 s1 b2 h2 s2 ((i + 1 : Nat) : Int) j = true := c
              rw [if_neg c, List.append_nil] at er
              refine ⟨e3, ?_⟩
              rw [er]
              exact eD
          · rintro H2 ⟨e3, eD⟩
            exact ⟨D, rfl, e1.trans e3, eD⟩
        · rintro σ H2 ⟨D, rfl, e2, eD⟩
          refine ⟨_, rfl, rfl, _, rfl, ?_⟩
          rw [optV_none]
          refine ite2 (fun c => ?_) (fun c => ?_)
          · have c := of_decide_eq_true c
            refine ⟨_, rfl, sl 0 (by decide), fun z nz => ?_⟩
            have e3 := same_new (o := .lst []) nz
            refine ⟨.list _, .list [], .lst (SqL.of (e3 _ _ eD)) (nats_dp _), .lst (SqL.of upd_same) .nil, nats_shaped _, by rfl, _, rfl, ?_⟩
            rw [nats_eqv]
            by_cases c2 : unl b1 h1 s1 b2 h2 s2 (i + 1) = []
            · rw [decide_eq_true c2]
              refine iteF ?_
              have z := (st i).2 fun w => w.2 c2
              exact ⟨_, _, by rw [z], e2.trans e3⟩
            · rw [decide_eq_false c2]
              refine iteT ?_
              have z := (st i).1 ⟨c, c2⟩
              refine ⟨_, rfl, _, _, rfl, rfl, ?_⟩
              refine ⟨some (.int ((i + 1 : Nat) : Int)), some (.ref D), ?_, e2.trans e3⟩
              rw [z, show ((i : Int) + 2) = ((i + 1 : Nat) : Int) + 1 by omega]
              rfl
          · have c : ¬ dueAt o i = none := fun z => c (decide_eq_true z)
            have z := (st i).2 fun w => c w.1
            exact ⟨_, _, by rw [z], e2⟩
      · rintro σ H1 ⟨a, b, rfl, e1⟩
        rw [en]
        have U1 := U0.keep e1
        have V1 := V0.keep e1
        refine ⟨_, rfl, t, b1, h1, s1, rfl, U1.at_, U1.b1, by have := U1.b2; omega, U1.h1, by have := U1.h2; omega, fun x H2 e2 nx D1 => ?_⟩
        have V2 := V1.keep e2
        refine ⟨_, rfl, u, b2, h2, s2, rfl, V2.at_, V2.b1, by have := V2.b2; omega, V2.h1, by have := V2.h2; omega, fun y H3 e3 ny D2 => ?_⟩
        have db1 := dB_pos (b := b1) (P := h1) U1.b1
        have db2 := dB_pos (b := b2) (P := h2) V2.b1
        have db1' : dB b1 h1 ≤ 10 ^ 40 := by have := U1.b2; unfold dB; split <;> omega
        have db2' : dB b2 h2 ≤ 10 ^ 40 := by have := V2.b2; unfold dB; split <;> omega
        have e12 := prt_d (b1 := b1) (P1 := h1) (s1 := s1) (b2 := b2) (P2 := h2) (s2 := s2) U1.h1 V2.h1
        refine ⟨_, _, rfl, .inl ⟨x, y, _, _, _, _, _, _, rfl, rfl, D1.keep e3, D2, db1, db1', U1.h1, by have := U1.h2; omega, db2, db2', V2.h1, by have := V2.h2; omega, ?_⟩⟩
        rw [e12, eo]
        refine ⟨_, rfl, scal_opt o, ?_⟩
        rw [decide_eq_true rfl]
        exact k _ (k0.trans (Keep.of_same (e1.trans (e2.trans e3)))) (T0.keep (e1.trans (e2.trans e3)))
end
end K41

set_option Elab.async false
set_option linter.all false
set_option maxRecDepth 100000
set_option maxHeartbeats 4000000
namespace K41
open PySem PySem.Spec PyProof.Rows L2
/-! ### [elt for target in iter], the element told what the def's own frame holds -/
section
variable {X : Cx}
/-- the def's own frame as the block's turn finds it -/
def Around1 (X : Cx) (pins : List (Addr × Obj)) (σ : L2.St) (s : Shared) (H : Hp) (fp : List Addr) : Prop := Inv X pins σ H s ∧ ∀ b ∈ fp, FpOk X pins H b
theorem lc_told {pins : List (Addr × Obj)} {s : Shared} {σ : L2.St} {H : Hp} {Q : VK} {elt tg iter : Expr} {scope : Scope} {own : List (Str × Nat)} {pos : Pos} {wi : TI} {g : TG} {te : TE}
    (hc : X.calm = true) (hN : X.N.Nodup) (I : Inv X pins σ H s) (hi : PI X tg iter wi) (ok : BlkOk X.N X.env.scope scope own)
    (hg : ∀ (s : Shared) (H : Hp) (C : Addr) (cl : List (Str × Addr)) (fp : List Addr), PG (X.blk s H scope (compEnvC scope cl C X.env) fp) tg g)
    (hel : ∀ (t : Shared) (G : Hp) (C : Addr) (cl : List (Str × Addr)) (fp : List Addr), Around1 X pins σ t G fp → PE (X.blk t G scope (compEnvC scope cl C X.env) fp) elt te)
    (hs : ∀ x, foldedSetIterable iter X.env x = pure x) (h : tLc wi g tYes te (own.map (·.2)) σ H Q) :
    wpAny (model X.prog X.w) X.A (eval (.ListComp elt [⟨tg, iter, [], 0⟩] scope pos) X.env) (EP X pins σ Q) X.xe s := by
  rw [eval_ListComp]
  have has : ∀ y ∈ scope.names, y.2 = .free → ∃ c, X.env.cells.lookup y.1 = some c := fun y hy e => (ok.free y hy e).elim (fun k => I.ok.has _ (.inl k)) fun k => I.ok.has _ (.inr k)
  refine wpAny_comprehension_free (use := none) rfl hs (closure_ok has) ok.kind (fun y hy e => by rw [ok.uniq y hy, e]) (thn (hi.run pins s σ H _ I h) fun xv s1 hx => thn hx fun itv s2 ⟨it, fp, tn, J, H2, ev, I2, T, at0, fpk, q⟩ => ?_)
  subst ev
  have nD : H2 s2.heap.objs.size = none := I2.hok.fresh (Nat.le_refl _)
  obtain ⟨W, ⟨m0, w0⟩, turn⟩ := q _ nD
  refine wpAny_newObj_type (newEnv_comp ?_) (Nat.zero_le _)
  -- the list that grows
  have ID : Inv X pins σ (upd H2 s2.heap.objs.size (.lst [])) { s2 with heap := s2.heap.push { cls := .type "list", data := .seq ([] : List Value).toArray } } :=
    I2.laid (t' := s2.toks) (fun b o e => Heap.get?_push_of_some _ e) (Nat.le_refl _) ⟨Nat.zero_le _, [], 0, .nil, Heap.get?_push_size _ rfl⟩
  have fpl : ∀ b ∈ fp, b < s2.heap.objs.size := fun b hb => let ⟨_, e, _⟩ := T.obj _ _ at0 b hb; Heap.lt_size e
  have fpD : ∀ b ∈ fp, FpOk X pins (upd H2 s2.heap.objs.size (.lst [])) b := fun b hb => ⟨by rw [upd_ne (Nat.ne_of_lt (fpl b hb))]; exact (fpk b hb).1, (fpk b hb).2⟩
  have szD : (s2.heap.push { cls := .type "list", data := .seq ([] : List Value).toArray }).objs.size = s2.heap.objs.size + 1 := Heap.size_push ..
  have atD : tn 0 (s2.heap.push { cls := .type "list", data := .seq ([] : List Value).toArray }) := T.keep _ _ _ at0 fun b _ o e => Heap.get?_push_of_some _ e
  have hD3 : (upd H2 s2.heap.objs.size (.lst [])) s2.heap.objs.size = some (.lst []) := upd_same
  revert ID fpD fpl szD atD w0 turn nD hD3
  generalize s2.heap.objs.size = D
  generalize upd H2 D (.lst []) = G
  generalize s2.heap.push { cls := .type "list", data := .seq ([] : List Value).toArray } = hG
  intro nD turn w0 ID fpl fpD szD atD hD3
  -- the block's frame
  have IB := block_start ID ok hN fun b hb => ⟨fpD b hb, by show b < hG.objs.size; rw [szD]; exact Nat.lt_succ_of_lt (fpl b hb)⟩
  have qg := hg { s2 with heap := hG } G hG.objs.size (cellsFrom (hG.objs.size + 1) scope.names (cloFrom X.env.cells scope.names [])) fp
  have qe := hel { s2 with heap := hG } G hG.objs.size (cellsFrom (hG.objs.size + 1) scope.names (cloFrom X.env.cells scope.names [])) fp ⟨ID, fpD⟩
  show codeAny _ _ (.compStart _ 0 (.ref it) (.ref D) (compEnvC scope (cellsFrom (hG.objs.size + 1) scope.names (cloFrom X.env.cells scope.names [])) hG.objs.size X.env)) (compPost _ _ _ none _ (.ref D) hG.objs.size) { s2 with heap := pushCells (hG.push { cls := .type "dict", data := .dict #[] }) scope.names }
  have atB : tn 0 (pushCells (hG.push { cls := .type "dict", data := .dict #[] }) scope.names) := T.keep _ _ _ atD fun b _ o e => pushCells_keeps _ _ _ _ (Heap.get?_push_of_some _ e)
  revert IB qg qe atB
  generalize heB : compEnvC scope (cellsFrom (hG.objs.size + 1) scope.names (cloFrom X.env.cells scope.names [])) hG.objs.size X.env = eB
  generalize pushCells (hG.push { cls := .type "dict", data := .dict #[] }) scope.names = hB
  intro IB qg qe atB
  have lB : eB.locals = hG.objs.size := by rw [← heB]; rfl
  have stand : ∀ {σ' : L2.St} {H' : Hp} {s' : Shared}, Inv (X.blk { s2 with heap := hG } G scope eB fp) [] σ' H' s' → (∀ b ∈ fp, H' b = none) → ∀ b ∈ fp, FpOk (X.blk { s2 with heap := hG } G scope eB fp) [] H' b := fun {σ' H' s'} J' hn b hb =>
    ⟨hn b hb, (J'.ok.exf b hb).1, J'.ok.exfs b hb, .inl hb, fun x c e => (J'.ok.exf b hb).2 x c e, fun p hp => by cases hp⟩
  have loop : codeAny (model X.prog X.w) X.A (.compLoop (.ListComp elt [⟨tg, iter, [], 0⟩] scope pos) 0 (.ref it) (.ref D) eB) (compPost (model X.prog X.w) X.A X.xe none (EP X pins σ Q) (.ref D) hG.objs.size) { s2 with heap := hB } := by
    refine compLoop_any (fun n s' => ∃ i H', Inv (X.blk { s2 with heap := hG } G scope eB fp) [] (wipe σ (own.map (·.2))) H' s' ∧ tn i s'.heap ∧ (∀ b ∈ fp, H' b = none) ∧ W i n H') ?_ m0 ⟨0, G, IB, atB, fun b hb => (fpD b hb).1, w0⟩
    rintro n u ⟨i, Hi, Iu, tu, nu, wu⟩
    rcases turn i n Hi wu with ⟨stop, fin⟩ | ⟨go, Nx, toNx, step⟩
    · refine thnF (T.done (X.blk { s2 with heap := hG } G scope eB fp) rfl rfl rfl hc i [] u _ Hi (fun _ _ => False) Iu (stand Iu nu) tu stop) fun r v ⟨hr, Iv⟩ => ?_
      subst hr
      have back : Inv X pins σ Hi v := ID.call' (ch := fp) Iv.os Iv.base Iv.hok Iv.bare fun b hb => let z := (fpD b hb).2; ⟨z.2.2.1, z.1, z.2.2.2.1, z.2.2.2.2⟩
      have nL : Hi hG.objs.size = none := by rw [← lB]; exact Iv.free
      obtain ⟨m, hn, _⟩ := Iv.loc
      have hn : v.heap.Ns hG.objs.size m := by rw [← lB]; exact hn
      have z := ID.fpOk (b := hG.objs.size) (Nat.le_refl _) nL
      exact ⟨m, hn, fun h'' sb => ⟨.ref D, Hi, back.turned (t' := v.toks) (fun b o hb e => (sb.2 b hb).trans e) z.1 z.2.1 z.2.2.2.1 z.2.2.2.2.1 z.2.2.2.2.2, rfl, fin⟩⟩
    · refine thnF (T.item (X.blk { s2 with heap := hG } G scope eB fp) rfl rfl rfl hc i [] u _ Hi (fun _ _ => False) Iu (stand Iu nu) tu go) fun r v ⟨y, hr, hy⟩ => ?_
      subst hr
      refine thnF hy fun _ v1 ⟨x, H7, I7, r7, y7, t7, n7⟩ => ?_
      have P7 := I7.pinned (stand I7 n7) (T.obj _ _ t7)
      refine thnF (qg.run _ v1 _ H7 x y _ P7 r7 (step x H7 y7)) fun _ v2 ⟨σ8, H8, I8, w8, q8⟩ => ?_
      refine wpAny_tests_nil ?_
      unfold tYes at q8
      simp only [if_true] at q8 ⊢
      refine thnF (qe.run _ v2 σ8 H8 _ I8 q8) fun z v3 ⟨yv, H9, I9, r9, acc, d9, z9, nx⟩ => ?_
      refine app_ok (X := X.blk { s2 with heap := hG } G scope eB fp) I9 d9 z9 r9 fun v4 I10 => ?_
      obtain ⟨m', less, w'⟩ := toNx _ nx
      have hold : ∀ b ∈ fp, ∀ o, v1.heap.get? b = some o → v4.heap.get? b = some o ∧ (upd H9 D (.lst (acc ++ [yv]))) b = none := fun b hb o e => let p := I10.pin (b, o) (List.mem_append_right _ (List.mem_append_right _ (mem_pinsAt hb e))); ⟨p.1, p.2.1⟩
      refine ⟨m', less, i + 1, _, (I10.unpinned (pins := [])).weak (by rw [← w8, wipe_length]) (fun j v e => ?_), T.keep _ _ _ t7 fun b hb o e => (hold b hb o e).1, fun b hb => ?_, w'⟩
      · rw [← w8] at e
        exact (wipe_some e).1
      · obtain ⟨o, e, _⟩ := T.obj _ _ t7 b hb
        exact (hold b hb o e).2
  exact codeAny_compStart_list loop (T.self X.A 0 _ _ _ atB loop)
end
end K41

set_option Elab.async false
set_option linter.all false
set_option maxRecDepth 100000
set_option maxHeartbeats 4000000
namespace K41
open PySem PySem.Spec PyProof.Rows L2
/-! ### the text of what is no Deal -/
inductive OddD (H : Hp) : V → PyData → Prop where
  | non : OddD H .non .none
  | bl (b : Bool) : OddD H (.bl b) (.bool b)
  | one : OddD H (.str "1") (.str "1")
  | emp : OddD H (.str "") (.str "")
  | lst0 {a : Addr} (e : H a = some (.lst [])) : OddD H (.ref a) (.list [])
  | tup0 {a : Addr} (e : H a = some (.tup [])) : OddD H (.ref a) (.tuple [])
  | dct0 {a : Addr} (e : H a = some (.dK [])) : OddD H (.ref a) (.dict [])
  | lst1 {a : Addr} (e : H a = some (.lst [.int 1])) : OddD H (.ref a) (.list [.int 1])
  | tup2 {a : Addr} (e : H a = some (.tup [.int 0, .int 1])) : OddD H (.ref a) (.tuple [.int 0, .int 1])
theorem Odd.data {H : Hp} {v : V} (o : Odd H v) : ∃ d, OddD H v d := by
  cases o with
  | non => exact ⟨_, .non⟩
  | bl b => exact ⟨_, .bl b⟩
  | one => exact ⟨_, .one⟩
  | emp => exact ⟨_, .emp⟩
  | lst0 e => exact ⟨_, .lst0 e⟩
  | tup0 e => exact ⟨_, .tup0 e⟩
  | dct0 e => exact ⟨_, .dct0 e⟩
  | lst1 e => exact ⟨_, .lst1 e⟩
  | tup2 e => exact ⟨_, .tup2 e⟩
theorem OddD.odd {H : Hp} {v : V} {d : PyData} (o : OddD H v d) : Odd H v := by
  cases o with
  | non => exact .non
  | bl b => exact .bl b
  | one => exact .one
  | emp => exact .emp
  | lst0 e => exact .lst0 e
  | tup0 e => exact .tup0 e
  | dct0 e => exact .dct0 e
  | lst1 e => exact .lst1 e
  | tup2 e => exact .tup2 e
theorem OddD.keep {H H' : Hp} {v : V} {d : PyData} (o : OddD H v d) (s : Same H H') : OddD H' v d := by
  cases o with
  | non => exact .non
  | bl b => exact .bl b
  | one => exact .one
  | emp => exact .emp
  | lst0 e => exact .lst0 (s _ _ e)
  | tup0 e => exact .tup0 (s _ _ e)
  | dct0 e => exact .dct0 (s _ _ e)
  | lst1 e => exact .lst1 (s _ _ e)
  | tup2 e => exact .tup2 (s _ _ e)
theorem OddD.text {H : Hp} {v : V} {d : PyData} (o : OddD H v d) : PyData.strOk d.shown = true ∧ d.shown.length ≤ 100 := by
  cases o with
  | bl b => cases b <;> decide +kernel
  | _ => decide +kernel
section
variable {X : Cx}
def rReprO : List V → Hp → VK → Prop := fun xs H Q => ∃ v d, xs = [v] ∧ OddD H v d ∧ Q (.str d.shown) H
theorem odd_reads {pins : List (Addr × Obj)} {σ : L2.St} {H : Hp} {s : Shared} {a : Addr} {d : PyData} (I : Inv X pins σ H s) (o : OddD H (.ref a) d) : ∃ as, Reads s.heap (.ref a) d as ∧ d.showable = true ∧ (d.hasDict = true → sysModules ∉ as) ∧ d.depth ≤ 2 := by
  cases o with
  | lst0 e =>
    obtain ⟨as, r⟩ := Dp.reads I (.list []) (.ref a) (.ref a) (.lst (SqL.of e) .nil) rfl
    exact ⟨as, r, by decide +kernel, (fun z => by cases z), by decide +kernel⟩
  | tup0 e =>
    obtain ⟨as, r⟩ := Dp.reads I (.tuple []) (.ref a) (.ref a) (.tup (SqT.of e) .nil) rfl
    exact ⟨as, r, by decide +kernel, (fun z => by cases z), by decide +kernel⟩
  | lst1 e =>
    obtain ⟨as, r⟩ := Dp.reads I (.list [.int 1]) (.ref a) (.ref a) (.lst (SqL.of e) (.cons (.int _) .nil)) rfl
    exact ⟨as, r, by decide +kernel, (fun z => by cases z), by decide +kernel⟩
  | tup2 e =>
    obtain ⟨as, r⟩ := Dp.reads I (.tuple [.int 0, .int 1]) (.ref a) (.ref a) (.tup (SqT.of e) (.cons (.int _) (.cons (.int _) .nil))) rfl
    exact ⟨as, r, by decide +kernel, (fun z => by cases z), by decide +kernel⟩
  | dct0 e =>
    obtain ⟨z, hd, vs, rel, o, es, ep, h1, h2, h3, _, hp, _⟩ := dk_of I.hok e
    have lv : es.toList.length = vs.length := Pairs.length hp
    have l0 := rel.length
    have es0 : es = #[] := by
      have : es.toList.length = 0 := by rw [lv, ← l0]; rfl
      exact Array.eq_empty_of_size_eq_zero (by simpa using this)
    subst es0
    exact ⟨_, Reads.dict (kvs := []) h1 h2.1 h3 .nil .nil, by decide +kernel, fun _ => by simpa using (fun q => by rw [q] at hd; simp at hd), by decide +kernel⟩
theorem call_reprO (hg : X.A.guards = some []) (hu : X.A.units + 10 < cLine) : CallR X (.builtin "repr") rReprO := by
  intro pins s σ H xs us Q I r h
  obtain ⟨v, d, rfl, o, q⟩ := h
  obtain ⟨u, rfl, ru⟩ := vals1 r
  have small := o.text.2
  have fit : d.shown.length ≤ sizeLine := by rw [sizeLine_eq]; omega
  have byRef : ∀ a, v = .ref a → wpAny (model X.prog X.w) X.A (call (.builtin "repr") [u]) (EP X pins σ Q) X.xe s := fun a e => by
    subst e
    obtain rfl : u = Value.ref a := ru
    obtain ⟨as, rd, h1, h2, h3⟩ := odd_reads I o
    refine repr_of_reads' rd h1 h2 hg (by omega) (fun _ _ e => e) (fun h' u tk hk => ⟨.str _, H, I.kept hk, ⟨_, rfl⟩, q⟩) fit
  cases o with
  | non =>
    obtain rfl : u = Value.none := ru
    exact PySem.P.repr_of_none ⟨.str _, H, I.tok _, ⟨_, rfl⟩, q⟩
  | bl b =>
    obtain rfl : u = Value.bool b := ru
    exact PySem.P.repr_of_bool ⟨.str _, H, I.tok _, ⟨_, rfl⟩, q⟩
  | one =>
    obtain ⟨t, rfl⟩ := ru
    exact PySem.P.repr_of_str ⟨.str _, H, I.tok _, ⟨_, rfl⟩, q⟩ fit
  | emp =>
    obtain ⟨t, rfl⟩ := ru
    exact PySem.P.repr_of_str ⟨.str _, H, I.tok _, ⟨_, rfl⟩, q⟩ fit
  | lst0 e => exact byRef _ rfl
  | tup0 e => exact byRef _ rfl
  | dct0 e => exact byRef _ rfl
  | lst1 e => exact byRef _ rfl
  | tup2 e => exact byRef _ rfl
end
end K41

set_option Elab.async false
set_option linter.all false
set_option maxRecDepth 100000
set_option maxHeartbeats 4000000
namespace K41
open PySem PySem.Spec PyProof.Rows L2
/-! ### the caught exception: isinstance and its field -/
structure SumTxt (K : PySem.W.Frag) (mg : Str → Option Value) (CB CS : Addr) : Prop where
  gS : mg "SumError" = some (.ref CS)
  cl : (PySem.W.clsIn K CB).isSome = true
  ga : PySem.W.findIn K (.ref CB) "__getattribute__" = some (some (.builtin "BaseException.__getattribute__"))
  gg : PySem.W.findIn K (.ref CB) "__getattr__" = some none
  sub : PySem.W.subIn K (.ref CB) (.type "BaseException") = some true
  ha : PySem.W.findIn K (.ref CB) "__class__" = some (some (.builtin "object.__class__"))
  hn : PySem.W.specialIn K (.builtin "object.__class__") "__get__" = some (some (.builtin "getset_descriptor.__get__"))
  ht : PySem.W.takesIn K (.builtin "object.__class__") = some true
  hm : PySem.W.mroIn K CB (.type "object") = some true
  kit : PySem.W.kitOne K (.ref CB) (.ref CS) = some true
/-- isinstance(e, c), e the exception that the suite holds, with a dict -/
def rIsHeld (K : PySem.W.Frag) (D a : Addr) (cls : Value) (d : Option Addr) : List V → Hp → VK → Prop := fun xs H Q => ∃ (c : V) (cv : Value) (b : Bool) (dd : Addr) (fs : List (Str × V)),
  xs = [.ref a, c] ∧ cls = .ref D ∧ d = some dd ∧ H dd = some (.xd fs) ∧ (∀ u, RelV c u → u = cv) ∧ PySem.W.kitOne K (.ref D) cv = some b ∧ Q (.bl b) H
theorem call_isHeld {X : Cx} {a CB CS : Addr} {oe : Obj} {cls : Value} {d : Option Addr} {pn : List (Addr × Obj)} (S : SumTxt X.K X.mg CB CS) (hz : Zc cls d oe) (hf : ∃ vs, oe.data = .fields vs) :
    CallR (X.suite a ((a, oe) :: pn)) (.builtin "isinstance") (rIsHeld X.K CB a cls d) := by
  intro pins s σ H xs us Q I r h
  obtain ⟨c, cv, b, dd, fs, rfl, rfl, rfl, ed, hcv, e, q⟩ := h
  obtain ⟨u1, u2, rfl, r1, r2⟩ := vals2 r
  obtain rfl : u1 = Value.ref a := r1
  obtain rfl := hcv _ r2
  obtain ⟨hget, _⟩ := I.pin (a, oe) (List.mem_append.mpr (.inl List.mem_cons_self))
  obtain ⟨vs, hv⟩ := hf
  obtain ⟨mA, hns, _⟩ := (show ObjOk X.prog X.w H s.heap dd (.xd fs) from I.hok dd _ ed)
  obtain ⟨od, ho, _⟩ := lookIn_ns hns
  have J : PySem.W.InstAt s.heap a oe CB (some od) := ⟨hget, hz.1, by unfold PySem.W.notCls; rw [hv] <;> rfl, by rw [hz.2]; exact ho⟩
  exact PySem.W.kia_one (PySem.W.kitx_exc S.cl S.ga S.gg S.sub S.ha S.hn S.ht S.hm) I.kIn J e (fun z => nomatch z) fun tk => ⟨.bl b, H, I.kept (t' := tk) fun _ _ z => z, rfl, q⟩
/-! ### _law_refused -/
abbrev nRef : List Str := ["_law_call", "_law_found", "e"]
theorem sc_ref : FnScope nRef ["_law_call"] (defScope xRef) := ⟨rfl, rfl, rfl, by decide +kernel, rfl, by decide +kernel, by decide +kernel⟩
theorem sc_ref_nd : nRef.Nodup := by decide +kernel
theorem takes_len {X : Cx} {W : WX} (tk : Takes X W) : Takes X (fun cls d σ H => σ.length = X.N.length → W cls d σ H) := fun u s' x => tk u s' (by
  obtain ⟨a, B, sI, pins, σ, H, cls, d, e, J, r1, r2, r3, r4, r5, r6, q⟩ := x
  exact ⟨a, B, sI, pins, σ, H, cls, d, e, J, r1, r2, r3, r4, r5, r6, q J.len⟩)
/-- what the call of the handed thing, read by tl, is to bring: a BadValue of what has the text Q takes -/
def TRef (CB : Addr) (tl : XK → Hp → VK → Prop) (H : Hp) (Q : VK) : Prop :=
  ∀ Q', tl (fun cls d H' => cls = .ref CB ∧ ∃ dd v D, d = some dd ∧ H' dd = some (.xd [(("value" : Str), v)]) ∧ OddD H' v D ∧ Q (.str D.shown) H') H Q'
section
variable {X : Cx} {CB CS fI cc : Addr}
theorem xfc_of (T : BadTxt X.prog X.K X.mg CB fI cc) : XfC X.K CB := ⟨T.ga, T.gg, T.exC, T.hdC⟩
theorem ref_body {g f c' : Addr} {cdg : Value} {s : Shared} {H : Hp} {Q : VK} {q : Str} {tl : XK → Hp → VK → Prop} (T : BadTxt X.prog X.K X.mg CB fI cc) (S : SumTxt X.K X.mg CB CS) (B : Bn X.mg)
    (hG : (X.A.deeper (envOfC "_law_refused" (defScope xRef) s.heap.objs.size g cdg)).guards = some []) (hU : (X.A.deeper (envOfC "_law_refused" (defScope xRef) s.heap.objs.size g cdg)).units + 100 < cLine)
    (act : ∀ (W : WX) (pn : List (Addr × Obj)) (xe : Value → Shared → Prop) (E : XK) (p1 p2 : Pos), Takes ((cxOf CX0 X.prog X.w X.K X.mg X.base nRef "_law_refused" (defScope xRef) g cdg X.A X.stack s H E0).tr pn xe) W → (∀ cls d σ' H', E cls d H' → W cls d σ' H') →
      PE ((cxOf CX0 X.prog X.w X.K X.mg X.base nRef "_law_refused" (defScope xRef) g cdg X.A X.stack s H E0).tr pn xe) (.Call (.Name "_law_call" p1) [] [] p2) (fun σZ HZ Q => σZ[0]? = some (some (.ref f)) ∧ HZ c' = some (LamX.CodeO c' q) ∧ tl E HZ Q))
    (hc : H c' = some (LamX.CodeO c' q)) (h : TRef CB tl H Q) :
    ∃ t, PSs (cxOf CX0 X.prog X.w X.K X.mg X.base nRef "_law_refused" (defScope xRef) g cdg X.A X.stack s H E0).nox (defBody xRef) t ∧ t { nx := fun _ H' => Q .non H', rt := Q } (L2.start nRef [.ref f]) H := by
  refine ⟨_, pss_cons (ps_set (i := 1) sc_ref_nd rfl (.inl rfl) pe_str)
    (pss_cons (ps_try_as (X := (cxOf CX0 X.prog X.w X.K X.mg X.base nRef "_law_refused" (defScope xRef) g cdg X.A X.stack s H E0).nox) (c := .ref CB) (i := 2) (Wout := fun _ _ _ _ => False)
        (tb := fun W D σ H => ∃ Ech : XK, (∀ (cls : Value) (d : Option Addr) (σ' : L2.St) (H' : Hp), Ech cls d H' → σ'.length = 3 → W cls d σ' H') ∧ σ[0]? = some (some (.ref f)) ∧ H c' = some (LamX.CodeO c' q) ∧ ∀ Q', tl Ech H Q')
        rfl rfl sc_ref_nd rfl rfl ⟨rfl, by decide, .inl T.gC⟩ LamX.takes0 (fun W pn xe tk _ => ?_)
        (fun a oe cls d pn hz hf => pss_one (ps_set (i := 1) sc_ref_nd rfl (.inl rfl) (pe_ifExp (pt_val (pe_callB (call_isHeld S hz hf) (by rfl) B.isi (by decide +kernel) (pa_cons (pv 2) (pa_cons (pe_glob (v := .ref CS) (by rfl) S.gS rfl) pa_nil))))
          (pe_callB (call_reprO hG (by exact Nat.lt_of_le_of_lt (Nat.add_le_add_left (by decide) _) hU)) (by rfl) B.repr (by decide +kernel) (pa_cons (pe_xf (C := CB) (xfc_of T) T.noN hz hf (pv 2)) pa_nil)) pe_str))))
    (pss_one (ps_ret (pv 1)))), ?_⟩
  · refine ⟨fun pins s' σ H' D I h' => ?_⟩
    obtain ⟨Ech, hW, h1, h2, h3⟩ := h'
    exact (pss_one (ps_expr (act _ pn xe Ech _ _ (takes_len tk) fun cls d σ' H' e hl => hW cls d σ' H' e hl))).run pins s' σ H' D I ⟨h1, h2, h3 _⟩
  · refine ⟨_, fun cls d σ' H' e hl => ?_, rfl, hc, h⟩
    obtain ⟨rfl, dd, v, D, rfl, ed, o, q⟩ := e
    match σ', hl with
    | [x0, x1, x2], _ =>
      refine ⟨true, T.te, fun _ a na => ?_, fun z => Bool.noConfusion z⟩
      refine ⟨_, rfl, _, _, true, dd, _, rfl, rfl, rfl, ed, fun u r => r, S.kit, true, rfl, ?_⟩
      refine iteT ⟨_, rfl, rfl, rfl, dd, _, v, rfl, ed, rfl, v, D, rfl, o, ?_⟩
      exact ⟨_, rfl, q⟩
end
end K41

set_option Elab.async false
set_option linter.all false
set_option maxRecDepth 100000
set_option maxHeartbeats 4000000
namespace K41
open PySem PySem.Spec PyProof.Rows L2
/-! ### _law_refused called with a lambda of the law's own frame -/
section
variable {X : Cx} {CB CS fI cc : Addr}
/-- the lambda at f, called by its name in a def that the law's frame calls, is read by tl -/
def LamOk (X : Cx) (pins : List (Addr × Obj)) (σ : L2.St) (q : Str) (f c' : Addr) (tl : XK → Hp → VK → Prop) : Prop :=
  ∀ (s : Shared) (H : Hp) (g : Addr) (cdg : Value), Inv X pins σ H s → Room 8 (X.A.deeper (envOfC "_law_refused" (defScope xRef) s.heap.objs.size g cdg)) →
    ∀ (W : WX) (pn : List (Addr × Obj)) (xe : Value → Shared → Prop) (E : XK) (p1 p2 : Pos), Takes ((cxOf CX0 X.prog X.w X.K X.mg X.base nRef "_law_refused" (defScope xRef) g cdg X.A X.stack s H E0).tr pn xe) W → (∀ cls d σ' H', E cls d H' → W cls d σ' H') →
      PE ((cxOf CX0 X.prog X.w X.K X.mg X.base nRef "_law_refused" (defScope xRef) g cdg X.A X.stack s H E0).tr pn xe) (.Call (.Name "_law_call" p1) [] [] p2) (fun σZ HZ Q => σZ[0]? = some (some (.ref f)) ∧ HZ c' = some (LamX.CodeO c' q) ∧ tl E HZ Q)
structure RefC (K : PySem.W.Frag) (mg : Str → Option Value) : Prop where
  ex : ∃ (g : Addr) (fd : FuncData), mg "_law_refused" = some (.ref g) ∧ PySem.W.keepIn K (.ref g) = true ∧ Fun K "_law_refused" "_law_refused" xRef g fd ∧ Binds K fd ["_law_call"] []
theorem pe_refElt {pins : List (Addr × Obj)} {σ : L2.St} {t : Shared} {G : Hp} {fp : List Addr} {scope : Scope} {eB : Env} {q : Str} {i : Nat} {Known : Addr → Addr → (XK → Hp → VK → Prop) → Prop} {p1 p2 pos : Pos}
    (A1 : Around1 X pins σ t G fp) (R : RefC X.K X.mg) (T : BadTxt X.prog X.K X.mg CB fI cc) (S : SumTxt X.K X.mg CB CS) (B : Bn X.mg) (hr : Room 9 X.A) (hG : X.A.guards = some [])
    (hK : ∀ f c' tl, Known f c' tl → LamOk X pins σ q f c' tl) (hg : Gl (X.blk t G scope eB fp) "_law_refused") (ha : PA (X.blk t G scope eB fp) [.Name "_law_call" p2] (tCons (tVar i) tNil))
    (he : starEach [.Name "_law_call" p2] eB = (false, eval (.Name "_law_call" p2) eB) :: starEach [] eB := by rfl) (hpl : (backTo pos (starEach [] eB)).any (·.1) = false := by rfl) :
    PE (X.blk t G scope eB fp) (.Call (.Name "_law_refused" p1) [.Name "_law_call" p2] [] pos)
      (fun σ' H' Q => ∃ f c' tl, Known f c' tl ∧ σ'[i]? = some (some (.ref f)) ∧ H' c' = some (LamX.CodeO c' q) ∧ TRef CB tl H' Q) := by
  refine ⟨fun pins' s' σ' H' Q I' h => ?_⟩
  obtain ⟨f, c', tl, kn, hs, hc, hT⟩ := h
  obtain ⟨g, fd, hm, hk, F, hb⟩ := R.ex
  refine wpAny_Call_Name_kw (ld_glob I' hg hm ?_ (by decide))
  refine PySem.W.callWith_K (h₀ := X.base) I'.ok.mod.kin hk (thn (ha.run pos pins' s' σ' H' (fun vs H1 => vs = [.ref f] ∧ H1 = H') I' ⟨_, hs, rfl, rfl⟩) fun us s1 ⟨vs, H1, I1, r1, ev, eH⟩ => ⟨I1.kIn, ?_⟩) he hpl
  subst ev
  subst eH
  obtain ⟨u, rfl, ru⟩ := vals1 r1
  obtain rfl : u = Value.ref f := ru
  have back : Inv X pins σ H1 s1 := A1.1.call' (ch := fp) I1.os I1.base I1.hok I1.bare fun b hb => let z := (A1.2 b hb).2; ⟨z.2.2.1, z.1, z.2.2.2.1, z.2.2.2.2⟩
  obtain ⟨oc, od, kV, doc, pm, an, cdv, ct, osl, rfl, lk, hcd⟩ := F.ex
  have rc : codeAny (model X.prog X.w) X.A (.call (.ref g) ⟨[.ref f], []⟩) (CR CX0 X.stack X.prog X.w H1 s1 Q E0) s1 := by
    refine LamX.run_ofS (N := nRef) (ps := ["_law_call"]) (us := [.ref f]) (vs := [.ref f]) lk hcd sc_ref hr back.env0 (hb s1 [.ref f] back.kIn rfl) (.cons rfl .nil) rfl fun hr' => ?_
    obtain ⟨t', ht, hq⟩ := ref_body (X := X) (s := s1) (g := g) (cdg := cdv) T S B hG (by have := hr'.un; omega) (hK f c' tl kn s1 H1 g cdv back hr') hc hT
    exact ⟨t', ht.nox, hq⟩
  refine wpAny_call (codeAny_mono rc fun r s2 hq => ?_)
  cases r with
  | error e => exact (show False from hq).elim
  | ok fl =>
    cases fl with
    | ret u => exact I1.after hq
    | next => exact False.elim hq
    | brk => exact False.elim hq
    | cont => exact False.elim hq
end
end K41

set_option Elab.async false
set_option linter.all false
set_option maxRecDepth 100000
set_option maxHeartbeats 4000000
namespace K41
open PySem PySem.Spec PyProof.Rows L2
/-! ### the lambdas of the law -/
section
variable {X : Cx} {CB CS fI cc : Addr}
/-- a lambda's object -/
abbrev lamObj (X : Cx) (body : Expr) (scope : Scope) (params : Arguments) (pm : Value) (c' : Addr) (ctv : Value) : Obj :=
  PySem.W.kla_obj "<lambda>" (X.env.qual ++ "<lambda>") params body scope (cloFrom X.env.cells scope.names []) pm c' ctv
theorem Inv.withLam {pins : List (Addr × Obj)} {σ : L2.St} {H : Hp} {s : Shared} {f c' : Addr} {body : Expr} {scope : Scope} {params : Arguments} {pm ctv : Value} (I : Inv X pins σ H s)
    (hf : s.heap.get? f = some (lamObj X body scope params pm c' ctv)) (hn : H f = none) (hr : f ∉ frs X.stack) : Inv X ((f, lamObj X body scope params pm c' ctv) :: pins) σ H s := by
  refine I.pins_of fun p hp => ?_
  rcases List.mem_cons.mp hp with rfl | hp
  · refine ⟨hf, hn, fun z => ?_, fun z => hr ?_, fun v z => by cases z⟩
    · obtain ⟨m, ⟨o, es, ep, ho, hd, _⟩, _⟩ := I.loc
      have z : f = X.env.locals := z
      rw [← z, hf] at ho
      cases ho
      cases hd
    · rcases I.ok.stk with e | ⟨e, _⟩
      · rw [e]; exact z
      · rw [e]
        obtain ⟨e1, h1, h2⟩ := List.mem_filterMap.mp z
        exact List.mem_filterMap.mpr ⟨e1, List.mem_cons_of_mem _ h1, h2⟩
  · exact I.pin p (List.mem_append_right _ hp)
theorem lam_ok {pins : List (Addr × Obj)} {σ : L2.St} {f c' : Addr} {body : Expr} {scope : Scope} {params : Arguments} {pm ctv : Value} {tb : XK → TE} (hp : (f, lamObj X body scope params pm c' ctv) ∈ X.pn ++ pins) (L : LamX.LamS X.env.scope scope)
    (hbind : bindArgs (PySem.W.kla_fn "<lambda>" (X.env.qual ++ "<lambda>") params body scope (cloFrom X.env.cells scope.names []) pm (.ref c') ctv) ⟨[], []⟩ = pure [])
    (hbody : ∀ (E : XK) (A : Around) (outer : List Env) (s : Shared) (H : Hp) (L : Addr), Room 7 (A.deeper (LamX.lamEnv X scope L f c')) → L = s.heap.objs.size → PE (LamX.lamCx X A outer s H E scope f c') body (tb E)) :
    LamOk X pins σ (X.env.qual ++ "<lambda>") f c' (fun E H Q => tb E σ H Q) := by
  intro s H g cdg I hr W pn xe E p1 p2 tk hW
  obtain ⟨h1, h2, h3, h4, _⟩ := I.pin _ hp
  have nfr : f ∉ frs X.stack := fun z => by
    rcases I.ok.stk with e | ⟨e, ef⟩
    · rw [e] at z; exact h4 z
    · rw [e] at z
      obtain ⟨e1, q1, q2⟩ := List.mem_filterMap.mp z
      rcases List.mem_cons.mp q1 with rfl | q1
      · rw [ef] at q2
        exact h3 (Option.some.inj q2).symm
      · exact h4 (List.mem_filterMap.mpr ⟨e1, q1, q2⟩)
  exact LamX.pe_act (CXg := CX0) (Eg := E0) (Ng := nRef) (qg := "_law_refused") (sg := defScope xRef) (k := 7) (i := 0) (a := "_law_call") (tb := tb E) I L h1 h2 nfr hbind tk hW hr (fun A outer s H hr2 => hbody E A outer s H _ hr2 rfl) rfl (.inl rfl)
end
end K41

set_option Elab.async false
set_option linter.all false
set_option maxRecDepth 100000
set_option maxHeartbeats 4000000
namespace K41
open PySem PySem.Spec PyProof.Rows L2
/-! ### law -/
abbrev nLaw : List Str := ["_law_script", "_law_tape", "_law_calls", "_law_deal", "_law_odd", "_law_call"]
theorem sc_law : FnScope nLaw ["_law_script"] (defScope xLaw) := ⟨rfl, rfl, rfl, by decide +kernel, rfl, by decide +kernel, by decide +kernel⟩
abbrev lawX (P : Program) (w : World) (K : PySem.W.Frag) (mg : Str → Option Value) (base : Heap) (f c : Addr) (A : PySem.Around) (outer : List Env) (s : Shared) (H : Hp) : Cx :=
  (cxOf CX0 P w K mg base nLaw "law" (defScope xLaw) f (.ref c) A outer s H E0).nox
abbrev lamQ : Str := ("law" : Str) ++ ".<locals>." ++ "<lambda>"
def lamAt (i : Nat) : Expr := match (defBody xLaw).getD 3 (.Pass ⟨0, 0, 0, 0⟩) with
  | .Assign _ (.List es _) _ => es.getD i (.Constant .none 0 ⟨0, 0, 0, 0⟩)
  | _ => .Constant .none 0 ⟨0, 0, 0, 0⟩
def lamSc (i : Nat) : Scope := match lamAt i with
  | .Lambda _ _ sc _ => sc
  | _ => defScope xLaw
def lamBd (i : Nat) : Expr := match lamAt i with
  | .Lambda _ b _ _ => b
  | e => e
theorem lamS0 : LamX.LamS (defScope xLaw) (lamSc 0) := LamX.lamS_by (by decide +kernel)
theorem lamS1 : LamX.LamS (defScope xLaw) (lamSc 1) := LamX.lamS_by (by decide +kernel)
theorem lamS2 : LamX.LamS (defScope xLaw) (lamSc 2) := LamX.lamS_by (by decide +kernel)
theorem lamS3 : LamX.LamS (defScope xLaw) (lamSc 3) := LamX.lamS_by (by decide +kernel)
theorem spl_cons {M : Model} {A : PySem.Around} {e : Expr} {es : List Expr} {env : Env} {pos : Pos} {s : Shared} {Q : List Value → Shared → Prop} {E : Value → Shared → Prop}
    (h : wpAny M A (eval e env) (fun v s1 => wpAny M A (spliced (backTo pos (starEach es env))) (fun vs s2 => Q (v :: vs) s2) E s1) E s) (hs : starEach (e :: es) env = (false, eval e env) :: starEach es env := by rfl) :
    wpAny M A (spliced (backTo pos (starEach (e :: es) env))) Q E s := by
  rw [hs]
  exact Calls.spliced_cons h
section
variable {P : Program} {w : World} {K : PySem.W.Frag} {mg : Str → Option Value} {base : Heap} {C CB CS fI cc f c Pt : Addr} {A : PySem.Around} {outer : List Env} {s0 : Shared} {H0 : Hp}
/-- how each lambda is read -/
def tb1 (C CB : Addr) (E : XK) : TE := tCall (spFrom C CB) [] E (tCons (tVar 4) (tCons (tC .non) tNil))
def tb2 (C CB : Addr) (E : XK) : TE := tCall (spFrom C CB) [] E (tCons (tVar 3) (tCons (tVar 4) tNil))
def tb3 (C CB : Addr) (E : XK) : TE := tCall (spAlways C CB) [] E (tCons (tVar 4) (tCons (tC .non) tNil))
def tb4 (C CB : Addr) (E : XK) : TE := tCall (spAlways C CB) [] E (tCons (tVar 3) (tCons (tVar 4) tNil))
def noPar : Arguments := { posonlyargs := [], args := [], vararg := none, kwonlyargs := [], kw_defaults := [], kwarg := none, defaults := [] }
/-- the four: where they stand, their code objects -/
structure Four (X : Cx) (pn : List (Addr × Obj)) (f1 f2 f3 f4 c1 c2 c3 c4 : Addr) : Prop where
  m1 : ∃ pm ct, (f1, lamObj X (lamBd 0) (lamSc 0) noPar pm c1 ct) ∈ pn
  m2 : ∃ pm ct, (f2, lamObj X (lamBd 1) (lamSc 1) noPar pm c2 ct) ∈ pn
  m3 : ∃ pm ct, (f3, lamObj X (lamBd 2) (lamSc 2) noPar pm c3 ct) ∈ pn
  m4 : ∃ pm ct, (f4, lamObj X (lamBd 3) (lamSc 3) noPar pm c4 ct) ∈ pn
def Known (C CB f1 f2 f3 f4 c1 c2 c3 c4 : Addr) (σ : L2.St) (f c' : Addr) (tl : XK → Hp → VK → Prop) : Prop :=
  (f = f1 ∧ c' = c1 ∧ tl = fun E H Q => tb1 C CB E σ H Q) ∨ (f = f2 ∧ c' = c2 ∧ tl = fun E H Q => tb2 C CB E σ H Q) ∨ (f = f3 ∧ c' = c3 ∧ tl = fun E H Q => tb3 C CB E σ H Q) ∨ (f = f4 ∧ c' = c4 ∧ tl = fun E H Q => tb4 C CB E σ H Q)
theorem known_ok {pn pins : List (Addr × Obj)} {xe : Value → Shared → Prop} {f1 f2 f3 f4 c1 c2 c3 c4 : Addr} {σ : L2.St} {g c' : Addr} {tl : XK → Hp → VK → Prop} (M : Four (lawX P w K mg base f c A outer s0 H0) pn f1 f2 f3 f4 c1 c2 c3 c4)
    (pf : CalFrom P w K mg base C CB) (al : CalAlways P w K mg base C CB) (kn : Known C CB f1 f2 f3 f4 c1 c2 c3 c4 σ g c' tl) : LamOk ((lawX P w K mg base f c A outer s0 H0).tr pn xe) pins σ lamQ g c' tl := by
  rcases kn with ⟨rfl, rfl, rfl⟩ | ⟨rfl, rfl, rfl⟩ | ⟨rfl, rfl, rfl⟩ | ⟨rfl, rfl, rfl⟩
  · obtain ⟨pm, ct, m⟩ := M.m1
    exact lam_ok (X := (lawX P w K mg base f c A outer s0 H0).tr pn xe) (tb := tb1 C CB) (List.mem_append_left _ m) lamS0 (by first | rfl | with_unfolding_all rfl) fun E A1 o1 s1 G1 L1 hr eL => by
      subst eL
      exact pe_cal (E := E) pf hr (by decide) (passes_call (takes_of rfl rfl rfl rfl) fun _ _ _ _ z => z) (by rfl) (pa_cons (pv 4) (pa_cons pe_non pa_nil))
  · obtain ⟨pm, ct, m⟩ := M.m2
    exact lam_ok (X := (lawX P w K mg base f c A outer s0 H0).tr pn xe) (tb := tb2 C CB) (List.mem_append_left _ m) lamS1 (by first | rfl | with_unfolding_all rfl) fun E A1 o1 s1 G1 L1 hr eL => by
      subst eL
      exact pe_cal (E := E) pf hr (by decide) (passes_call (takes_of rfl rfl rfl rfl) fun _ _ _ _ z => z) (by rfl) (pa_cons (pv 3) (pa_cons (pv 4) pa_nil))
  · obtain ⟨pm, ct, m⟩ := M.m3
    exact lam_ok (X := (lawX P w K mg base f c A outer s0 H0).tr pn xe) (tb := tb3 C CB) (List.mem_append_left _ m) lamS2 (by first | rfl | with_unfolding_all rfl) fun E A1 o1 s1 G1 L1 hr eL => by
      subst eL
      exact pe_cal (E := E) al hr (by decide) (passes_call (takes_of rfl rfl rfl rfl) fun _ _ _ _ z => z) (by rfl) (pa_cons (pv 4) (pa_cons pe_non pa_nil))
  · obtain ⟨pm, ct, m⟩ := M.m4
    exact lam_ok (X := (lawX P w K mg base f c A outer s0 H0).tr pn xe) (tb := tb4 C CB) (List.mem_append_left _ m) lamS3 (by first | rfl | with_unfolding_all rfl) fun E A1 o1 s1 G1 L1 hr eL => by
      subst eL
      exact pe_cal (E := E) al hr (by decide) (passes_call (takes_of rfl rfl rfl rfl) fun _ _ _ _ z => z) (by rfl) (pa_cons (pv 3) (pa_cons (pv 4) pa_nil))
theorem txt_shaped {x : Str} (h : PyData.strOk x = true) : SeqAt.shaped (.list [.str x, .str x, .str x, .str x]) = true := by
  unfold SeqAt.shaped
  simp only [PyData.canLay0, PyData.canLayAll0, PyData.depth, PyData.depthAll, h, Bool.and_self, Bool.true_and]
  rfl
theorem txt_eqv {x : Str} : PyData.eqv (.list [.str x, .str x, .str x, .str x]) (.list [.str x, .str x, .str x, .str x]) = true := by
  simp [PyData.eqv, PyData.eqvAll]
/-- _law_refused(_law_call), read: the slot holds one of the four -/
def teRef (C CB f1 f2 f3 f4 c1 c2 c3 c4 : Addr) (σ : L2.St) : TE := fun σ' H' Q => ∃ g c' tl, Known C CB f1 f2 f3 f4 c1 c2 c3 c4 σ g c' tl ∧ σ'[5]? = some (some (L2.V.ref g)) ∧ H' c' = some (LamX.CodeO c' lamQ) ∧ TRef CB tl H' Q
theorem law_last {pn : List (Addr × Obj)} {xe : Value → Shared → Prop} {f1 f2 f3 f4 c1 c2 c3 c4 : Addr} (M : Four (lawX P w K mg base f c A outer s0 H0) pn f1 f2 f3 f4 c1 c2 c3 c4)
    (B : Bn mg) (T : BadTxt P K mg CB fI cc) (S : SumTxt K mg CB CS) (R : RefC K mg) (pf : CalFrom P w K mg base C CB) (al : CalAlways P w K mg base C CB) (hG : A.guards = some []) (hr : Room 10 (A.deeper (envOfC "law" (defScope xLaw) s0.heap.objs.size f (.ref c)))) :
    ∃ t, PSs ((lawX P w K mg base f c A outer s0 H0).tr pn xe) ((defBody xLaw).drop 4) t ∧ ∀ (D : Ends) (H : Hp) (x0 x1 x5 : Option V) (q p : Addr) (v : V) (d : PyData) (Bd h S' : Int), OddD H v d → DealAt C H p Bd h S' → H q = some (.lst [.ref f1, .ref f2, .ref f3, .ref f4]) →
      H c1 = some (LamX.CodeO c1 lamQ) → H c2 = some (LamX.CodeO c2 lamQ) → H c3 = some (LamX.CodeO c3 lamQ) → H c4 = some (LamX.CodeO c4 lamQ) → (∀ H', D.rt (.bl true) H') → t D [x0, x1, some (.ref q), some (.ref p), some v, x5] H := by
  refine ⟨_, pss_one (ps_ret (pe_cmpR (op_eqD hr.units)
      (ta := fun σ H Q => tLc (iList K (tVar 2)) (gName 5) tYes (teRef C CB f1 f2 f3 f4 c1 c2 c3 c4 σ) [5] σ H Q)
      ⟨fun pins s σ H Q I h => lc_told (own := [("_law_call", 5)]) (by rfl) sc_law.nd I (pi_list (pv 2)) (blkOk_by (own := [("_law_call", 5)]) (N := nLaw) (sc := defScope xLaw) (by decide +kernel))
        (fun _ _ _ _ _ => pg_name (i := 5) sc_law.nd rfl (.inl rfl))
        (te := teRef C CB f1 f2 f3 f4 c1 c2 c3 c4 σ) (fun t G C' cl fp A1 => pe_refElt (q := lamQ) (i := 5) (Known := Known C CB f1 f2 f3 f4 c1 c2 c3 c4 σ) A1 R T S B (hr.mono (by decide)) hG (fun g c' tl kn => known_ok M pf al kn) (by rfl) (pa_cons (pv 5) pa_nil)) (by intro _; rfl) h⟩
      (pe_op op_rep (pe_lst (pa_cons (pe_callB (call_reprO hG (Nat.lt_of_le_of_lt (Nat.add_le_add_left (by decide) _) hr.units)) (by rfl) B.repr (by decide +kernel) (pa_cons (pv 4) pa_nil)) pa_nil)) pe_int) (nomark _))), ?_⟩
  intro D H x0 x1 x5 q p v d Bd h S' od dl hq hc1 hc2 hc3 hc4 k
  obtain ⟨tx1, tx2⟩ := od.text
  refine ⟨_, rfl, q, rfl, ⟨_, SqL.of hq⟩, fun L nL => ?_⟩
  have eL0 := same_new (o := .lst []) nL
  refine lc_list (K := K) (a := q) (xs := [.ref f1, .ref f2, .ref f3, .ref f4]) (g := gName 5) (tt := tYes) (te := teRef C CB f1 f2 f3 f4 c1 c2 c3 c4 [x0, x1, some (.ref q), some (.ref p), some v, x5]) (vs := [5]) (σ := [x0, x1, some (.ref q), some (.ref p), some v, x5]) (fun i H' => Same H H' ∧ H' L = some (.lst (List.replicate i (.str d.shown)))) ⟨eL0, upd_same⟩ (fun i H' _ z => SqL.of (z.1 _ _ hq)) ?_ ?_
  · rintro i x H' hi ⟨e1, eL⟩
    have od' := od.keep e1
    obtain ⟨dx, dl'⟩ := dl
    have dl' : DealAt C H' p Bd h S' := ⟨dx, e1 _ _ dl'⟩
    have kn : ∃ g c' tl, x = .ref g ∧ Known C CB f1 f2 f3 f4 c1 c2 c3 c4 [x0, x1, some (.ref q), some (.ref p), some v, x5] g c' tl ∧ H' c' = some (LamX.CodeO c' lamQ) ∧ i < 4 ∧ ∀ (E : XK) (Q' : VK), Bad CB v H' E → tl E H' Q' := by
      match i, hi with
      | 0, hi => exact ⟨f1, c1, _, (Option.some.inj hi).symm, .inl ⟨rfl, rfl, rfl⟩, e1 _ _ hc1, by decide, fun E Q' b => ⟨_, rfl, v, .non, rfl, .inr (.inl ⟨od'.odd, b⟩)⟩⟩
      | 1, hi => exact ⟨f2, c2, _, (Option.some.inj hi).symm, .inr (.inl ⟨rfl, rfl, rfl⟩), e1 _ _ hc2, by decide, fun E Q' b => ⟨_, rfl, _, rfl, .ref p, v, rfl, .inr (.inr ⟨⟨p, Bd, h, S', rfl, dl'⟩, od'.odd, b⟩)⟩⟩
      | 2, hi => exact ⟨f3, c3, _, (Option.some.inj hi).symm, .inr (.inr (.inl ⟨rfl, rfl, rfl⟩)), e1 _ _ hc3, by decide, fun E Q' b => ⟨_, rfl, v, .non, rfl, .inr (.inl ⟨od'.odd, b⟩)⟩⟩
      | 3, hi => exact ⟨f4, c4, _, (Option.some.inj hi).symm, .inr (.inr (.inr ⟨rfl, rfl, rfl⟩)), e1 _ _ hc4, by decide, fun E Q' b => ⟨_, rfl, _, rfl, .ref p, v, rfl, .inr (.inr ⟨⟨p, Bd, h, S', rfl, dl'⟩, od'.odd, b⟩)⟩⟩
      | i + 4, hi => simp at hi
    obtain ⟨g, c', tl, rfl, kn, hc', i4, bad⟩ := kn
    refine ⟨rfl, ?_⟩
    unfold tYes
    dsimp only
    refine iteT ?_
    refine ⟨g, c', tl, kn, rfl, hc', fun Q' => bad _ Q' fun dd nd => ?_⟩
    have e2 := same_new (o := .xd [(("value" : Str), v)]) nd
    refine ⟨rfl, dd, v, d, rfl, upd_same, od'.keep e2, _, e2 _ _ eL, ?_, fun b o eb => ?_, ?_⟩
    · rw [List.length_replicate, sizeLine_eq]
      omega
    · rw [upd_ne (fun zz => by rw [zz, nL] at eb; cases eb)]
      exact e2 b o (e1 b o eb)
    · rw [List.replicate_succ']
      exact upd_same
  · rintro H' ⟨e1, eL⟩
    refine ⟨_, rfl, v, d, rfl, od.keep e1, (by show 1 ≤ sizeLine; rw [sizeLine_eq]; decide), fun e ne => ?_⟩
    have e3 := same_new (o := .lst [.str d.shown]) ne
    refine ⟨e, 4, [.str d.shown], rfl, rfl, upd_same, by decide, by decide, by show 4 ≤ sizeLine; rw [sizeLine_eq]; decide, fun r nr => ?_⟩
    have e4 := same_new (o := .lst (List.replicate (4 : Int).toNat [V.str d.shown]).flatten) nr
    refine ⟨.list [.str d.shown, .str d.shown, .str d.shown, .str d.shown], .list [.str d.shown, .str d.shown, .str d.shown, .str d.shown], .lst (SqL.of (e4 _ _ (e3 _ _ eL))) (.cons (.str _) (.cons (.str _) (.cons (.str _) (.cons (.str _) .nil)))),
      .lst (SqL.of upd_same) (.cons (.str _) (.cons (.str _) (.cons (.str _) (.cons (.str _) .nil)))), ?_, ?_, ?_⟩
    · exact txt_shaped tx1
    · exact txt_shaped tx1
    · rw [txt_eqv]
      exact k _
theorem OddD.ext {H H' : Hp} {v : V} {d : PyData} (o : OddD H v d) (e : LamX.ExtN H H') : OddD H' v d := by
  cases o with
  | non => exact .non
  | bl b => exact .bl b
  | one => exact .one
  | emp => exact .emp
  | lst0 h => exact .lst0 (e _ _ h fun ps z => by cases z)
  | tup0 h => exact .tup0 (e _ _ h fun ps z => by cases z)
  | dct0 h => exact .dct0 (e _ _ h fun ps z => by cases z)
  | lst1 h => exact .lst1 (e _ _ h fun ps z => by cases z)
  | tup2 h => exact .tup2 (e _ _ h fun ps z => by cases z)
theorem back4 {X : Cx} {a b c d : Addr × Obj} {pins : List (Addr × Obj)} {xe : Value → Shared → Prop} {σ : L2.St} {H : Hp} {s : Shared} (ok : X.Ok) (Z : L2.Inv (X.tr (X.pn ++ (a :: b :: c :: d :: pins)) xe) [] σ H s) : L2.Inv X pins σ H s :=
  (Inv.ofTry Z ok).pins_of fun p hp => (Inv.ofTry Z ok).pin p (List.mem_append_right _ (.tail _ (.tail _ (.tail _ (.tail _ hp)))))
theorem six {σ : L2.St} {p : Addr} {v : V} (hl : σ.length = 6) (h3 : σ[3]? = some (some (.ref p))) (h4 : σ[4]? = some (some v)) : ∃ x0 x1 x2 x5, σ = [x0, x1, x2, some (.ref p), some v, x5] := by
  match σ, hl, h3, h4 with
  | [x0, x1, x2, x3, x4, x5], _, h3, h4 =>
    have e3 : x3 = some (.ref p) := Option.some.inj h3
    have e4 : x4 = some v := Option.some.inj h4
    exact ⟨x0, x1, x2, x5, by rw [e3, e4]⟩
/-- behind the third row: what is no Deal in one cell, a Deal in the other -/
def tTail (C Pt : Addr) : TS := fun D σ H => ∃ (v : V) (d : PyData) (p : Addr) (B h S : Int), σ.length = 6 ∧ σ[4]? = some (some v) ∧ OddD H v d ∧ σ[3]? = some (some (.ref p)) ∧ DealAt C H p B h S ∧ LamX.Tabs [(Pt, lamQ)] H ∧ ∀ H', D.rt (.bl true) H'
theorem law_tail (B : Bn mg) (T : BadTxt P K mg CB fI cc) (S : SumTxt K mg CB CS) (R : RefC K mg) (pf : CalFrom P w K mg base C CB) (al : CalAlways P w K mg base C CB) (TB : LamX.TabB base mg c Pt) (hG : A.guards = some [])
    (hr : Room 10 (A.deeper (envOfC "law" (defScope xLaw) s0.heap.objs.size f (.ref c)))) : PSs (lawX P w K mg base f c A outer s0 H0) ((defBody xLaw).drop 3) (tTail C Pt) := by
  refine ⟨fun pins s σ H D I h => ?_⟩
  obtain ⟨v, d, p, B', h', S', hl, h4, od, h3, ⟨dx, dl⟩, hT, k⟩ := h
  obtain ⟨x0, x1, x2, x5, rfl⟩ := six hl h3 h4
  refine wpAny_execs_cons (wpAny_Assign_Name (wpAny_List_spliced ?_) (by rfl))
  have inT : (Pt, (lawX P w K mg base f c A outer s0 H0).env.qual ++ "<lambda>") ∈ [(Pt, lamQ)] := List.mem_cons_self
  have onT : ∀ p ∈ [(Pt, lamQ)], p.1 = Pt → p.2 = (lawX P w K mg base f c A outer s0 H0).env.qual ++ "<lambda>" := fun p hp _ => by
    rcases List.mem_cons.mp hp with rfl | hp
    · rfl
    · cases hp
  refine spl_cons (LamX.lam_make2 (T := [(Pt, lamQ)]) (P := Pt) (c := c) I TB rfl inT onT hT rfl (lamS0.has (X := lawX P w K mg base f c A outer s0 H0) I.ok) fun f1 c1 pm1 ct1 H1 s1 I1 e1 T1 g1 n1 r1 o1 => ?_)
  replace I1 : Inv (lawX P w K mg base f c A outer s0 H0) ((f1, lamObj (lawX P w K mg base f c A outer s0 H0) (lamBd 0) (lamSc 0) noPar pm1 c1 ct1) :: pins) [x0, x1, x2, some (.ref p), some v, x5] H1 s1 := Inv.withLam I1 g1 n1 r1
  refine spl_cons (LamX.lam_make2 (T := [(Pt, lamQ)]) (P := Pt) (c := c) I1 TB rfl inT onT T1 rfl (lamS1.has (X := lawX P w K mg base f c A outer s0 H0) I.ok) fun f2 c2 pm2 ct2 H2 s2 I2 e2 T2 g2 n2 r2 o2 => ?_)
  replace I2 : Inv (lawX P w K mg base f c A outer s0 H0) ((f2, lamObj (lawX P w K mg base f c A outer s0 H0) (lamBd 1) (lamSc 1) noPar pm2 c2 ct2) :: (f1, lamObj (lawX P w K mg base f c A outer s0 H0) (lamBd 0) (lamSc 0) noPar pm1 c1 ct1) :: pins) [x0, x1, x2, some (.ref p), some v, x5] H2 s2 := Inv.withLam I2 g2 n2 r2
  refine spl_cons (LamX.lam_make2 (T := [(Pt, lamQ)]) (P := Pt) (c := c) I2 TB rfl inT onT T2 rfl (lamS2.has (X := lawX P w K mg base f c A outer s0 H0) I.ok) fun f3 c3 pm3 ct3 H3 s3 I3 e3 T3 g3 n3 r3 o3 => ?_)
  replace I3 : Inv (lawX P w K mg base f c A outer s0 H0) ((f3, lamObj (lawX P w K mg base f c A outer s0 H0) (lamBd 2) (lamSc 2) noPar pm3 c3 ct3) :: (f2, lamObj (lawX P w K mg base f c A outer s0 H0) (lamBd 1) (lamSc 1) noPar pm2 c2 ct2) :: (f1, lamObj (lawX P w K mg base f c A outer s0 H0) (lamBd 0) (lamSc 0) noPar pm1 c1 ct1) :: pins) [x0, x1, x2, some (.ref p), some v, x5] H3 s3 := Inv.withLam I3 g3 n3 r3
  refine spl_cons (LamX.lam_make2 (T := [(Pt, lamQ)]) (P := Pt) (c := c) I3 TB rfl inT onT T3 rfl (lamS3.has (X := lawX P w K mg base f c A outer s0 H0) I.ok) fun f4 c4 pm4 ct4 H4 s4 I4 e4 T4 g4 n4 r4 o4 => ?_)
  replace I4 : Inv (lawX P w K mg base f c A outer s0 H0) ((f4, lamObj (lawX P w K mg base f c A outer s0 H0) (lamBd 3) (lamSc 3) noPar pm4 c4 ct4) :: (f3, lamObj (lawX P w K mg base f c A outer s0 H0) (lamBd 2) (lamSc 2) noPar pm3 c3 ct3) :: (f2, lamObj (lawX P w K mg base f c A outer s0 H0) (lamBd 1) (lamSc 1) noPar pm2 c2 ct2) :: (f1, lamObj (lawX P w K mg base f c A outer s0 H0) (lamBd 0) (lamSc 0) noPar pm1 c1 ct1) :: pins) [x0, x1, x2, some (.ref p), some v, x5] H4 s4 := Inv.withLam I4 g4 n4 r4
  refine Calls.spliced_nil ⟨by show 4 ≤ sizeLine; rw [sizeLine_eq]; decide, ?_⟩
  have nq : H4 s4.heap.objs.size = none := I4.hok.fresh (Nat.le_refl _)
  have I5 := I4.laid (a := s4.heap.objs.size) (o := .lst [.ref f1, .ref f2, .ref f3, .ref f4]) (t' := s4.toks) (h' := s4.heap.push { cls := .type "list", data := .seq [Value.ref f1, .ref f2, .ref f3, .ref f4].toArray }) (fun b u e => Heap.get?_push_of_some _ e) (Nat.le_refl _)
    ⟨by show 4 ≤ sizeLine; rw [sizeLine_eq]; decide, _, 0, .cons rfl (.cons rfl (.cons rfl (.cons rfl .nil))), Heap.get?_push_size _ rfl⟩
  refine store_ok (i := 2) (v := .ref s4.heap.objs.size) I5 sc_law.nd rfl (.inl rfl) rfl (fun s5 I6 => ?_)
  -- the pins go with the rest
  show wpAny _ _ (execs ((defBody xLaw).drop 4) _) _ _ _
  have M : Four (lawX P w K mg base f c A outer s0 H0) ((lawX P w K mg base f c A outer s0 H0).pn ++ ((f4, lamObj (lawX P w K mg base f c A outer s0 H0) (lamBd 3) (lamSc 3) noPar pm4 c4 ct4) :: (f3, lamObj (lawX P w K mg base f c A outer s0 H0) (lamBd 2) (lamSc 2) noPar pm3 c3 ct3) :: (f2, lamObj (lawX P w K mg base f c A outer s0 H0) (lamBd 1) (lamSc 1) noPar pm2 c2 ct2) :: (f1, lamObj (lawX P w K mg base f c A outer s0 H0) (lamBd 0) (lamSc 0) noPar pm1 c1 ct1) :: pins)) f1 f2 f3 f4 c1 c2 c3 c4 :=
    ⟨⟨pm1, ct1, .tail _ (.tail _ (.tail _ (.head _)))⟩, ⟨pm2, ct2, .tail _ (.tail _ (.head _))⟩, ⟨pm3, ct3, .tail _ (.head _)⟩, ⟨pm4, ct4, .head _⟩⟩
  obtain ⟨t, ht, hq⟩ := law_last (xe := (lawX P w K mg base f c A outer s0 H0).xe) M B T S R pf al hG hr
  have J := I6.toTry (lawX P w K mg base f c A outer s0 H0).xe
  have e5 : LamX.ExtN H4 (upd H4 s4.heap.objs.size (.lst [.ref f1, .ref f2, .ref f3, .ref f4])) := LamX.ExtN.of (same_new nq)
  have e45 := e4.trans e5
  have e35 := e3.trans e45
  have e25 := e2.trans e35
  have e15 := e1.trans e25
  refine wpAny_mono (ht.run [] s5 _ _ D J (hq D _ x0 x1 x5 s4.heap.objs.size p v d B' h' S' (od.ext e15) ⟨dx, e15 _ _ dl fun ps z => by cases z⟩ upd_same (e25 _ _ o1 LamX.codeO_ne) (e35 _ _ o2 LamX.codeO_ne) (e45 _ _ o3 LamX.codeO_ne) (e5 _ _ o4 LamX.codeO_ne) k)) (fun fl s' hsp => ?_) fun e s' he => he
  cases fl with
  | next =>
    obtain ⟨σ', H', Z, q⟩ := hsp
    exact ⟨σ', H', back4 I.ok Z, q⟩
  | brk =>
    obtain ⟨σ', H', Z, q⟩ := hsp
    exact ⟨σ', H', back4 I.ok Z, q⟩
  | cont =>
    obtain ⟨σ', H', Z, q⟩ := hsp
    exact ⟨σ', H', back4 I.ok Z, q⟩
  | ret u =>
    obtain ⟨v', σ', H', Z, r, q⟩ := hsp
    exact ⟨v', σ', H', back4 I.ok Z, r, q⟩
end
end K41

set_option Elab.async false
set_option linter.all false
set_option maxRecDepth 100000
set_option maxHeartbeats 4000000
namespace K41
open PySem PySem.Spec PyProof.Rows L2
/-! ### law, whole -/
section
variable {P : Program} {w : World} {K : PySem.W.Frag} {mg : Str → Option Value} {base : Heap} {C CB CS fI cc f c Pt : Addr}
abbrev CalBegin (P : Program) (w : World) (K : PySem.W.Frag) (mg : Str → Option Value) (base : Heap) : Prop := Cal P w K mg base CX0 1 "_law_begin" ["_law_script"] (spBegin K)
abbrev CalFar (P : Program) (w : World) (K : PySem.W.Frag) (mg : Str → Option Value) (base : Heap) : Prop := Cal P w K mg base CX0 7 "_law_far_right" ["_law_tape"] spFar
abbrev CalSmR (P : Program) (w : World) (K : PySem.W.Frag) (mg : Str → Option Value) (base : Heap) : Prop := Cal P w K mg base CX0 7 "_law_small_right" ["_law_tape"] spSmR
abbrev CalNoInt (P : Program) (w : World) (K : PySem.W.Frag) (mg : Str → Option Value) (base : Heap) : Prop := Cal P w K mg base CX0 3 "_law_no_integer" ["_law_tape"] spNoInt
structure CalsLaw (P : Program) (w : World) (K : PySem.W.Frag) (mg : Str → Option Value) (base : Heap) (C CB CS fI cc : Addr) : Prop where
  bn : Bn mg
  bad : BadTxt P K mg CB fI cc
  sum : SumTxt K mg CB CS
  ref : RefC K mg
  pf : CalFrom P w K mg base C CB
  al : CalAlways P w K mg base C CB
  beg : CalBegin P w K mg base
  far : CalFar P w K mg base
  smR : CalSmR P w K mg base
  noInt : CalNoInt P w K mg base
  deal : DealM P w K mg base C
  dealC : DealC K mg C
theorem law_at {oc kV doc pm ct : Value} {od an : Option Addr} {osl : Array (Option Value)} {A : PySem.Around} {outer : List Env} {s : Shared} {H : Hp} {a : Addr} {ns : List Int} (Z : CalsLaw P w K mg base C CB CS fI cc)
    (lk : K.lookup f = some ⟨oc, od, .func (PySem.W.fnOf "law" "law" (defArgs xLaw) (defBody xLaw) (defScope xLaw) .none kV doc pm an (.ref c) ct), osl⟩) (hcd : PySem.W.codeIn K (.ref c) "law" = true) (TB : LamX.TabB base mg c Pt)
    (hG : A.guards = some []) (hr : Room 11 A) (e0 : Env0 P w K mg base A outer s H) (hb : BindsTo s (PySem.W.fnOf "law" "law" (defArgs xLaw) (defBody xLaw) (defScope xLaw) .none kV doc pm an (.ref c) ct) ⟨[.ref a], []⟩ [("_law_script", .ref a)])
    (hT : H Pt = some (.tbl #[])) (hS : SqL K H a (ns.map V.int)) (hl : ns.length ≤ 63) :
    codeAny (model P w) A (.call (.ref f) ⟨[.ref a], []⟩) (CR CX0 outer P w H s (fun v _ => v = .bl true) E0) s := by
  refine LamX.run_ofS (N := nLaw) (ps := ["_law_script"]) (us := [.ref a]) (vs := [.ref a]) lk hcd sc_law hr e0 hb (.cons rfl .nil) rfl fun hr => ?_
  have tail := law_tail (outer := outer) (s0 := s) (H0 := H) (A := A) (f := f) Z.bn Z.bad Z.sum Z.ref Z.pf Z.al TB hG hr
  have all : PSs (lawX P w K mg base f c A outer s H) (defBody xLaw) _ :=
    pss_cons (ps_set (i := 1) sc_law.nd rfl (.inl rfl) (pe_cal Z.beg hr (by decide) pass0 (by rfl) (pa_cons (pv 0) pa_nil)))
    (pss_cons (ps_if (PW.pt (pw_or (pt_not (pt_val (pe_cal Z.far hr (by decide) pass0 (by rfl) (pa_cons (pv 1) pa_nil)))) (pw_or (pt_not (pt_val (pe_cal Z.far hr (by decide) pass0 (by rfl) (pa_cons (pv 1) pa_nil))))
        (pw_or (pt_not (pt_val (pe_cal Z.smR hr (by decide) pass0 (by rfl) (pa_cons (pv 1) pa_nil)))) (pw_or1 (pt_not (pt_val (pe_cal Z.smR hr (by decide) pass0 (by rfl) (pa_cons (pv 1) pa_nil))))))))) pss_never pss_nil)
    (pss_cons (ps_asg (pe_tup (pa_cons (pe_cal Z.noInt hr (by decide) pass0 (by rfl) (pa_cons (pv 1) pa_nil)) (pa_cons (pe_deal2 Z.deal Z.dealC hr (by decide) (by rfl) (pa_cons pe_int (pa_cons pe_int pa_nil))) pa_nil)))
        (pg_tup rfl (pgs_cons (pg_name (i := 4) sc_law.nd rfl (.inr rfl)) (pgs_cons (pg_name (i := 3) sc_law.nd rfl (.inr rfl)) pgs_nil))))
    tail))
  refine ⟨_, all.nox, ?_⟩
  refine ⟨_, rfl, a, ns, rfl, hS, hl, fun p H1 e1 np T1 => ?_⟩
  refine ⟨_, rfl, p, 0, rfl, T1, by decide, fun H2 k2 T2 => ⟨true, rfl, iteF ?_⟩⟩
  refine ⟨_, rfl, p, _, rfl, T2, by decide, fun H3 k3 T3 => ⟨true, rfl, iteF ?_⟩⟩
  refine ⟨_, rfl, p, _, rfl, T3, by decide, fun H4 k4 T4 => ⟨true, rfl, iteF ?_⟩⟩
  refine ⟨_, rfl, p, _, rfl, T4, by decide, fun H5 k5 T5 => ⟨true, rfl, iteF ?_⟩⟩
  refine ⟨_, rfl, p, _, rfl, T5, by decide, fun v H6 o k6 T6 => ?_⟩
  have nP : Pt ≠ p := fun z => by
    rw [z] at hT
    rw [np] at hT
    cases hT
  have hT6 := k6 _ _ (k5 _ _ (k4 _ _ (k3 _ _ (k2 _ _ (e1 _ _ hT) nP) nP) nP) nP) nP
  obtain ⟨d, od⟩ := o.data
  refine fun x dx nx nd ne => ⟨x, dx, 2, 3, 0, rfl, upd_same, by decide, by decide, by decide, by decide, fun H7 e kp => ⟨rfl, ?_⟩⟩
  have s7 := made_same nx nd kp
  refine ⟨by show 2 ≤ sizeLine; rw [sizeLine_eq]; decide, fun t nt => ?_⟩
  have s8 := same_new (o := .tup [v, .ref x]) nt
  refine ⟨t, _, rfl, SqT.of upd_same, rfl, _, _, rfl, _, _, rfl, rfl, ?_⟩
  have tabs : LamX.Tabs [(Pt, lamQ)] (upd H7 t (.tup [v, .ref x])) := fun q hq => by
    rcases List.mem_cons.mp hq with rfl | hq
    · exact LamX.TabS.nil (s8 _ _ (s7 _ _ hT6))
    · cases hq
  exact ⟨v, d, x, _, _, _, rfl, rfl, (od.keep s7).keep s8, rfl, ⟨dx, s8 _ _ e⟩, tabs, fun _ => rfl⟩
end
end K41

set_option Elab.async false
set_option linter.all false
set_option maxRecDepth 100000
set_option maxHeartbeats 4000000
namespace K41
open PySem PySem.Spec PyProof.Rows L2
/-! ### what stands behind the top: the defs -/
def DefM (K : PySem.W.Frag) (mg : Str → Option Value) (x : Str) (st : Stmt) : Prop := ∃ (f : Addr) (fd : FuncData), mg x = some (.ref f) ∧ PySem.W.keepIn K (.ref f) = true ∧ Fun K x x st f fd
theorem def_mk {K : PySem.W.Frag} {h : Heap} {mg : Str → Option Value} {x : Str} {st : Stmt} {f : Addr} {oc : Value} {od an : Option Addr} {osl : Array (Option Value)} {kV doc pm cdv ct : Value} (X : K.In h) (G : h.Ns mainGlobals mg)
    (a : PySem.W.nsIn K mainGlobals x = some (some (.ref f))) (l : K.lookup f = some ⟨oc, od, .func (PySem.W.fnOf x x (defArgs st) (defBody st) (defScope st) .none kV doc pm an cdv ct), osl⟩) (c : PySem.W.codeIn K cdv x = true) (k : PySem.W.keepIn K (.ref f) = true) : DefM K mg x st :=
  ⟨f, _, PySem.W.mg_of X G a, k, fun_mk (st := st) l c k⟩
/-- Deal's __init__ -/
structure InitM (K : PySem.W.Frag) (C : Addr) : Prop where
  ex : ∃ (f : Addr) (fd : FuncData), Mk K C f ∧ FunInit K f fd
/-- all of them -/
structure Defs (K : PySem.W.Frag) (mg : Str → Option Value) (C : Addr) : Prop where
  init : InitM K C
  d_is_integer : DefM K mg "is_integer" xIsInt
  d_is_whole : DefM K mg "is_whole" xIsWhole
  d_need_integer : DefM K mg "need_integer" xNeedInt
  d_need_positive : DefM K mg "need_positive" xNeedPos
  d_need_deal : DefM K mg "need_deal" xNeedDeal
  d_first_run : DefM K mg "first_run" xRun
  d_parted : DefM K mg "parted" xParted
  d_part_from : DefM K mg "part_from" xFrom
  d_always_alike : DefM K mg "always_alike" xAlways
  d__law_begin : DefM K mg "_law_begin" xBegin
  d__law_draw : DefM K mg "_law_draw" xDraw
  d__law_pick : DefM K mg "_law_pick" xPick
  d__law_whole_is : DefM K mg "_law_whole_is" xWhole
  d__law_truth : DefM K mg "_law_truth" xTruth
  d__law_ten : DefM K mg "_law_ten" xTen
  d__law_long : DefM K mg "_law_long" xLong
  d__law_size : DefM K mg "_law_size" xSize
  d__law_signed : DefM K mg "_law_signed" xSigned
  d__law_no_integer : DefM K mg "_law_no_integer" xNoInt
  d__law_drawn_deal : DefM K mg "_law_drawn_deal" xDrawn
  d__law_deal_of : DefM K mg "_law_deal_of" xDealOf
  d__law_small_house : DefM K mg "_law_small_house" xSmall
  d__law_together : DefM K mg "_law_together" xTog
  d__law_drawn_two : DefM K mg "_law_drawn_two" xTwo
  d__law_ahead_of : DefM K mg "_law_ahead_of" xAhead
  d__law_alike : DefM K mg "_law_alike" xAlike
  d__law_far_right : DefM K mg "_law_far_right" xFar
  d__law_small_right : DefM K mg "_law_small_right" xSmR
  d__law_refused : DefM K mg "_law_refused" xRef
section
variable {P : Program} {w : World} {K : PySem.W.Frag} {mg : Str → Option Value} {base : Heap} {C CB CS fI cc : Addr}
theorem init_ok (D : InitM K C) (T : DealC K mg C) (NP : CalNeedPos P w K mg base) (NI : CalNeedInt P w K mg base) : DealM P w K mg base C := by
  obtain ⟨f, fd, M, F⟩ := D.ex
  obtain ⟨ds0, v0, b0⟩ := F.binds1 (ps := initPs) 4 1 (by simp) rfl fun T kV doc pm an cdv ct us its hu hi => match us, hu, its, hi with | [_, _, _, _], _, [_], _ => ⟨_, rfl, rfl⟩
  obtain ⟨ds1, v1, b1⟩ := F.binds1 (ps := initPs) 3 0 (by simp) rfl fun T kV doc pm an cdv ct us its hu hi => match us, hu, its, hi with | [_, _, _], _, [_], _ => ⟨_, rfl, rfl⟩
  cases v0
  exact ⟨f, fd, M, ok_init F T NP NI, b0, ds1, v1, b1⟩
theorem cals_law (D : Defs K mg C) (B : Bn mg) (T : DealC K mg C) (TI : DealI K C) (TB : BadTxt P K mg CB fI cc) (S : SumTxt K mg CB CS) : CalsLaw P w K mg base C CB CS fI cc := by
  have c_is_integer : CalIsInt P w K mg base := by
    obtain ⟨f, fd, hm, hk, F⟩ := D.d_is_integer
    exact ⟨f, fd, hm, hk, F.binds fun _ _ _ _ _ _ us hl => match us, hl with | [_], _ => rfl, ok_isInt F B⟩
  have c_is_whole : CalIsWhole P w K mg base := by
    obtain ⟨f, fd, hm, hk, F⟩ := D.d_is_whole
    exact ⟨f, fd, hm, hk, F.binds fun _ _ _ _ _ _ us hl => match us, hl with | [_], _ => rfl, ok_isWhole F c_is_integer⟩
  have c_need_integer : CalNeedInt P w K mg base := by
    obtain ⟨f, fd, hm, hk, F⟩ := D.d_need_integer
    exact ⟨f, fd, hm, hk, F.binds fun _ _ _ _ _ _ us hl => match us, hl with | [_], _ => rfl, ok_needInt F c_is_integer⟩
  have c_need_positive : CalNeedPos P w K mg base := by
    obtain ⟨f, fd, hm, hk, F⟩ := D.d_need_positive
    exact ⟨f, fd, hm, hk, F.binds fun _ _ _ _ _ _ us hl => match us, hl with | [_], _ => rfl, ok_needPos F c_is_whole⟩
  have c_need_deal : CalNeedDeal P w K mg base C CB := by
    obtain ⟨f, fd, hm, hk, F⟩ := D.d_need_deal
    exact ⟨f, fd, hm, hk, F.binds fun _ _ _ _ _ _ us hl => match us, hl with | [_], _ => rfl, ok_needDeal F B T TI TB⟩
  have c_first_run : CalRun P w K mg base C := by
    obtain ⟨f, fd, hm, hk, F⟩ := D.d_first_run
    exact ⟨f, fd, hm, hk, F.binds fun _ _ _ _ _ _ us hl => match us, hl with | [_], _ => rfl, ok_run F T⟩
  have c_parted : CalParted P w K mg base C := by
    obtain ⟨f, fd, hm, hk, F⟩ := D.d_parted
    exact ⟨f, fd, hm, hk, F.binds fun _ _ _ _ _ _ us hl => match us, hl with | [_, _], _ => rfl, ok_parted F B T c_first_run⟩
  have c_part_from : CalFrom P w K mg base C CB := by
    obtain ⟨f, fd, hm, hk, F⟩ := D.d_part_from
    exact ⟨f, fd, hm, hk, F.binds fun _ _ _ _ _ _ us hl => match us, hl with | [_, _], _ => rfl, ok_from F c_need_deal c_parted⟩
  have c_always_alike : CalAlways P w K mg base C CB := by
    obtain ⟨f, fd, hm, hk, F⟩ := D.d_always_alike
    exact ⟨f, fd, hm, hk, F.binds fun _ _ _ _ _ _ us hl => match us, hl with | [_, _], _ => rfl, ok_always F c_need_deal c_parted⟩
  have c__law_begin : CalBegin P w K mg base := by
    obtain ⟨f, fd, hm, hk, F⟩ := D.d__law_begin
    exact ⟨f, fd, hm, hk, F.binds fun _ _ _ _ _ _ us hl => match us, hl with | [_], _ => rfl, ok_begin F B⟩
  have c__law_draw : CalDraw P w K mg base := by
    obtain ⟨f, fd, hm, hk, F⟩ := D.d__law_draw
    exact ⟨f, fd, hm, hk, F.binds fun _ _ _ _ _ _ us hl => match us, hl with | [_, _], _ => rfl, ok_draw F B⟩
  have c__law_pick : CalPick P w K mg base := by
    obtain ⟨f, fd, hm, hk, F⟩ := D.d__law_pick
    exact ⟨f, fd, hm, hk, F.binds fun _ _ _ _ _ _ us hl => match us, hl with | [_, _], _ => rfl, ok_pick F B c__law_draw⟩
  have c__law_whole_is : CalWhole P w K mg base := by
    obtain ⟨f, fd, hm, hk, F⟩ := D.d__law_whole_is
    exact ⟨f, fd, hm, hk, F.binds fun _ _ _ _ _ _ us hl => match us, hl with | [_, _], _ => rfl, ok_whole F B⟩
  have c__law_truth : CalTruth P w K mg base := by
    obtain ⟨f, fd, hm, hk, F⟩ := D.d__law_truth
    exact ⟨f, fd, hm, hk, F.binds fun _ _ _ _ _ _ us hl => match us, hl with | [_, _], _ => rfl, ok_truth F⟩
  have c__law_ten : CalTen P w K mg base := by
    obtain ⟨f, fd, hm, hk, F⟩ := D.d__law_ten
    exact ⟨f, fd, hm, hk, F.binds fun _ _ _ _ _ _ us hl => match us, hl with | [_], _ => rfl, ok_ten F B⟩
  have c__law_long : CalLong P w K mg base := by
    obtain ⟨f, fd, hm, hk, F⟩ := D.d__law_long
    exact ⟨f, fd, hm, hk, F.binds fun _ _ _ _ _ _ us hl => match us, hl with | [_, _], _ => rfl, ok_long F B c__law_draw c__law_ten⟩
  have c__law_size : CalSize P w K mg base := by
    obtain ⟨f, fd, hm, hk, F⟩ := D.d__law_size
    exact ⟨f, fd, hm, hk, F.binds fun _ _ _ _ _ _ us hl => match us, hl with | [_, _], _ => rfl, ok_size F B c__law_draw c__law_ten c__law_long⟩
  have c__law_signed : CalSigned P w K mg base := by
    obtain ⟨f, fd, hm, hk, F⟩ := D.d__law_signed
    exact ⟨f, fd, hm, hk, F.binds fun _ _ _ _ _ _ us hl => match us, hl with | [_, _], _ => rfl, ok_signed F c__law_draw c__law_size⟩
  have c__law_no_integer : CalNoInt P w K mg base := by
    obtain ⟨f, fd, hm, hk, F⟩ := D.d__law_no_integer
    exact ⟨f, fd, hm, hk, F.binds fun _ _ _ _ _ _ us hl => match us, hl with | [_], _ => rfl, ok_noInt F c__law_pick⟩
  have c__law_drawn_deal : CalDrawn P w K mg base := by
    obtain ⟨f, fd, hm, hk, F⟩ := D.d__law_drawn_deal
    exact ⟨f, fd, hm, hk, F.binds fun _ _ _ _ _ _ us hl => match us, hl with | [_, _], _ => rfl, ok_drawn F c__law_pick c__law_size c__law_signed⟩
  have DM : DealM P w K mg base C := init_ok D.init T c_need_positive c_need_integer
  have c__law_deal_of : CalDealOf P w K mg base C := by
    obtain ⟨f, fd, hm, hk, F⟩ := D.d__law_deal_of
    exact ⟨f, fd, hm, hk, F.binds fun _ _ _ _ _ _ us hl => match us, hl with | [_], _ => rfl, ok_dealOf F DM T⟩
  have c__law_small_house : CalSmall P w K mg base := by
    obtain ⟨f, fd, hm, hk, F⟩ := D.d__law_small_house
    exact ⟨f, fd, hm, hk, F.binds fun _ _ _ _ _ _ us hl => match us, hl with | [_, _], _ => rfl, ok_small F⟩
  have c__law_together : CalTog P w K mg base := by
    obtain ⟨f, fd, hm, hk, F⟩ := D.d__law_together
    exact ⟨f, fd, hm, hk, F.binds fun _ _ _ _ _ _ us hl => match us, hl with | [_, _, _], _ => rfl, ok_tog F c__law_small_house⟩
  have c__law_drawn_two : CalTwo P w K mg base := by
    obtain ⟨f, fd, hm, hk, F⟩ := D.d__law_drawn_two
    exact ⟨f, fd, hm, hk, F.binds fun _ _ _ _ _ _ us hl => match us, hl with | [_, _], _ => rfl, ok_two F c__law_drawn_deal c__law_pick c__law_draw c__law_signed⟩
  have c__law_ahead_of : CalAhead P w K mg base := by
    obtain ⟨f, fd, hm, hk, F⟩ := D.d__law_ahead_of
    exact ⟨f, fd, hm, hk, F.binds fun _ _ _ _ _ _ us hl => match us, hl with | [_], _ => rfl, ok_ahead F B⟩
  have c__law_alike : CalAlike P w K mg base := by
    obtain ⟨f, fd, hm, hk, F⟩ := D.d__law_alike
    exact ⟨f, fd, hm, hk, F.binds fun _ _ _ _ _ _ us hl => match us, hl with | [_, _], _ => rfl, ok_alike F c__law_ahead_of⟩
  have CF : CalsFar P w K mg base C CB := ⟨c__law_drawn_two, c__law_deal_of, c_part_from, c_always_alike, c__law_alike, c__law_truth, c__law_whole_is, c__law_together, c__law_size, c__law_pick⟩
  have c__law_far_right : CalFar P w K mg base := by
    obtain ⟨f, fd, hm, hk, F⟩ := D.d__law_far_right
    exact ⟨f, fd, hm, hk, F.binds fun _ _ _ _ _ _ us hl => match us, hl with | [_], _ => rfl, ok_far F B CF⟩
  have c__law_small_right : CalSmR P w K mg base := by
    obtain ⟨f, fd, hm, hk, F⟩ := D.d__law_small_right
    exact ⟨f, fd, hm, hk, F.binds fun _ _ _ _ _ _ us hl => match us, hl with | [_], _ => rfl, ok_smR F B CF c__law_draw⟩
  have R : RefC K mg := by
    obtain ⟨f, fd, hm, hk, F⟩ := D.d__law_refused
    exact ⟨f, fd, hm, hk, F, F.binds fun _ _ _ _ _ _ us hl => match us, hl with | [_], _ => rfl⟩
  exact ⟨B, TB, S, R, c_part_from, c_always_alike, c__law_begin, c__law_far_right, c__law_small_right, c__law_no_integer, DM, T⟩
end
end K41

set_option Elab.async false
set_option linter.all false
set_option maxRecDepth 100000
set_option maxHeartbeats 4000000
namespace K41
open PySem PySem.Spec PyProof.Rows L2
/-! ### the end: the caller's own call of law, with law's own table of code objects -/
section
variable {P : Program} {w : World} {K : PySem.W.Frag} {mg mb : Str → Option Value} {fa a c Pt : Addr} {s : Shared} {vs : List Value} {ns : List Int}
abbrev scrO (vs : List Value) : Obj := { cls := .type "list", data := .seq vs.toArray }
abbrev tabE : Obj := { cls := .none, data := .fields #[] }
/-- tracked at first: law's table; the script, unless it is of the module -/
def hp0 (K : PySem.W.Frag) (a Pt : Addr) (vs : List Value) (ns : List Int) : Hp := fun b =>
  if b = Pt then some (.tbl #[]) else if b = a ∧ K.lookup a = none then some (.frz (scrO vs) (.lst (ns.map V.int))) else none
theorem hp0_tab : hp0 K a Pt vs ns Pt = some (.tbl #[]) := if_pos rfl
theorem hp0_only {b : Addr} {u : HO} (h : hp0 K a Pt vs ns b = some u) : (b = Pt ∧ u = .tbl #[]) ∨ (b = a ∧ K.lookup a = none ∧ u = .frz (scrO vs) (.lst (ns.map V.int))) := by
  unfold hp0 at h
  split at h
  · rename_i e; exact .inl ⟨e, (Option.some.inj h).symm⟩
  · split at h
    · rename_i e; exact .inr ⟨e.1, e.2, (Option.some.inj h).symm⟩
    · cases h
theorem hp0_free {b : Addr} {o : Obj} (hT : s.heap.get? Pt = some tabE) (ha : s.heap.get? a = some (scrO vs)) (e : s.heap.get? b = some o) (h1 : o.data ≠ .fields #[]) (h2 : ∀ xs n, o.data ≠ .seq xs n) : hp0 K a Pt vs ns b = none := by
  cases q : hp0 K a Pt vs ns b with
  | none => rfl
  | some u =>
    rcases hp0_only q with ⟨rfl, _⟩ | ⟨rfl, _, _⟩
    · rw [hT] at e; cases e; exact absurd rfl h1
    · rw [ha] at e; cases e; exact absurd rfl (h2 _ _)
theorem hp0_script (hs : s.heap.get? a = some (scrO vs)) (hT : s.heap.get? Pt = some tabE) (KX : K.In s.heap) (hi : IntsAre vs ns) (hl : ns.length ≤ sizeLine) : SqL K (hp0 K a Pt vs ns) a (ns.map V.int) := by
  cases hk : K.lookup a with
  | some o =>
    have e := KX _ _ hk
    rw [hs] at e
    cases e
    exact .inr ⟨_, vs.toArray, _, hk, rfl, rfl, rfl, by rw [List.size_toArray, hi.length]; exact hl, by simpa using vals_ints hi⟩
  | none =>
    have n : ¬ a = Pt := fun z => by rw [z, hT] at hs; cases hs
    exact .inl (.inr ⟨scrO vs, by unfold hp0; rw [if_neg n, if_pos ⟨rfl, hk⟩]⟩)
theorem hp0_ok (hs : s.heap.get? a = some (scrO vs)) (hT : s.heap.get? Pt = some tabE) (hi : IntsAre vs ns) (hl : ns.length ≤ sizeLine) : HOk P w (hp0 K a Pt vs ns) s.heap := fun b u q => by
  rcases hp0_only q with ⟨rfl, rfl⟩ | ⟨rfl, _, rfl⟩
  · exact hT
  · exact ⟨hs, by rw [List.length_map]; exact hl, vs, _, vals_ints hi, hs⟩
theorem end_call (KX : K.In s.heap) (hns : s.heap.Ns mainGlobals mg) (hb : s.heap.Ns builtinsNs mb) (hbb : ∀ x : Str, x ≠ "__name__" → mb x = bootBuiltins x) (hlim : s.heap.NoLimit) (hg : s.gens = #[])
    (hT : s.heap.get? Pt = some tabE) (nT : K.lookup Pt = none) (hC : PySem.W.CodeHd s.heap c Pt)
    (hbm : ∃ (bm : Addr) (ob : Obj), mg "__builtins__" = some (.ref bm) ∧ bm ≠ builtinsNs ∧ s.heap.get? bm = some ob ∧ ob.cls = .type "module" ∧ ob.dict = some builtinsNs ∧ ob.data = .plain)
    (ha : s.heap.get? a = some (scrO vs)) (hi : IntsAre vs ns) (hl : ns.length ≤ sizeLine)
    (F : ∀ (base : Heap) (H : Hp), Env0 P w K mg base callerA [] s H → K.In base → base.Ns mainGlobals mg → LamX.TabB base mg c Pt → H Pt = some (.tbl #[]) → SqL K H a (ns.map V.int) →
      codeAny (model P w) callerA (.call (.ref fa) ⟨[.ref a], []⟩) (CR CX0 [] P w H s (fun v _ => v = .bl true) E0) s) :
    codeAny (model P w) callerA (.call (.ref fa) ⟨[.ref a], []⟩) (fun r s' => r = .ok (.ret (.bool true)) ∧ OldK s.heap s'.heap ∧ s'.os = s.os ∧ AllBare s'.gens) s := by
  -- what stays in the ground
  have stay : ∀ {b : Addr} {o : Obj}, s.heap.get? b = some o → o.data ≠ .fields #[] → (∀ xs n, o.data ≠ .seq xs n) → (hidT s.heap (hp0 K a Pt vs ns)).get? b = some o := fun e h1 h2 => hidT_get e (hp0_free hT ha e h1 h2)
  have dicts : ∀ {b : Addr} {m : Str → Option Value}, s.heap.Ns b m → (hidT s.heap (hp0 K a Pt vs ns)).Ns b m := fun {b m} ⟨o, es, ep, e, d, r⟩ =>
    ⟨o, es, ep, stay e (fun z => by rw [d] at z; cases z) (fun xs n z => by rw [d] at z; cases z), d, r⟩
  have kin : K.In (hidT s.heap (hp0 K a Pt vs ns)) := fun b o e => hidT_get (KX b o e) (by
    cases q : hp0 K a Pt vs ns b with
    | none => rfl
    | some u =>
      rcases hp0_only q with ⟨z, _⟩ | ⟨z, k, _⟩
      · rw [z, nT] at e; cases e
      · rw [z, k] at e; cases e)
  have md : L2.Mod K mg (hidT s.heap (hp0 K a Pt vs ns)) := ⟨kin, dicts hns, ⟨mb, dicts hb, hbb⟩, let ⟨mc, q1, q2⟩ := hlim; ⟨mc, dicts q1, q2⟩⟩
  have e0 : Env0 P w K mg (hidT s.heap (hp0 K a Pt vs ns)) callerA [] s (hp0 K a Pt vs ns) :=
    ⟨rfl, md, fun _ _ e => of_hidT e, Nat.le_of_eq (hidT_size _ _), trivial, (fun b z => by cases z), hp0_ok ha hT hi hl, .of_eq hg⟩
  have tb : LamX.TabB (hidT s.heap (hp0 K a Pt vs ns)) mg c Pt := by
    refine ⟨?_, ?_, fun z => ?_⟩
    · obtain ⟨o, us, file, tf, flags, tg, inF, text, tt, q1, q2, q3, q4, q5⟩ := hC
      refine ⟨o, us, file, tf, flags, tg, inF, text, tt, stay q1 (fun z => ?_) (fun xs n z => ?_), q2, q3, q4, q5⟩
      · rw [q3] at z; cases z; simp at q4
      · rw [q3] at z; cases z
    · obtain ⟨bm, ob, q1, q2, q3, q4, q5, q6⟩ := hbm
      refine ⟨bm, ob, q1, q2, fun z => ?_, fun z => ?_, stay q3 (fun z => by rw [q6] at z; cases z) (fun xs n z => by rw [q6] at z; cases z), q4, q5, q6⟩
      · obtain ⟨o, es, ep, e, d, _⟩ := hns
        rw [z, e] at q3
        cases q3
        rw [d] at q6
        cases q6
      · rw [z, hT] at q3
        cases q3
        cases q6
    · obtain ⟨o, es, ep, e, d, _⟩ := hns
      rw [z, hT] at e
      cases e
      cases d
  refine codeAny_mono (F _ _ e0 kin (dicts hns) tb hp0_tab (hp0_script ha hT KX hi hl)) fun r s' h => ?_
  match r, h with
  | .error e, h => exact (show False from h).elim
  | .ok .next, h => exact False.elim h
  | .ok .brk, h => exact False.elim h
  | .ok .cont, h => exact False.elim h
  | .ok (.ret u), ⟨v, H', os, bare, un, ok', rv, ev⟩ =>
    have ev : v = .bl true := ev
    subst ev
    obtain rfl : u = Value.bool true := rv
    obtain ⟨more, grown⟩ := un.tbls Pt #[] hp0_tab
    have atP : s'.heap.get? Pt = some { cls := .none, data := .fields (#[] ++ more) } := ok' Pt _ grown
    have kept : ∀ b o, b ≠ Pt → s.heap.get? b = some o → s'.heap.get? b = some o := fun b o n e => by
      cases q : hp0 K a Pt vs ns b with
      | none => exact un.keep b o e q (by intro z; cases z) (by simp)
      | some u =>
        rcases hp0_only q with ⟨z, _⟩ | ⟨_, _, z⟩
        · exact absurd z n
        · rw [z] at q
          obtain ⟨f1, _⟩ := hp0_ok (P := P) (w := w) ha hT hi hl b _ q
          obtain ⟨f2, _⟩ := ok' b _ (un.frzs b _ _ q)
          rw [e] at f1
          cases f1
          exact f2
    refine ⟨rfl, ⟨fun b o e => ?_, fun b o e => ?_⟩, os, bare⟩
    · by_cases n : b = Pt
      · subst n
        rw [hT] at e
        cases e
        exact .inr (.inl ⟨(hC.tab hT).isCodeTable, rfl, #[], more, rfl, atP⟩)
      · exact .inl (kept b o n e)
    · by_cases n : b = Pt
      · rw [n]; exact ⟨_, atP⟩
      · exact ⟨o, kept b o n e⟩
end
end K41

set_option Elab.async false
set_option linter.all false
set_option maxRecDepth 100000
set_option maxHeartbeats 4000000
namespace K41
open PySem PySem.Spec PyProof.Rows L2
/-! ### the walk -/
/-- a code object's fields -/
structure CodeF (vs : Array Value) (Pt : Addr) : Prop where
  tab : vs[11]? = some (.ref Pt)
  rest : ∃ file tf flags tg inF text tt, vs.getD 18 .none = .str file tf ∧ vs.getD 7 .none = .int flags tg ∧ vs.getD 9 .none = .bool inF ∧ vs.getD 10 .none = .int text tt
/-- what stands behind the top, for law -/
structure LawF (P : Program) (K : PySem.W.Frag) (ts : List Addr) (mg : Str → Option Value) (fa : Addr) : Prop where
  law : ∃ (c Pt : Addr) (oc : Value) (od : Option Addr) (kV doc pm : Value) (an : Option Addr) (ct : Value) (osl : Array (Option Value)) (dd : Option Addr) (vs : Array Value) (sl : Array (Option Value)),
    K.lookup fa = some ⟨oc, od, .func (PySem.W.fnOf "law" "law" (defArgs xLaw) (defBody xLaw) (defScope xLaw) .none kV doc pm an (.ref c) ct), osl⟩ ∧ PySem.W.codeIn K (.ref c) "law" = true ∧
      K.lookup c = some ⟨.type "code", dd, .fields vs, sl⟩ ∧ CodeF vs Pt ∧ c ≠ Pt ∧ K.lookup Pt = none ∧ Pt ∈ ts
  all : ∃ C CB CS fI cc : Addr, Defs K mg C ∧ Bn mg ∧ DealC K mg C ∧ DealI K C ∧ BadTxt P K mg CB fI cc ∧ SumTxt K mg CB CS
theorem law_walk {l : PySem.W.OpenLaw} {q : Program} {loose : List Str} {XP : (Str → Option Value) → Heap → Prop} {YP : World → Heap → Prop} {d : DefRec} {K : Params → PySem.W.Frag} (hn : l.most = some 63) (hdf : d.params.defaults = [])
    {ts : List Addr} (hY : ∀ (w : World) (h : Heap), YP w h → (K w.params).In h) (hYt : ∀ (w : World) (h : Heap), YP w h → ∀ p ∈ ts, h.get? p = some tabE)
    (F : ∀ (w : World) (mg : Str → Option Value) (fa : Addr) (h : Heap), (K w.params).In h → h.Ns mainGlobals mg → mg d.name = some (.ref fa) → LawF l.prog (K w.params) ts mg fa) :
    PySem.W.WalkO q loose XP YP l.row.toRowW d [] (fun f vs => PySem.call f vs) := by
  refine Att.attach_callB hn hdf fun w s₀ s mg mb fa o pm cd doc a vs ns G Y ho hd hcd hmg hobj hints hlen hbits hg => ?_
  have KX := hY w _ Y
  have LF := F w mg fa _ KX G.T.g hmg
  obtain ⟨c, Pt, oc, od, kV, dc, pm', an, ct, osl, dd, us, sl, lk, hc, lc, CF, cP, nP, inT⟩ := LF.law
  obtain ⟨C, CB, CS, fI, cc, D, B, T, TI, TB, S⟩ := LF.all
  have hT := hYt w _ Y Pt inT
  have hC : PySem.W.CodeHd s.heap c Pt := by
    obtain ⟨file, tf, flags, tg, inF, text, tt, r1, r2, r3, r4⟩ := CF.rest
    refine ⟨_, us, file, tf, flags, tg, inF, text, tt, KX _ _ lc, rfl, rfl, CF.tab, ?_, r1, r2, r3, r4, cP⟩
    rw [Array.getD_eq_getD_getElem?, CF.tab]
    rfl
  refine end_call KX G.T.g G.T.b G.T.builtins G.T.nolimit hg hT nP hC G.T.bmain hobj hints (Nat.le_trans hlen (by rw [sizeLine_eq]; decide)) fun base H e0 kb gb tb hH hS => ?_
  exact law_at (cals_law D B T TI TB S) lk hc tb rfl ⟨rfl, by decide, by decide⟩ e0 (.of_eq rfl) hH hS hlen
end K41

set_option Elab.async false
set_option linter.all false
set_option maxRecDepth 100000
set_option maxHeartbeats 4000000
namespace K41
open PySem PySem.Spec PyProof.Rows L2
/-! ### what the written part says -/
theorem init_mk {K : PySem.W.Frag} {C f T : Addr} {oc tc : Value} {od an td : Option Addr} {osl tsl : Array (Option Value)} {kV doc pm cdv ct : Value} {tk : Tok} {n : Nat} (mk : PySem.W.makesIn K C = true) (a : PySem.W.findIn K (.ref C) "__init__" = some (some (.ref f))) (i : PySem.W.isFn K (.ref f) = true)
    (kc : PySem.W.keepIn K (.ref C) = true) (l : K.lookup f = some ⟨oc, od, .func (PySem.W.fnOf "__init__" "Deal.__init__" (defArgs xInit) (defBody xInit) (defScope xInit) (.ref T) kV doc pm an cdv ct), osl⟩) (c : PySem.W.codeIn K cdv "Deal.__init__" = true) (k : PySem.W.keepIn K (.ref f) = true)
    (t : K.lookup T = some ⟨tc, td, .seq #[.int 0 tk] n, tsl⟩) : InitM K C :=
  ⟨f, _, ⟨mk, a, i, kc⟩, ⟨oc, od, _, kV, doc, pm, an, cdv, ct, osl, rfl, l, c, .inr ⟨by simp, T, _, [.int 0 tk], n, rfl, t, rfl, .cons ⟨tk, rfl⟩ .nil⟩, .inl rfl⟩, k⟩
theorem bn_mk {K : PySem.W.Frag} {h : Heap} {mg : Str → Option Value} (X : K.In h) (G : h.Ns mainGlobals mg) (z1 : PySem.W.nsIn K mainGlobals "list" = some none) (z2 : PySem.W.nsIn K mainGlobals "int" = some none) (z3 : PySem.W.nsIn K mainGlobals "len" = some none)
    (z4 : PySem.W.nsIn K mainGlobals "range" = some none) (z5 : PySem.W.nsIn K mainGlobals "max" = some none) (z6 : PySem.W.nsIn K mainGlobals "min" = some none) (z7 : PySem.W.nsIn K mainGlobals "any" = some none) (z8 : PySem.W.nsIn K mainGlobals "isinstance" = some none)
    (z9 : PySem.W.nsIn K mainGlobals "bool" = some none) (z10 : PySem.W.nsIn K mainGlobals "repr" = some none) : Bn mg :=
  ⟨PySem.W.mg_none_of X G z1, PySem.W.mg_none_of X G z2, PySem.W.mg_none_of X G z3, PySem.W.mg_none_of X G z4, PySem.W.mg_none_of X G z5, PySem.W.mg_none_of X G z6, PySem.W.mg_none_of X G z7, PySem.W.mg_none_of X G z8, PySem.W.mg_none_of X G z9, PySem.W.mg_none_of X G z10⟩
theorem dealC_mk {K : PySem.W.Frag} {h : Heap} {mg : Str → Option Value} {C : Addr} (X : K.In h) (G : h.Ns mainGlobals mg) (aD : PySem.W.nsIn K mainGlobals "Deal" = some (some (.ref C))) (pg : PySem.W.plainGet K C Str.empty = true) (hd : PySem.W.hasDictIn K C = true) (po : PySem.W.plainOver K C = true)
    (sa : PySem.W.findIn K (.ref C) "__setattr__" = some (some (.builtin "object.__setattr__"))) (n1 : PySem.W.findIn K (.ref C) "houses" = some none) (n2 : PySem.W.findIn K (.ref C) "block" = some none) (n3 : PySem.W.findIn K (.ref C) "shift" = some none) : DealC K mg C :=
  ⟨⟨pg, hd, po, sa⟩, n1, n2, n3, PySem.W.mg_of X G aD⟩
theorem dealI_mk {K : PySem.W.Frag} {C : Addr} (o1 : PySem.W.kitOne K (.type "NoneType") (.ref C) = some false) (o2 : PySem.W.kitOne K (.type "bool") (.ref C) = some false) (o3 : PySem.W.kitOne K (.type "str") (.ref C) = some false) (o4 : PySem.W.kitOne K (.type "list") (.ref C) = some false)
    (o5 : PySem.W.kitOne K (.type "tuple") (.ref C) = some false) (o6 : PySem.W.kitOne K (.type "dict") (.ref C) = some false) (ha : PySem.W.findIn K (.ref C) "__class__" = some (some (.builtin "object.__class__")))
    (hn : PySem.W.specialIn K (.builtin "object.__class__") "__get__" = some (some (.builtin "getset_descriptor.__get__"))) (ht : PySem.W.takesIn K (.builtin "object.__class__") = some true) (hm : PySem.W.mroIn K C (.type "object") = some true) : DealI K C :=
  ⟨fun t ht => by
    simp only [oddTys, List.mem_cons, List.not_mem_nil, or_false] at ht
    rcases ht with rfl | rfl | rfl | rfl | rfl | rfl
    · exact o1
    · exact o2
    · exact o3
    · exact o4
    · exact o5
    · exact o6, ha, hn, ht, hm⟩
theorem exm_self {K : PySem.W.Frag} {S : Addr} (h1 : PySem.W.subIn K (.ref S) (.type "BaseException") = some true) (h2 : PySem.W.isClsIn K S = true) (h3 : PySem.W.typeIn K (.ref S) = some (.type "type")) (h4 : PySem.W.subIn K (.ref S) (.ref S) = some true) : PySem.W.exmOne K (.ref S) (.ref S) = some true := by
  have e1 : (PySem.W.subIn K (.ref S) (.type "BaseException") == some true) = true := by rw [h1] <;> rfl
  have e2 : ((PySem.W.clsIn K S).isSome && PySem.W.typeIn K (.ref S) == some (.type "type")) = true := by
    have h2' : (PySem.W.clsIn K S).isSome = true := h2
    rw [h2', h3] <;> rfl
  show (if (PySem.W.subIn K (.ref S) (.type "BaseException") == some true) = true then (if ((PySem.W.clsIn K S).isSome && PySem.W.typeIn K (.ref S) == some (.type "type")) = true then PySem.W.subIn K (.ref S) (.ref S) else none) else none) = some true
  rw [if_pos e1, if_pos e2]
  exact h4
theorem ei_of {K : PySem.W.Frag} {C N : Addr} {nm q : Str} {bs bm : List Value} {sn : List Str} {sub : List Value} {ab : Bool} {col : Option Bool} {dd : Option Addr} {m0 m1 m2 m3 m5 : Option Value}
    (xL : K.lookup C = some (excClassObj nm q C N bs bm true sn sub ab col dd m0 m1 m2 m3 m5 "ValueError.__new__")) (ht : PySem.W.excTail [.type "ValueError", .type "Exception", .type "BaseException", .type "object"] bm = true) :
    PySem.W.excInitIn K C [.type "ValueError", .type "Exception", .type "BaseException", .type "object"] "ValueError.__new__" = true := by
  unfold PySem.W.excInitIn
  rw [xL]
  simp [excClassObj, ht]
theorem bad_mk {P : Program} {K : PySem.W.Frag} {h : Heap} {mg : Str → Option Value} {C fI cc cd : Addr} (X : K.In h) (G : h.Ns mainGlobals mg) {nm q file : Str} {N : Addr} {bs bm : List Value} {sn : List Str} {sub : List Value} {ab : Bool} {col : Option Bool} {dd : Option Addr} {m0 m1 m2 m3 m5 : Option Value}
    {oc dc pm ct cdc : Value} {od an cdd : Option Addr} {osl cdsl : Array (Option Value)} {us : Array Value} {tf : Tok} {occ : Obj}
    (aC : PySem.W.nsIn K mainGlobals "BadValue" = some (some (.ref C))) (xL : K.lookup C = some (excClassObj nm q C N bs bm true sn sub ab col dd m0 m1 m2 m3 m5 "ValueError.__new__")) (rf : PySem.HandSPX.refsVE bm = true)
    (sa : PySem.W.findIn K (.ref C) "__setattr__" = some (some (.builtin "object.__setattr__"))) (ga : PySem.W.findIn K (.ref C) "__getattribute__" = some (some (.builtin "BaseException.__getattribute__"))) (gg : PySem.W.findIn K (.ref C) "__getattr__" = some none) (nv : PySem.W.findIn K (.ref C) "value" = some none)
    (a1 : PySem.W.findIn K (.ref C) "__init__" = some (some (.ref fI))) (t1 : PySem.W.typeIn K (.ref fI) = some (.type "function")) (kC : PySem.W.keepIn K (.ref C) = true) (eC : PySem.W.subIn K (.ref C) (.type "BaseException") = some true) (tC : PySem.W.typeIn K (.ref C) = some (.type "type"))
    (hC : PySem.W.hasDictIn K C = true) (iC : PySem.W.isClsIn K C = true) (sC : PySem.W.subIn K (.ref C) (.ref C) = some true) (sup : PySem.W.ks_superIn K C C "__init__" = some (some (.builtin "ValueError.__init__"))) (sV : PySem.W.subIn K (.ref C) (.type "ValueError") = some true)
    (ei : PySem.W.excTail [.type "ValueError", .type "Exception", .type "BaseException", .type "object"] bm = true) (nS : PySem.W.nsIn K mainGlobals "super" = some none) (nT : PySem.W.nsIn K cStatics "thirdparty.any" = some none)
    (l1 : K.lookup fI = some ⟨oc, od, .func (PySem.W.ksFn "__init__" "BadValue.__init__" (defArgs xBad) (defBody xBad) (defScope xBad) .none .none dc pm an (.ref cd) ct cc), osl⟩) (c1 : PySem.W.codeIn K (.ref cd) "BadValue.__init__" = true) (l2 : K.lookup cd = some ⟨cdc, cdd, .fields us, cdsl⟩)
    (v2 : us[2]? = some (.str file tf)) (fl : ((P.main.file : Str) == file) = true) (l3 : K.lookup cc = some occ) (d3 : occ.data = .cell (some (.ref C))) (tp : (P.main.scope.names.lookup ("super" : Str)).isSome = false) : BadTxt P K mg C fI cc :=
  { gC := PySem.W.mg_of X G aC, cls := ⟨nm, q, N, bs, bm, sn, sub, ab, col, dd, m0, m1, m2, m3, m5, xL, rf⟩, sa := sa, ga := ga, gg := gg, noN := nv, iC := a1, tC := t1, kC := kC, exC := eC, tyC := tC, hdC := hC, te := exm_self eC iC tC sC, sup := sup, subV := sV, subS := sC, ei := ei_of xL ei,
    noS := PySem.W.mg_none_of X G nS, noSt := nT, cell := ⟨occ, l3, d3⟩, fn := ⟨oc, od, dc, pm, an, cd, ct, osl, _, us, file, tf, l1, c1, l2, rfl, v2, fl⟩, top := tp }
theorem sum_mk {K : PySem.W.Frag} {h : Heap} {mg : Str → Option Value} {CB CS : Addr} (X : K.In h) (G : h.Ns mainGlobals mg) (aS : PySem.W.nsIn K mainGlobals "SumError" = some (some (.ref CS))) (cl : PySem.W.isClsIn K CB = true) (ga : PySem.W.findIn K (.ref CB) "__getattribute__" = some (some (.builtin "BaseException.__getattribute__")))
    (gg : PySem.W.findIn K (.ref CB) "__getattr__" = some none) (eB : PySem.W.subIn K (.ref CB) (.type "BaseException") = some true) (ha : PySem.W.findIn K (.ref CB) "__class__" = some (some (.builtin "object.__class__")))
    (hn : PySem.W.specialIn K (.builtin "object.__class__") "__get__" = some (some (.builtin "getset_descriptor.__get__"))) (ht : PySem.W.takesIn K (.builtin "object.__class__") = some true) (hm : PySem.W.mroIn K CB (.type "object") = some true) (kt : PySem.W.kitOne K (.ref CB) (.ref CS) = some true) : SumTxt K mg CB CS :=
  ⟨PySem.W.mg_of X G aS, cl, ga, gg, eB, ha, hn, ht, hm, kt⟩
theorem law_mk {K : PySem.W.Frag} {h : Heap} {mg : Str → Option Value} {fa f c Pt : Addr} {oc kV doc pm ct : Value} {od an dd : Option Addr} {osl sl : Array (Option Value)} {us : Array Value} (X : K.In h) (G : h.Ns mainGlobals mg) (hfa : mg "law" = some (.ref fa))
    (a : PySem.W.nsIn K mainGlobals "law" = some (some (.ref f))) (l : K.lookup f = some ⟨oc, od, .func (PySem.W.fnOf "law" "law" (defArgs xLaw) (defBody xLaw) (defScope xLaw) .none kV doc pm an (.ref c) ct), osl⟩) (hc : PySem.W.codeIn K (.ref c) "law" = true)
    (lc : K.lookup c = some ⟨.type "code", dd, .fields us, sl⟩) (cf : CodeF us Pt) (cP : c ≠ Pt) (nP : K.lookup Pt = none) {ts : List Addr} (inT : Pt ∈ ts) :
    ∃ (c Pt : Addr) (oc : Value) (od : Option Addr) (kV doc pm : Value) (an : Option Addr) (ct : Value) (osl : Array (Option Value)) (dd : Option Addr) (vs : Array Value) (sl : Array (Option Value)),
      K.lookup fa = some ⟨oc, od, .func (PySem.W.fnOf "law" "law" (defArgs xLaw) (defBody xLaw) (defScope xLaw) .none kV doc pm an (.ref c) ct), osl⟩ ∧ PySem.W.codeIn K (.ref c) "law" = true ∧ K.lookup c = some ⟨.type "code", dd, .fields vs, sl⟩ ∧ CodeF vs Pt ∧ c ≠ Pt ∧ K.lookup Pt = none ∧ Pt ∈ ts := by
  have e := hfa.symm.trans (PySem.W.mg_of X G a)
  cases e
  exact ⟨c, Pt, oc, od, kV, doc, pm, an, ct, osl, dd, us, sl, l, hc, lc, cf, cP, nP, inT⟩
end K41

open PySem PySem.W PyProof.Rows
set_option Elab.async false
set_option maxRecDepth 100000 in
set_option maxHeartbeats 0 in
theorem PySem.Challenge.cw_dealtsums_k41_whole_where_deals_part_holds : PySem.Challenge.rw_dealtsums_k41_whole_where_deals_part.Holds := by
  w_on; o_law; k_head; (case hw => w_witness2)
  k_fill
  refine K41.law_walk (l := PySem.Challenge.rw_dealtsums_k41_whole_where_deals_part) rfl rfl (fun w h Y => PySem.W.km_in_of Y) (fun w h Y => PySem.W.km_tabs_of Y) ?kq_F
  case kq_F =>
    intro w mg fa h KX G hmg
    refine' ⟨K41.law_mk KX G hmg ?kq_a ?kq_l ?kq_hc ?kq_lc ?kq_cf ?kq_cP ?kq_nP ?kq_inT, _, _, _, _, _, ?kq_defs, ?kq_bn, ?kq_dc, ?kq_di, ?kq_bad, ?kq_sum⟩
    (case kq_a => k_is); (case kq_l => k_is); (case kq_hc => k_is); (case kq_lc => k_is)
    (case kq_cf => exact ⟨rfl, _, _, _, _, _, _, _, rfl, rfl, rfl, rfl⟩)
    (case kq_cP => decide)
    (case kq_nP => first | k_is | rfl)
    (case kq_inT => simp)
    case kq_bn =>
      refine' K41.bn_mk KX G ?kq_z1 ?kq_z2 ?kq_z3 ?kq_z4 ?kq_z5 ?kq_z6 ?kq_z7 ?kq_z8 ?kq_z9 ?kq_z10
      (case kq_z1 => k_is); (case kq_z2 => k_is); (case kq_z3 => k_is); (case kq_z4 => k_is); (case kq_z5 => k_is); (case kq_z6 => k_is); (case kq_z7 => k_is); (case kq_z8 => k_is); (case kq_z9 => k_is); (case kq_z10 => k_is)
    case kq_dc =>
      refine' K41.dealC_mk KX G ?kq_aD ?kq_pg ?kq_hd ?kq_po ?kq_sa ?kq_n1 ?kq_n2 ?kq_n3
      (case kq_aD => k_is); (case kq_pg => k_is); (case kq_hd => k_is); (case kq_po => k_is); (case kq_sa => k_is); (case kq_n1 => k_is); (case kq_n2 => k_is); (case kq_n3 => k_is)
    case kq_di =>
      refine' K41.dealI_mk ?kq_o1 ?kq_o2 ?kq_o3 ?kq_o4 ?kq_o5 ?kq_o6 ?kq_ha ?kq_hn ?kq_ht ?kq_hm
      (case kq_o1 => first | k_is | kit_is); (case kq_o2 => first | k_is | kit_is); (case kq_o3 => first | k_is | kit_is); (case kq_o4 => first | k_is | kit_is); (case kq_o5 => first | k_is | kit_is); (case kq_o6 => first | k_is | kit_is); (case kq_ha => k_is); (case kq_hn => k_is); (case kq_ht => k_is); (case kq_hm => k_is)
    case kq_bad =>
      refine' K41.bad_mk KX G ?kq_aC ?kq_xL ?kq_rf ?kq_sa ?kq_ga ?kq_gg ?kq_nv ?kq_a1 ?kq_t1 ?kq_kC ?kq_eC ?kq_tC ?kq_hC ?kq_iC ?kq_sC ?kq_sup ?kq_sV ?kq_ei ?kq_nS ?kq_nT ?kq_l1 ?kq_c1 ?kq_l2 ?kq_v2 ?kq_fl ?kq_l3 ?kq_d3 ?kq_tp
      (case kq_aC => k_is); (case kq_xL => k_is); (case kq_rf => first | k_is | decide +kernel); (case kq_sa => k_is); (case kq_ga => k_is); (case kq_gg => k_is); (case kq_nv => k_is); (case kq_a1 => k_is); (case kq_t1 => k_is); (case kq_kC => k_is); (case kq_eC => k_is); (case kq_tC => k_is); (case kq_hC => k_is); (case kq_iC => k_is)
      (case kq_sC => first | k_is | rfl); (case kq_sup => first | k_is | rfl); (case kq_sV => k_is); (case kq_ei => first | k_is | decide +kernel); (case kq_nS => k_is); (case kq_nT => k_is); (case kq_l1 => k_is); (case kq_c1 => k_is); (case kq_l2 => k_is)
      (case kq_v2 => first | k_is | rfl); (case kq_fl => first | k_is | decide +kernel); (case kq_l3 => k_is); (case kq_d3 => first | k_is | rfl); (case kq_tp => first | k_is | decide +kernel)
    case kq_sum =>
      refine' K41.sum_mk KX G ?kq_aS ?kq_cl ?kq_ga ?kq_gg ?kq_eB ?kq_ha ?kq_hn ?kq_ht ?kq_hm ?kq_kt
      (case kq_aS => k_is); (case kq_cl => k_is); (case kq_ga => k_is); (case kq_gg => k_is); (case kq_eB => k_is); (case kq_ha => k_is); (case kq_hn => k_is); (case kq_ht => k_is); (case kq_hm => k_is); (case kq_kt => first | k_is | kit_is)
    case kq_defs =>
      refine' ⟨?kq_i0, ?kq_d0, ?kq_d1, ?kq_d2, ?kq_d3, ?kq_d4, ?kq_d5, ?kq_d6, ?kq_d7, ?kq_d8, ?kq_d9, ?kq_d10, ?kq_d11, ?kq_d12, ?kq_d13, ?kq_d14, ?kq_d15, ?kq_d16, ?kq_d17, ?kq_d18, ?kq_d19, ?kq_d20, ?kq_d21, ?kq_d22, ?kq_d23, ?kq_d24, ?kq_d25, ?kq_d26, ?kq_d27, ?kq_d28⟩
      (case kq_i0 => (refine' K41.init_mk ?kq_mk ?kq_a ?kq_i ?kq_kc ?kq_l ?kq_c ?kq_k ?kq_t; (case kq_mk => k_is); (case kq_a => k_is); (case kq_i => k_is); (case kq_kc => k_is); (case kq_l => k_is); (case kq_c => k_is); (case kq_k => k_is); (case kq_t => k_is)))
      (case kq_d0 => (refine' K41.def_mk KX G ?kq_a ?kq_l ?kq_c ?kq_k; (case kq_a => k_is); (case kq_l => k_is); (case kq_c => k_is); (case kq_k => k_is)))
      (case kq_d1 => (refine' K41.def_mk KX G ?kq_a ?kq_l ?kq_c ?kq_k; (case kq_a => k_is); (case kq_l => k_is); (case kq_c => k_is); (case kq_k => k_is)))
      (case kq_d2 => (refine' K41.def_mk KX G ?kq_a ?kq_l ?kq_c ?kq_k; (case kq_a => k_is); (case kq_l => k_is); (case kq_c => k_is); (case kq_k => k_is)))
      (case kq_d3 => (refine' K41.def_mk KX G ?kq_a ?kq_l ?kq_c ?kq_k; (case kq_a => k_is); (case kq_l => k_is); (case kq_c => k_is); (case kq_k => k_is)))
      (case kq_d4 => (refine' K41.def_mk KX G ?kq_a ?kq_l ?kq_c ?kq_k; (case kq_a => k_is); (case kq_l => k_is); (case kq_c => k_is); (case kq_k => k_is)))
      (case kq_d5 => (refine' K41.def_mk KX G ?kq_a ?kq_l ?kq_c ?kq_k; (case kq_a => k_is); (case kq_l => k_is); (case kq_c => k_is); (case kq_k => k_is)))
      (case kq_d6 => (refine' K41.def_mk KX G ?kq_a ?kq_l ?kq_c ?kq_k; (case kq_a => k_is); (case kq_l => k_is); (case kq_c => k_is); (case kq_k => k_is)))
      (case kq_d7 => (refine' K41.def_mk KX G ?kq_a ?kq_l ?kq_c ?kq_k; (case kq_a => k_is); (case kq_l => k_is); (case kq_c => k_is); (case kq_k => k_is)))
      (case kq_d8 => (refine' K41.def_mk KX G ?kq_a ?kq_l ?kq_c ?kq_k; (case kq_a => k_is); (case kq_l => k_is); (case kq_c => k_is); (case kq_k => k_is)))
      (case kq_d9 => (refine' K41.def_mk KX G ?kq_a ?kq_l ?kq_c ?kq_k; (case kq_a => k_is); (case kq_l => k_is); (case kq_c => k_is); (case kq_k => k_is)))
      (case kq_d10 => (refine' K41.def_mk KX G ?kq_a ?kq_l ?kq_c ?kq_k; (case kq_a => k_is); (case kq_l => k_is); (case kq_c => k_is); (case kq_k => k_is)))
      (case kq_d11 => (refine' K41.def_mk KX G ?kq_a ?kq_l ?kq_c ?kq_k; (case kq_a => k_is); (case kq_l => k_is); (case kq_c => k_is); (case kq_k => k_is)))
      (case kq_d12 => (refine' K41.def_mk KX G ?kq_a ?kq_l ?kq_c ?kq_k; (case kq_a => k_is); (case kq_l => k_is); (case kq_c => k_is); (case kq_k => k_is)))
      (case kq_d13 => (refine' K41.def_mk KX G ?kq_a ?kq_l ?kq_c ?kq_k; (case kq_a => k_is); (case kq_l => k_is); (case kq_c => k_is); (case kq_k => k_is)))
      (case kq_d14 => (refine' K41.def_mk KX G ?kq_a ?kq_l ?kq_c ?kq_k; (case kq_a => k_is); (case kq_l => k_is); (case kq_c => k_is); (case kq_k => k_is)))
      (case kq_d15 => (refine' K41.def_mk KX G ?kq_a ?kq_l ?kq_c ?kq_k; (case kq_a => k_is); (case kq_l => k_is); (case kq_c => k_is); (case kq_k => k_is)))
      (case kq_d16 => (refine' K41.def_mk KX G ?kq_a ?kq_l ?kq_c ?kq_k; (case kq_a => k_is); (case kq_l => k_is); (case kq_c => k_is); (case kq_k => k_is)))
      (case kq_d17 => (refine' K41.def_mk KX G ?kq_a ?kq_l ?kq_c ?kq_k; (case kq_a => k_is); (case kq_l => k_is); (case kq_c => k_is); (case kq_k => k_is)))
      (case kq_d18 => (refine' K41.def_mk KX G ?kq_a ?kq_l ?kq_c ?kq_k; (case kq_a => k_is); (case kq_l => k_is); (case kq_c => k_is); (case kq_k => k_is)))
      (case kq_d19 => (refine' K41.def_mk KX G ?kq_a ?kq_l ?kq_c ?kq_k; (case kq_a => k_is); (case kq_l => k_is); (case kq_c => k_is); (case kq_k => k_is)))
      (case kq_d20 => (refine' K41.def_mk KX G ?kq_a ?kq_l ?kq_c ?kq_k; (case kq_a => k_is); (case kq_l => k_is); (case kq_c => k_is); (case kq_k => k_is)))
      (case kq_d21 => (refine' K41.def_mk KX G ?kq_a ?kq_l ?kq_c ?kq_k; (case kq_a => k_is); (case kq_l => k_is); (case kq_c => k_is); (case kq_k => k_is)))
      (case kq_d22 => (refine' K41.def_mk KX G ?kq_a ?kq_l ?kq_c ?kq_k; (case kq_a => k_is); (case kq_l => k_is); (case kq_c => k_is); (case kq_k => k_is)))
      (case kq_d23 => (refine' K41.def_mk KX G ?kq_a ?kq_l ?kq_c ?kq_k; (case kq_a => k_is); (case kq_l => k_is); (case kq_c => k_is); (case kq_k => k_is)))
      (case kq_d24 => (refine' K41.def_mk KX G ?kq_a ?kq_l ?kq_c ?kq_k; (case kq_a => k_is); (case kq_l => k_is); (case kq_c => k_is); (case kq_k => k_is)))
      (case kq_d25 => (refine' K41.def_mk KX G ?kq_a ?kq_l ?kq_c ?kq_k; (case kq_a => k_is); (case kq_l => k_is); (case kq_c => k_is); (case kq_k => k_is)))
      (case kq_d26 => (refine' K41.def_mk KX G ?kq_a ?kq_l ?kq_c ?kq_k; (case kq_a => k_is); (case kq_l => k_is); (case kq_c => k_is); (case kq_k => k_is)))
      (case kq_d27 => (refine' K41.def_mk KX G ?kq_a ?kq_l ?kq_c ?kq_k; (case kq_a => k_is); (case kq_l => k_is); (case kq_c => k_is); (case kq_k => k_is)))
      (case kq_d28 => (refine' K41.def_mk KX G ?kq_a ?kq_l ?kq_c ?kq_k; (case kq_a => k_is); (case kq_l => k_is); (case kq_c => k_is); (case kq_k => k_is)))
