/-
  laws.FnTerms: the card, by a typed machine over the code
-/
import Derived.WalkKit
import Derived.ProofKit
import Derived.OpenShut
import Derived.ChangeOld
import Derived.SizedLaws
import Derived.Carry
import Derived.Lib.LaidTab
import Derived.Test.YtmblkopilcginaaDoorRows
import Derived.Test.YtmblkopilcginaaDoorCards
import Derived.Test.YtmblkopilcginaaDoorTie
import Derived.Stop.LaidErr
import Derived.MakeChecks
import Derived.LaidMore
import Derived.Lay
import Derived.Test.YtmblkopilcginaaDoorTrm3
set_option linter.unusedVariables false
set_option linter.unusedSimpArgs false
set_option linter.unusedSectionVars false
namespace Go.Vm
open Go.Proofs


theorem L38_5_ok (k B : Nat) (hB : B ≤ 10000000) (v2 v2_1 v2_2 l l_1 l_2 : ByteArray) (h1 : l.size ≤ 100) (h2 : l_1.size ≤ 100) (h3 : l_2.size ≤ 100) (l_3 : List Term) (h4 : l_3.length ≤ 100) (h5 : ∀ x ∈ l_3, bndT 100 x) :
    ∀ (n : Nat) (vn : Int) (c : Cur) (l_4 : List Rule) (b : Nat), 0 ≤ vn → vn < n → (l_4.length : Int) + vn ≤ 50 → (∀ x ∈ l_4, bndR 100 x) → ok b c → (b : Int) + 6 * vn ≤ B →
    Dr (bndL 100) B (L38_5 k n vn c.1 c.2.1 c.2.2.1 v2 v2_1 v2_2 l l_1 l_2 l_3 l_4) := by
  intro n
  induction n with
  | zero => intro vn c l_4 b a1 a2; omega
  | succ n ih =>
    intro vn c l_4 b a1 a2 a3 a4 a5 a6
    rw [L38_5_eq]
    by_cases hv : vn > 0
    · rw [if_pos (by simpa using hv)]
      refine Pst.bind (pick_ok k (c := c) a5 (by omega) 12 (by omega)) fun r1 ⟨w1, o1⟩ => ?_
      refine Pst.bind (pick_ok k (c := r1.2.1) o1 (by omega) _ (by rw [w64 (by omega) (by omega)]; omega)) fun r2 ⟨w2, o2⟩ => ?_
      refine Pst.bind (of_ok k (c := r2.2.1) o2 (by omega) _ (by decide) (by decide) (by decide)) fun r3 ⟨w3, o3⟩ => ?_
      rw [if_pos (by simp; omega), w64 (n := vn - 1) (by omega) (by omega)]
      refine ih (vn - 1) r3.2.1 _ (b + 6) (by omega) (by omega) (by simp; omega) (fun x hx => ?_) (o3.mono (by omega)) (by omega)
      rcases List.mem_append.1 hx with h | h
      · exact a4 x h
      · rw [List.mem_singleton.1 h]; exact w3
    · rw [if_neg (by simpa using hv)]
      exact .some ⟨bndL_of h1 (by exact h4) (by show l_4.length ≤ 100; omega) h2 h3 (by exact h5) a4, a5.mono (by omega)⟩


theorem L38_4_ok (k B : Nat) (hB : B ≤ 10000000) (v2 v2_1 v2_2 l l_1 l_2 : ByteArray) (h1 : l.size ≤ 100) (h2 : l_1.size ≤ 100) (h3 : l_2.size ≤ 100) :
    ∀ (n : Nat) (vn : Int) (c : Cur) (l_4 : List Rule) (b : Nat), 0 ≤ vn → vn < n → (l_4.length : Int) + vn ≤ 50 → (∀ x ∈ l_4, bndR 100 x) → ok b c → (b : Int) + 6 * vn ≤ B →
    Dr (bndL 100) B (L38_4 k n vn c.1 c.2.1 c.2.2.1 v2 v2_1 v2_2 l l_1 l_2 l_4) := by
  intro n
  induction n with
  | zero => intro vn c l_4 b a1 a2; omega
  | succ n ih =>
    intro vn c l_4 b a1 a2 a3 a4 a5 a6
    rw [L38_4_eq]
    by_cases hv : vn > 0
    · rw [if_pos (by simpa using hv)]
      refine Pst.bind (pick_ok k (c := c) a5 (by omega) 12 (by omega)) fun r1 ⟨w1, o1⟩ => ?_
      refine Pst.bind (pick_ok k (c := r1.2.1) o1 (by omega) _ (by rw [w64 (by omega) (by omega)]; omega)) fun r2 ⟨w2, o2⟩ => ?_
      refine Pst.bind (of_ok k (c := r2.2.1) o2 (by omega) _ (by decide) (by decide) (by decide)) fun r3 ⟨w3, o3⟩ => ?_
      rw [if_pos (by simp; omega), w64 (n := vn - 1) (by omega) (by omega)]
      refine ih (vn - 1) r3.2.1 _ (b + 6) (by omega) (by omega) (by simp; omega) (fun x hx => ?_) (o3.mono (by omega)) (by omega)
      rcases List.mem_append.1 hx with h | h
      · exact a4 x h
      · rw [List.mem_singleton.1 h]; exact w3
    · rw [if_neg (by simpa using hv)]
      exact .some ⟨bndL_of h1 (by simp) (by show l_4.length ≤ 100; omega) h2 h3 (by intro x h; cases h) a4, a5.mono (by omega)⟩


theorem L38_3_ok (k B : Nat) (hB : B ≤ 10000000) (v2 v2_1 v2_2 l l_1 l_2 : ByteArray) (h1 : l.size ≤ 100) (h2 : l_1.size ≤ 100) (h3 : l_2.size ≤ 100) (l_3 : List Term) (h4 : l_3.length ≤ 100) (h5 : ∀ x ∈ l_3, bndT 100 x) :
    ∀ (n : Nat) (vn : Int) (c : Cur) (b : Nat), 0 ≤ vn → vn < n → vn ≤ 50 → ok b c → (b : Int) + 6 * vn ≤ B →
    Dr (bndL 100) B (L38_3 k n vn c.1 c.2.1 c.2.2.1 v2 v2_1 v2_2 l l_1 l_2 l_3) := by
  intro n
  cases n with
  | zero => intro vn c b a1 a2; omega
  | succ n =>
    intro vn c b a1 a2 a3 a5 a6
    rw [L38_3_eq]
    by_cases hv : vn > 0
    · rw [if_pos (by simpa using hv)]
      refine Pst.bind (pick_ok k (c := c) a5 (by omega) 12 (by omega)) fun r1 ⟨w1, o1⟩ => ?_
      refine Pst.bind (pick_ok k (c := r1.2.1) o1 (by omega) _ (by rw [w64 (by omega) (by omega)]; omega)) fun r2 ⟨w2, o2⟩ => ?_
      refine Pst.bind (of_ok k (c := r2.2.1) o2 (by omega) _ (by decide) (by decide) (by decide)) fun r3 ⟨w3, o3⟩ => ?_
      rw [if_pos (by simp), w64 (n := vn - 1) (by omega) (by omega)]
      refine L38_5_ok k B hB _ _ _ _ _ _ h1 h2 h3 _ h4 h5 n (vn - 1) r3.2.1 _ (b + 6) (by omega) (by omega) (by simp; omega) (fun x hx => ?_) (o3.mono (by omega)) (by omega)
      rw [List.mem_singleton.1 hx]; exact w3
    · rw [if_neg (by simpa using hv)]
      exact .some ⟨bndL_of h1 (by exact h4) (by simp) h2 h3 (by exact h5) (by intro x h; cases h), a5.mono (by omega)⟩


theorem L38_2_ok (k B : Nat) (hB : B ≤ 10000000) (v2 v2_1 v2_2 l l_1 l_2 : ByteArray) (h1 : l.size ≤ 100) (h2 : l_1.size ≤ 100) (h3 : l_2.size ≤ 100) :
    ∀ (n : Nat) (vn : Int) (c : Cur) (b : Nat), 0 ≤ vn → vn < n → vn ≤ 50 → ok b c → (b : Int) + 6 * vn ≤ B →
    Dr (bndL 100) B (L38_2 k n vn c.1 c.2.1 c.2.2.1 v2 v2_1 v2_2 l l_1 l_2) := by
  intro n
  cases n with
  | zero => intro vn c b a1 a2; omega
  | succ n =>
    intro vn c b a1 a2 a3 a5 a6
    rw [L38_2_eq]
    by_cases hv : vn > 0
    · rw [if_pos (by simpa using hv)]
      refine Pst.bind (pick_ok k (c := c) a5 (by omega) 12 (by omega)) fun r1 ⟨w1, o1⟩ => ?_
      refine Pst.bind (pick_ok k (c := r1.2.1) o1 (by omega) _ (by rw [w64 (by omega) (by omega)]; omega)) fun r2 ⟨w2, o2⟩ => ?_
      refine Pst.bind (of_ok k (c := r2.2.1) o2 (by omega) _ (by decide) (by decide) (by decide)) fun r3 ⟨w3, o3⟩ => ?_
      rw [if_pos (by simp), w64 (n := vn - 1) (by omega) (by omega)]
      refine L38_4_ok k B hB _ _ _ _ _ _ h1 h2 h3 n (vn - 1) r3.2.1 _ (b + 6) (by omega) (by omega) (by simp; omega) (fun x hx => ?_) (o3.mono (by omega)) (by omega)
      rw [List.mem_singleton.1 hx]; exact w3
    · rw [if_neg (by simpa using hv)]
      exact .some ⟨bndL_of h1 (by simp) (by simp) h2 h3 (by intro x h; cases h) (by intro x h; cases h), a5.mono (by omega)⟩


theorem L38_1_ok (k B : Nat) (hB : B ≤ 10000000) (hk : 100 ≤ k) (v2 v2_1 v2_2 l l_1 l_2 : ByteArray) (h1 : l.size ≤ 100) (h2 : l_1.size ≤ 100) (h3 : l_2.size ≤ 100) (all : List Term) (ha : all.length ≤ 4) (hall : ∀ x ∈ all, bndT 100 x) :
    ∀ (n i : Nat) (c : Cur) (l_3 : List Term) (b : Nat), i ≤ all.length → all.length < n + i → l_3.length ≤ i → (∀ x ∈ l_3, bndT 100 x) → ok b c → b + 2 * (all.length - i) + 30 ≤ B →
    Dr (bndL 100) B (L38_1 k n i c.1 c.2.1 c.2.2.1 v2 v2_1 v2_2 l l_1 l_2 all l_3) := by
  intro n
  induction n with
  | zero => intro i c l_3 b a1 a2; omega
  | succ n ih =>
    intro i c l_3 b a1 a2 a3 a4 a5 a6
    rw [L38_1_eq]
    by_cases hi : i < all.length
    · rw [if_pos (by simpa using hi)]
      have hg : bndT 100 (all.getD i dTerm) := by
        rw [List.getD_eq_getElem?_getD, List.getElem?_eq_getElem hi]
        exact hall _ (List.getElem_mem hi)
      refine Pst.bind (one_ok k (c := c) a5 (by omega) 3 (by omega)) fun r1 ⟨_, o1⟩ => ?_
      rw [wsucc (by omega), Int.toNat_natCast]
      split
      · rw [if_pos (by omega), if_pos (by omega), if_pos (by simp; omega)]
        refine ih (i + 1) r1.2.1 _ (b + 2) (by omega) (by omega) (by simp; omega) (fun x hx => ?_) (o1.mono (by omega)) (by omega)
        rcases List.mem_append.1 hx with h | h
        · exact a4 x h
        · rw [List.mem_singleton.1 h]; exact hg
      · exact ih (i + 1) r1.2.1 l_3 (b + 2) (by omega) (by omega) (by omega) a4 (o1.mono (by omega)) (by omega)
    · rw [if_neg (by simpa using hi)]
      refine Pst.bind (pick_ok k (c := c) a5 (by omega) 3 (by omega)) fun r2 ⟨w2, o2⟩ => ?_
      split
      · exact .some ⟨bndL_of h1 (by show l_3.length ≤ 100; omega) (by simp) h2 h3 (by exact a4) (by unfold bndR; dsimp only; decide), o2.mono (by omega)⟩
      split
      · exact .some ⟨bndL_of h1 (by show l_3.length ≤ 100; omega) (by simp) h2 h3 (by exact a4) (by unfold bndR; dsimp only; decide), o2.mono (by omega)⟩
      refine Pst.bind (pick_ok k (c := r2.2.1) o2 (by omega) 4 (by omega)) fun r3 ⟨w3, o3⟩ => ?_
      exact L38_3_ok k B hB _ _ _ _ _ _ h1 h2 h3 _ (by omega) a4 k r3.1.1 r3.2.1 _ (by omega) (by omega) (by omega) o3 (by omega)


theorem L38_0_ok (k B : Nat) (hB : B ≤ 10000000) (hk : 100 ≤ k) (v2 v2_1 v2_2 l l_1 l_2 : ByteArray) (h1 : l.size ≤ 100) (h2 : l_1.size ≤ 100) (h3 : l_2.size ≤ 100) (all : List Term) (ha : all.length ≤ 4) (hall : ∀ x ∈ all, bndT 100 x) :
    ∀ (n i : Nat) (c : Cur) (b : Nat), i ≤ all.length → all.length < n + i → ok b c → b + 2 * (all.length - i) + 30 ≤ B →
    Dr (bndL 100) B (L38_0 k n i c.1 c.2.1 c.2.2.1 v2 v2_1 v2_2 l l_1 l_2 all) := by
  intro n
  induction n with
  | zero => intro i c b a1 a2; omega
  | succ n ih =>
    intro i c b a1 a2 a5 a6
    rw [L38_0_eq]
    by_cases hi : i < all.length
    · rw [if_pos (by simpa using hi)]
      have hg : bndT 100 (all.getD i dTerm) := by
        rw [List.getD_eq_getElem?_getD, List.getElem?_eq_getElem hi]
        exact hall _ (List.getElem_mem hi)
      refine Pst.bind (one_ok k (c := c) a5 (by omega) 3 (by omega)) fun r1 ⟨_, o1⟩ => ?_
      rw [wsucc (by omega), Int.toNat_natCast]
      split
      · rw [if_pos (by omega), if_pos (by omega), if_pos (by simp)]
        refine L38_1_ok k B hB hk _ _ _ _ _ _ h1 h2 h3 all ha hall n (i + 1) r1.2.1 _ (b + 2) (by omega) (by omega) (by simp) (fun x hx => ?_) (o1.mono (by omega)) (by omega)
        rw [List.mem_singleton.1 hx]; exact hg
      · exact ih (i + 1) r1.2.1 (b + 2) (by omega) (by omega) (o1.mono (by omega)) (by omega)
    · rw [if_neg (by simpa using hi)]
      refine Pst.bind (pick_ok k (c := c) a5 (by omega) 3 (by omega)) fun r2 ⟨w2, o2⟩ => ?_
      split
      · exact .some ⟨bndL_of h1 (by simp) (by simp) h2 h3 (by intro x h; cases h) (by unfold bndR; dsimp only; decide), o2.mono (by omega)⟩
      split
      · exact .some ⟨bndL_of h1 (by simp) (by simp) h2 h3 (by intro x h; cases h) (by unfold bndR; dsimp only; decide), o2.mono (by omega)⟩
      refine Pst.bind (pick_ok k (c := r2.2.1) o2 (by omega) 4 (by omega)) fun r3 ⟨w3, o3⟩ => ?_
      exact L38_2_ok k B hB _ _ _ _ _ _ h1 h2 h3 k r3.1.1 r3.2.1 _ (by omega) (by omega) (by omega) o3 (by omega)


theorem locale_ok (k : Nat) (hk : 100 ≤ k) {b : Nat} {c : Cur} (h : ok b c) (hb : b ≤ 1000000) : Dr (bndL 100) (b + 50) (G38 k c) := by
  rw [G38_eq]
  refine Pst.bind (of_ok k (c := c) h (by omega) _ (by decide) (by decide) (by decide)) fun r1 ⟨w1, o1⟩ => ?_
  refine Pst.bind (of_ok k (c := r1.2.1) o1 (by omega) _ (by decide) (by decide) (by decide)) fun r2 ⟨w2, o2⟩ => ?_
  refine Pst.bind (of_ok k (c := r2.2.1) o2 (by omega) _ (by decide) (by decide) (by decide)) fun r3 ⟨w3, o3⟩ => ?_
  exact L38_0_ok k (b + 50) (by omega) hk _ _ _ _ _ _ w1 w2 w3 _ (by decide) (by unfold bndT; decide) k 0 r3.2.1 _ (by omega) (by simp; omega) o3 (by simp)

theorem anyLocale_ok (k : Nat) (hk : 100 ≤ k) {b : Nat} {c : Cur} (h : ok b c) (hb : b ≤ 1000000) : Dr (bndL 101) (b + 60) (G20 k c) := by
  rw [G20_eq]
  refine Pst.bind (locale_ok k hk (c := c) h (by omega)) fun r1 ⟨w1, o1⟩ => ?_
  obtain ⟨b1, b2, b3, b4, b5, b6, b7⟩ := w1
  have b6' : ∀ x ∈ r1.1.1.2.1, bndT 101 x := bndT_mem fun i hi => by have := b6 i hi; unfold bndT at *; omega
  have b7' : ∀ x ∈ r1.1.1.2.2.1, bndR 101 x := by
    intro x hx
    obtain ⟨i, hi, rfl⟩ := List.mem_iff_getElem.1 hx
    have := b7 i hi
    unfold bndR at *
    rw [List.getD_eq_getElem?_getD, List.getElem?_eq_getElem hi] at this
    exact Nat.le_trans this (by omega)
  refine Pst.bind (pick_ok k (c := r1.2.1) o1 (by omega) 40 (by omega)) fun r2 ⟨w2, o2⟩ => ?_
  split
  · refine Pst.bind (of_ok k (c := r2.2.1) o2 (by omega) _ (by decide) (by decide) (by decide)) fun r3 ⟨w3, o3⟩ => ?_
    exact .some ⟨bndL_of (Nat.le_succ_of_le w3) (by show r1.1.1.2.1.length ≤ 101; omega) (by show r1.1.1.2.2.1.length ≤ 101; omega) (Nat.le_succ_of_le b4) (Nat.le_succ_of_le b5) b6' b7', o3.mono (by omega)⟩
  split
  · refine Pst.bind (of_ok k (c := r2.2.1) o2 (by omega) _ (by decide) (by decide) (by decide)) fun r3 ⟨w3, o3⟩ => ?_
    refine Pst.bind (of_ok k (c := r3.2.1) o3 (by omega) _ (by decide) (by decide) (by decide)) fun r4 ⟨w4, o4⟩ => ?_
    rw [if_pos (by simp; omega)]
    refine .some ⟨bndL_of (Nat.le_succ_of_le b1) (by simp; omega) (by show r1.1.1.2.2.1.length ≤ 101; omega) (Nat.le_succ_of_le b4) (Nat.le_succ_of_le b5) (fun x hx => ?_) b7', o4.mono (by omega)⟩
    rcases List.mem_append.1 hx with h | h
    · exact b6' x h
    · rw [List.mem_singleton.1 h]
      exact ⟨Nat.le_succ_of_le w3, (by decide : (⟨#[120]⟩ : ByteArray).size ≤ 101), Nat.le_succ_of_le w4⟩
  split
  · refine Pst.bind (among_ok k (c := r2.2.1) o2 (by omega) _ (by decide) (by decide)) fun r3 ⟨w3, o3⟩ => ?_
    refine Pst.bind (among_ok k (c := r3.2.1) o3 (by omega) _ (by decide) (by decide)) fun r4 ⟨w4, o4⟩ => ?_
    refine Pst.bind (of_ok k (c := r4.2.1) o4 (by omega) _ (by decide) (by decide) (by decide)) fun r5 ⟨w5, o5⟩ => ?_
    rw [if_pos (by simp; omega)]
    refine .some ⟨bndL_of (Nat.le_succ_of_le b1) (by show r1.1.1.2.1.length ≤ 101; omega) (by simp; omega) (Nat.le_succ_of_le b4) (Nat.le_succ_of_le b5) b6' (fun x hx => ?_), o5.mono (by omega)⟩
    rcases List.mem_append.1 hx with h | h
    · exact b7' x h
    · rw [List.mem_singleton.1 h]
      exact Nat.le_succ_of_le w5
  split
  · exact .some ⟨bndL_of (Nat.le_succ_of_le b1) (by show r1.1.1.2.1.length ≤ 101; omega) (by show r1.1.1.2.2.1.length ≤ 101; omega) (by show (⟨#[]⟩ : ByteArray).size ≤ 101; decide) (Nat.le_succ_of_le b5) b6' b7', o2.mono (by omega)⟩
  · exact .some ⟨bndL_of (Nat.le_succ_of_le b1) (by show r1.1.1.2.1.length ≤ 101; omega) (by show r1.1.1.2.2.1.length ≤ 101; omega) (Nat.le_succ_of_le b4) (Nat.le_succ_of_le b5) b6' b7', o2.mono (by omega)⟩

end Go.Vm

namespace Go.Vm
open Go.Proofs

/-! ### Words -/
theorem scan_true (p : Nat → Bool) : ∀ n i j, i ≤ j → j < scan p n i → p j = true
  | 0, i, j => by simp only [scan]; omega
  | n + 1, i, j => by
    unfold scan
    split
    · rename_i h
      intro h1 h2
      by_cases e : j = i
      · subst e; exact h
      · exact scan_true p n (i + 1) j (by omega) h2
    · omega

theorem scan_false (p : Nat → Bool) : ∀ n i, scan p n i < i + n → p (scan p n i) = false
  | 0, i => by simp only [scan]; omega
  | n + 1, i => by
    unfold scan
    split
    · intro h
      exact scan_false p n (i + 1) (by omega)
    · rename_i h
      intro _
      simpa using h

theorem scan_is (p : Nat → Bool) (n m : Nat) (h1 : ∀ j, j < m → p j = true) (h2 : p m = false) (h3 : m < n) : scan p n 0 = m := by
  have a := scan_ge p n 0
  have b := scan_le p n 0
  rcases Nat.lt_trichotomy (scan p n 0) m with h | h | h
  · have := h1 _ h
    rw [scan_false p n 0 (by omega)] at this
    cases this
  · exact h
  · have := scan_true p n 0 m (by omega) h
    rw [h2] at this
    cases this

def other (key : ByteArray) (ts : List Term) (i : Nat) : Bool := !sEq (ts.getD i dTerm).1 key
def fidx (ts : List Term) (key : ByteArray) : Int := if scan (other key ts) ts.length 0 < ts.length then (scan (other key ts) ts.length 0 : Nat) else -1
def isNum (n : Int) : Bool := decide (0 ≤ n) && decide (n ≤ 999999)
def textOf (t : Term) (n : Int) : ByteArray := if n = 1 then t.2.1 else t.2.2.1
def noText : ByteArray × Bool × Unit := ((⟨#[]⟩ : ByteArray), false, ())
def termFor (l : Locale) (key : ByteArray) (n : Int) : ByteArray × Bool × Unit :=
  if good l = true ∧ isNum n = true ∧ 0 ≤ fidx l.2.1 key then (textOf (l.2.1.getD (fidx l.2.1 key).toNat dTerm) n, true, ()) else noText

theorem fidx_lt (ts : List Term) (key : ByteArray) : fidx ts key < ts.length := by unfold fidx; split <;> omega
theorem fidx_ge (ts : List Term) (key : ByteArray) : -1 ≤ fidx ts key := by unfold fidx; split <;> omega

section
variable (k : Nat) (hk : 1048577 ≤ k) (hk2 : k ≤ 9223372036854775806)
include hk hk2

theorem G26_ok (l : Locale) (key : ByteArray) (hl : l.2.1.length ≤ 1048576) : G26 k l key = some (fidx l.2.1 key, ()) := by
  rw [G26_eq, G53_eq]
  have h := loop_scan (fun n i => L53_0 k n l.2.1 (l.2.1.length : Int) i key) l.2.1.length (other key l.2.1)
    (fun j => some (((if j < l.2.1.length then (j : Int) else -1), ()), ((key, ()), ()))) ?_ ?_ ?_ k 0 (Nat.zero_le _) (by omega)
  · have h' : L53_0 k k l.2.1 (l.2.1.length : Int) 0 key = _ := h
    show ((L53_0 k k l.2.1 (l.2.1.length : Int) 0 key).bind _) = _
    rw [h']
    rfl
  · intro n i hi hp
    show L53_0 k (n + 1) l.2.1 _ i key = _
    rw [L53_0_eq, Int.toNat_natCast, G54_eq]
    unfold other at hp
    grind [wsucc]
  · intro n i hi hp
    show L53_0 k (n + 1) l.2.1 _ i key = _
    rw [L53_0_eq, Int.toNat_natCast, G54_eq]
    unfold other at hp
    grind
  · intro n
    show L53_0 k (n + 1) l.2.1 _ _ key = _
    rw [L53_0_eq]; grind

theorem G41_ok (l : Locale) (key : ByteArray) (hl : l.2.1.length ≤ 1048576) : G41 k l key = some (fidx l.2.1 key, ()) := by
  rw [G41_eq]
  have h := loop_scan (fun n i => L41_0 k n key i l.1 l.2.1 l.2.2.1 l.2.2.2.1 l.2.2.2.2.1) l.2.1.length (other key l.2.1)
    (fun j => some ((if j < l.2.1.length then (j : Int) else -1), ())) ?_ ?_ ?_ k 0 (Nat.zero_le _) (by omega)
  · exact h
  · intro n i hi hp
    show L41_0 k (n + 1) key i _ _ _ _ _ = _
    rw [L41_0_eq, Int.toNat_natCast]
    unfold other at hp
    grind [wsucc]
  · intro n i hi hp
    show L41_0 k (n + 1) key i _ _ _ _ _ = _
    rw [L41_0_eq, Int.toNat_natCast]
    unfold other at hp
    grind
  · intro n
    show L41_0 k (n + 1) key _ _ _ _ _ _ = _
    rw [L41_0_eq]; grind

omit hk hk2 in
theorem G27_ok (n : Int) : G27 k n = some (isNum n, ()) := by rw [G27_eq, G55_ok]; rfl

omit hk hk2 in
theorem G28_ok (l : Locale) (i n : Int) (h0 : 0 ≤ i) (h1 : i < l.2.1.length) : G28 k l i n = some (textOf (l.2.1.getD i.toNat dTerm) n, ()) := by
  rw [G28_eq]; unfold textOf; grind

omit hk hk2 in
theorem G42_ok (t : Term) (n : Int) : G42 k t n = some (textOf t n, ()) := by
  rw [G42_eq]; unfold textOf; grind

theorem G8_ok (l : Locale) (key : ByteArray) (n : Int) (hb : bndL 1048576 l) : G8 k l key n = some (termFor l key n) := by
  rw [G8_eq, G26_ok k hk hk2 l key hb.2.1, G10_ok k hk hk2 l hb, G27_ok]
  have h1 := fidx_lt l.2.1 key
  have h2 := G28_ok k l (fidx l.2.1 key) n
  unfold termFor noText
  grind

theorem G45_ok (l : Locale) (key : ByteArray) (n : Int) (hb : bndL 1048576 l) : G45 k l key n = some (termFor l key n) := by
  rw [G45_eq, G41_ok k hk hk2 l key hb.2.1, G24_ok k hk hk2 l hb, G40_ok]
  simp only [Option.bind_some]
  have h1 := fidx_lt l.2.1 key
  have h2 := G42_ok k
  unfold termFor noText isNum
  grind

/-! ### A fallback -/
omit hk hk2 in
theorem dummy : True := trivial
end

def allL (ls : List Locale) : Bool := (List.range' 0 ls.length).all (fun j => good (ls.getD j dLocale))
def lacks (key : ByteArray) (ls : List Locale) (i : Nat) : Bool := decide (fidx (ls.getD i dLocale).2.1 key < 0)
def noFall : ByteArray × Int × Bool × Unit := ((⟨#[]⟩ : ByteArray), (0 : Int), false, ())
def fallAt (ls : List Locale) (key : ByteArray) (n : Int) (i : Nat) : ByteArray × Int × Bool × Unit :=
  if i < ls.length then (textOf ((ls.getD i dLocale).2.1.getD (fidx (ls.getD i dLocale).2.1 key).toNat dTerm) n, (i : Int), true, ()) else noFall
def fallback (ls : List Locale) (key : ByteArray) (n : Int) : ByteArray × Int × Bool × Unit :=
  if ls.length ≤ 5 ∧ isNum n = true ∧ allL ls = true then fallAt ls key n (scan (lacks key ls) ls.length 0) else noFall

section
variable (k : Nat) (hk : 1048577 ≤ k) (hk2 : k ≤ 9223372036854775806)
include hk hk2

theorem G29_ok (ls : List Locale) (hr : ls.length ≤ 1048576) (hb : ∀ i, i < ls.length → bndL 1048576 (ls.getD i dLocale)) :
    G29 k ls = some (!allL ls, ()) := by
  rw [G29_eq, G56_eq]
  have h := loop_scan (fun n i => (L56_0 k n ls (ls.length : Int) i)) ls.length (fun j => good (ls.getD j dLocale)) (fun j => if j < ls.length then some ((j : Int), ()) else some (-1, ())) ?_ ?_ ?_ k 0 (Nat.zero_le _) (by omega)
  · have h' : L56_0 k k ls (ls.length : Int) 0 = _ := h
    rw [h']
    unfold allL
    rw [← scan_all]
    simp only [Nat.sub_zero, Nat.zero_add]
    generalize scan _ _ _ = m
    split <;> simp <;> omega
  · intro n i hi hp
    show L56_0 k (n + 1) ls _ i = _
    rw [L56_0_eq, Int.toNat_natCast, G30_eq, G10_ok k hk hk2 _ (hb i hi)]
    grind [wsucc]
  · intro n i hi hp
    show L56_0 k (n + 1) ls _ i = _
    rw [L56_0_eq, Int.toNat_natCast, G30_eq, G10_ok k hk hk2 _ (hb i hi)]
    grind
  · intro n
    show L56_0 k (n + 1) ls _ _ = _
    rw [L56_0_eq]; grind

theorem G9_ok (ls : List Locale) (key : ByteArray) (n : Int) (hr : ls.length ≤ 1048576) (hb : ∀ i, i < ls.length → bndL 1048576 (ls.getD i dLocale)) :
    G9 k ls key n = some (fallback ls key n) := by
  rw [G9_eq, G27_ok, G29_ok k hk hk2 ls hr hb]
  have h := loop_scan (fun m i => L9_0 k m key n ls (ls.length : Int) i) ls.length (lacks key ls) (fun j => some (fallAt ls key n j)) ?_ ?_ ?_ k 0 (Nat.zero_le _) (by omega)
  · have h' : L9_0 k k key n ls (ls.length : Int) 0 = _ := h
    rw [h']
    unfold fallback noFall
    grind
  · intro m i hi hp
    show L9_0 k (m + 1) key n ls _ i = _
    rw [L9_0_eq, Int.toNat_natCast, G26_ok k hk hk2 _ key (hb i hi).2.1]
    unfold lacks at hp
    grind [wsucc]
  · intro m i hi hp
    show L9_0 k (m + 1) key n ls _ i = _
    have h2 := fidx_lt (ls.getD i dLocale).2.1 key
    have h3 : ¬ fidx (ls.getD i dLocale).2.1 key < 0 := by unfold lacks at hp; simpa using hp
    rw [L9_0_eq, Int.toNat_natCast, G26_ok k hk hk2 _ key (hb i hi).2.1]
    simp only [Option.bind_some]
    rw [G28_ok k _ _ n (by omega) h2]
    unfold fallAt
    grind
  · intro m
    show L9_0 k (m + 1) key n ls _ _ = _
    rw [L9_0_eq]; unfold fallAt noFall; grind

theorem G12_ok (ls : List Locale) (key : ByteArray) (n : Int) (hr : ls.length ≤ 1048576) (hb : ∀ i, i < ls.length → bndL 1048576 (ls.getD i dLocale)) :
    G12 k ls key n = some (fallback ls key n) := by
  rw [G12_eq, G40_ok]
  have h1 : L12_1 k k ls key n 0 = some (fallAt ls key n (scan (lacks key ls) ls.length 0)) := by
    refine loop_scan (fun m i => L12_1 k m ls key n i) ls.length (lacks key ls) (fun j => some (fallAt ls key n j)) ?_ ?_ ?_ k 0 (Nat.zero_le _) (by omega)
    · intro m i hi hp
      show L12_1 k (m + 1) ls key n i = _
      rw [L12_1_eq, Int.toNat_natCast, G41_ok k hk hk2 _ key (hb i hi).2.1]
      unfold lacks at hp
      grind [wsucc]
    · intro m i hi hp
      show L12_1 k (m + 1) ls key n i = _
      have h2 := fidx_lt (ls.getD i dLocale).2.1 key
      have h3 : ¬ fidx (ls.getD i dLocale).2.1 key < 0 := by unfold lacks at hp; simpa using hp
      rw [L12_1_eq, Int.toNat_natCast, G41_ok k hk hk2 _ key (hb i hi).2.1]
      simp only [Option.bind_some, G42_ok]
      unfold fallAt
      grind
    · intro m
      show L12_1 k (m + 1) ls key n _ = _
      rw [L12_1_eq]; unfold fallAt noFall; grind
  have h0 := loop_all (fun m i => L12_0 k m ls key n i) ls.length (fun j => good (ls.getD j dLocale)) (some noFall) (some (fallAt ls key n (scan (lacks key ls) ls.length 0))) ?_ ?_ k 0 (Nat.zero_le _) (by omega)
  · have h' : L12_0 k k ls key n 0 = _ := h0
    rw [h']
    unfold fallback allL noFall isNum
    grind
  · intro m i hi
    show L12_0 k (m + 1) ls key n i = _
    rw [L12_0_eq, Int.toNat_natCast, G24_ok k hk hk2 _ (hb i hi)]
    unfold noFall
    grind [wsucc]
  · intro m
    show L12_0 k (m + 1) ls key n _ = _
    rw [L12_0_eq, if_neg (by simp)]
    exact h1

end

/-! ### What is missing -/
def missFrom (ts : List Term) (rest : List Term) : List ByteArray := (rest.filter fun t => decide (fidx ts t.1 < 0)).map (·.1)
def missing (l base : Locale) : List ByteArray × Bool × Unit := if good l = true ∧ good base = true then (missFrom l.2.1 base.2.1, true, ()) else ([], false, ())

section
variable (k : Nat) (hk : 1048577 ≤ k) (hk2 : k ≤ 9223372036854775806)
include hk hk2

theorem L14_ok (v19 : List Term) (l : Locale) (hl : l.2.1.length ≤ 1048576) (hv : v19.length ≤ 1048576) : ∀ (n i : Nat) (out : List ByteArray), i ≤ v19.length → v19.length < n + i → out.length ≤ i →
    L14_0 k n v19 (v19.length : Int) i l.1 l.2.1 l.2.2.1 l.2.2.2.1 l.2.2.2.2.1 out = some (out ++ missFrom l.2.1 (v19.drop i), true, ()) := by
  intro n
  induction n with
  | zero => intro i out a1 a2; omega
  | succ n ih =>
    intro i out a1 a2 a3
    rw [L14_0_eq]
    by_cases hi : i < v19.length
    · have e : (l.1, l.2.1, l.2.2.1, l.2.2.2.1, l.2.2.2.2.1, ()) = l := rfl
      rw [e, Int.toNat_natCast, G26_ok k hk hk2 l _ hl, wsucc (by omega), List.drop_eq_getElem_cons hi]
      have hg : v19.getD i dTerm = v19[i] := by rw [List.getD_eq_getElem?_getD, List.getElem?_eq_getElem hi]; rfl
      rw [hg, if_pos (by simpa using hi), if_pos (by omega), if_pos (by omega)]
      simp only [Option.bind_some]
      have h1 := ih (i + 1) (out ++ [v19[i].1]) (by omega) (by omega) (by simp; omega)
      have h2 := ih (i + 1) out (by omega) (by omega) (by omega)
      clear ih
      unfold missFrom at *
      generalize v19.drop (i + 1) = w at h1 h2 ⊢
      by_cases hf : fidx l.2.1 v19[i].1 < 0
      · rw [if_pos (by simpa using hf), if_pos (by simp; omega), h1]
        simp [hf]
      · rw [if_neg (by simpa using hf), h2]
        simp [hf]
    · obtain rfl : i = v19.length := by omega
      rw [if_neg (by simp)]
      simp [missFrom]

theorem L15_ok (b : Locale) (l : Locale) (hl : l.2.1.length ≤ 1048576) (hv : b.2.1.length ≤ 1048576) : ∀ (n i : Nat) (out : List ByteArray), i ≤ b.2.1.length → b.2.1.length < n + i → out.length ≤ i →
    L15_0 k n i l.1 l.2.1 l.2.2.1 l.2.2.2.1 l.2.2.2.2.1 b.1 b.2.1 b.2.2.1 b.2.2.2.1 b.2.2.2.2.1 out = some (out ++ missFrom l.2.1 (b.2.1.drop i), true, ()) := by
  intro n
  induction n with
  | zero => intro i out a1 a2; omega
  | succ n ih =>
    intro i out a1 a2 a3
    rw [L15_0_eq]
    by_cases hi : i < b.2.1.length
    · have e : (l.1, l.2.1, l.2.2.1, l.2.2.2.1, l.2.2.2.2.1, ()) = l := rfl
      rw [e, Int.toNat_natCast, G41_ok k hk hk2 l _ hl, wsucc (by omega), List.drop_eq_getElem_cons hi]
      have hg : b.2.1.getD i dTerm = b.2.1[i] := by rw [List.getD_eq_getElem?_getD, List.getElem?_eq_getElem hi]; rfl
      rw [hg, if_pos (by simpa using hi), if_pos (by omega), if_pos (by omega)]
      simp only [Option.bind_some]
      have h1 := ih (i + 1) (out ++ [b.2.1[i].1]) (by omega) (by omega) (by simp; omega)
      have h2 := ih (i + 1) out (by omega) (by omega) (by omega)
      clear ih
      unfold missFrom at *
      generalize b.2.1.drop (i + 1) = w at h1 h2 ⊢
      by_cases hf : fidx l.2.1 b.2.1[i].1 < 0
      · rw [if_pos (by simpa using hf), if_pos (by omega), if_pos (by omega), if_pos (by simp; omega), h1]
        simp [hf]
      · rw [if_neg (by simpa using hf), h2]
        simp [hf]
    · obtain rfl : i = b.2.1.length := by omega
      rw [if_neg (by simp)]
      simp [missFrom]

theorem G14_ok (l b : Locale) (hl : bndL 1048576 l) (hb : bndL 1048576 b) : G14 k l b = some (missing l b) := by
  have hb1 := hb.2.1
  have h := L14_ok k hk hk2 b.2.1 l hl.2.1 hb.2.1 k 0 [] (by omega) (by omega) (by simp)
  rw [G14_eq, G10_ok k hk hk2 l hl, G10_ok k hk hk2 b hb]
  simp only [Int.natCast_zero, List.drop_zero, List.nil_append] at h
  unfold missing
  cases good l <;> cases good b <;> simp [h]

theorem G15_ok (l b : Locale) (hl : bndL 1048576 l) (hb : bndL 1048576 b) : G15 k l b = some (missing l b) := by
  have hb1 := hb.2.1
  have h := L15_ok k hk hk2 b l hl.2.1 hb.2.1 k 0 [] (by omega) (by omega) (by simp)
  rw [G15_eq, G24_ok k hk hk2 l hl, G24_ok k hk hk2 b hb]
  simp only [Int.natCast_zero, List.drop_zero, List.nil_append] at h
  unfold missing
  cases good l <;> cases good b <;> simp [h]

omit hk in
theorem G16_ok (a : List ByteArray) (ha : a.length < k) : G16 k a a = some (true, ()) := by
  rw [G16_eq, if_neg (by simp)]
  refine (loop_all (fun n i => L16_0 k n a a i) a.length (fun _ => true) (some (false, ())) (some (true, ())) ?_ ?_ k 0 (Nat.zero_le _) (by omega)).trans (by simp)
  · intro n i hi
    show L16_0 k (n + 1) a a i = _
    rw [L16_0_eq]; grind [wsucc, sEq_self]
  · intro n
    show L16_0 k (n + 1) a a _ = _
    rw [L16_0_eq]; grind

end

/-! ### Numerals -/
theorem digit (d : Nat) (h : d < 10) : (⟨#[48, 49, 50, 51, 52, 53, 54, 55, 56, 57]⟩ : ByteArray).extract d (d + 1) = ⟨#[UInt8.ofNat (48 + d)]⟩ := by
  have : ∀ d < 10, (⟨#[48, 49, 50, 51, 52, 53, 54, 55, 56, 57]⟩ : ByteArray).extract d (d + 1) = ⟨#[UInt8.ofNat (48 + d)]⟩ := by decide
  exact this d h

theorem num_ok : ∀ (m k : Nat) (u : Nat), u < 10 ^ m → m ≤ k → m ≤ 18 → 0 < m → G46 k (u : Int) = some ((⟨(Lib.decDigits u).toArray⟩ : ByteArray), ()) ∧ (Lib.decDigits u).length ≤ m
  | 0, k, u => by omega
  | m + 1, 0, u => by omega
  | m + 1, k + 1, u => by
    intro h1 h2 h3 _
    have hu : u < 10 ^ 18 := Nat.lt_of_lt_of_le h1 (Nat.pow_le_pow_right (by omega) (by omega))
    rw [G46_eq, if_neg (by simp), Lib.decDigits]
    have hs : (⟨#[48, 49, 50, 51, 52, 53, 54, 55, 56, 57]⟩ : ByteArray).size = 10 := rfl
    by_cases hd : u < 10
    · rw [dif_pos hd, if_pos (by simp; omega), if_pos (by omega), w64 (by omega) (by omega), if_pos (by omega), if_pos (by rw [hs]; omega)]
      rw [Int.toNat_natCast, show ((u : Int) + 1).toNat = u + 1 by omega, digit u hd]
      exact ⟨rfl, by simp⟩
    · have hm : 0 < m := by
        rcases Nat.eq_zero_or_pos m with h | h
        · subst h; simp at h1; omega
        · exact h
      obtain ⟨e1, e2⟩ := num_ok m k (u / 10) (by rw [Nat.pow_succ] at h1; omega) (by omega) (by omega) hm
      rw [dif_neg hd, if_neg (by simp; omega), if_neg (by omega), if_neg (by omega), if_neg (by omega)]
      rw [Int.tmod_eq_emod_of_nonneg (by omega), Int.tdiv_eq_ediv_of_nonneg (by omega)]
      rw [w64 (n := (u : Int) % 10 + 1) (by omega) (by omega), w64 (n := (u : Int) / 10) (by omega) (by omega), if_pos (by omega), if_pos (by omega), if_pos (by rw [hs]; omega)]
      rw [show (u : Int) / 10 = ((u / 10 : Nat) : Int) by omega, show ((u : Int) % 10).toNat = u % 10 by omega, show ((u : Int) % 10 + 1).toNat = u % 10 + 1 by omega, e1, digit _ (by omega)]
      simp only [Option.bind_some]
      rw [if_pos ?_]
      · refine ⟨?_, by simp; omega⟩
        congr 2
      · show (Lib.decDigits (u / 10)).toArray.size + 1 ≤ _
        simp only [List.size_toArray]; omega

def counted (l : Locale) (key : ByteArray) (n : Int) : ByteArray × Bool × Unit :=
  if (termFor l key n).2.1 = true then ((((⟨(Lib.itoa n).toArray⟩ : ByteArray) ++ (⟨#[32]⟩ : ByteArray)) ++ (termFor l key n).1), true, ()) else noText

theorem textOf_size {l : Locale} (hb : bndL 1048576 l) (key : ByteArray) (n : Int) : (termFor l key n).1.size ≤ 1048576 := by
  unfold termFor
  split
  · rename_i h
    have h1 := fidx_lt l.2.1 key
    obtain ⟨_, h2, h3⟩ := hb.2.2.2.2.2.1 (fidx l.2.1 key).toNat (by omega)
    show (textOf _ n).size ≤ _
    unfold textOf
    split
    · exact h2
    · exact h3
  · show (⟨#[]⟩ : ByteArray).size ≤ 1048576
    decide

section
variable (k : Nat) (hk : 1048577 ≤ k) (hk2 : k ≤ 9223372036854775806)
include hk hk2

omit hk hk2 in
theorem termFor_num {l : Locale} {key : ByteArray} {n : Int} (h : (termFor l key n).2.1 = true) : 0 ≤ n ∧ n ≤ 999999 := by
  unfold termFor noText isNum at h
  grind

omit hk hk2 in
theorem itoa_dec {n : Int} (h : 0 ≤ n) : Lib.itoa n = Lib.decDigits n.toNat := by
  unfold Lib.itoa; rw [if_neg (by omega)]

theorem G18_ok (l : Locale) (key : ByteArray) (n : Int) (hb : bndL 1048576 l) : G18 k l key n = some (counted l key n) := by
  rw [G18_eq, G8_ok k hk hk2 l key n hb]
  simp only [Option.bind_some]
  have ht := textOf_size hb key n
  unfold counted
  cases h : (termFor l key n).2.1
  · rfl
  · obtain ⟨h1, h2⟩ := termFor_num h
    have hd := (num_ok 6 k n.toNat (by omega) (by omega) (by omega) (by omega)).2
    have hs : ((⟨(Lib.decDigits n.toNat).toArray⟩ : ByteArray)).size = (Lib.decDigits n.toNat).length := rfl
    have hs2 : (⟨#[32]⟩ : ByteArray).size = 1 := rfl
    rw [if_neg (by simp), G44_eq, if_pos (by omega), itoa_dec h1]
    simp only [Option.bind_some]
    rw [if_pos (by omega), if_pos (by rw [ByteArray.size_append]; omega)]
    simp

theorem G19_ok (l : Locale) (key : ByteArray) (n : Int) (hb : bndL 1048576 l) : G19 k l key n = some (counted l key n) := by
  rw [G19_eq, G45_ok k hk hk2 l key n hb]
  simp only [Option.bind_some]
  have ht := textOf_size hb key n
  unfold counted
  cases h : (termFor l key n).2.1
  · rfl
  · obtain ⟨h1, h2⟩ := termFor_num h
    obtain ⟨hn, hd⟩ := num_ok 6 k n.toNat (by omega) (by omega) (by omega) (by omega)
    have hs : ((⟨(Lib.decDigits n.toNat).toArray⟩ : ByteArray)).size = (Lib.decDigits n.toNat).length := rfl
    have hs2 : (⟨#[32]⟩ : ByteArray).size = 1 := rfl
    rw [Int.toNat_of_nonneg h1] at hn
    rw [itoa_dec h1, hn]
    simp only [Option.bind_some]
    rw [if_neg (by simp), if_pos (by omega), if_pos (by rw [ByteArray.size_append]; omega)]
    simp

end
end Go.Vm

namespace Go.Vm
open Go.Proofs

theorem bndL.mono {m m' : Nat} {l : Locale} (h : bndL m l) (hm : m ≤ m') : bndL m' l := by
  obtain ⟨b1, b2, b3, b4, b5, b6, b7⟩ := h
  exact ⟨by omega, by omega, by omega, by omega, by omega, fun i hi => by have := b6 i hi; unfold bndT at *; omega, fun i hi => by have := b7 i hi; unfold bndR at *; omega⟩

section
variable (k : Nat) (hk : 100 ≤ k)
include hk

omit hk in
theorem number_ok {b : Nat} {c : Cur} (h : ok b c) (hb : b ≤ 1000000) : Dr (fun _ : Int => True) (b + 6) (G39 k c) := by
  rw [G39_eq]
  refine Pst.bind (pick_ok k (c := c) h (by omega) 1000 (by omega)) fun r1 ⟨w1, o1⟩ => ?_
  refine Pst.bind (pick_ok k (c := r1.2.1) o1 (by omega) 24 (by omega)) fun r2 ⟨w2, o2⟩ => ?_
  have e : IntKind.wrap .i64 ((12 : Int) + IntKind.wrap .i64 (Int.tdiv r2.1.1 11)) = 12 + r2.1.1 / 11 := by
    rw [Int.tdiv_eq_ediv_of_nonneg w2.1, w64 (n := r2.1.1 / 11) (by omega) (by omega), w64 (by omega) (by omega)]
  rw [e, if_neg (by omega), if_pos (by omega), if_pos (by omega), if_pos (by simp; omega)]
  refine Pst.bind (among_ok k (c := r2.2.1) o2 (by omega) _ (by simp; omega) (by simp; omega)) fun r3 ⟨w3, o3⟩ => ?_
  exact .some ⟨trivial, o3⟩

omit hk in
theorem ok_start {code : List Int} (hc : ∀ x ∈ code, 0 ≤ x ∧ x ≤ 255) : ok 0 (code, (0 : Int), (0 : Int), ()) := by
  refine ⟨fun i => ?_, by simp, by simp⟩
  show 0 ≤ code.getD i 0 ∧ code.getD i 0 ≤ 255
  rw [List.getD_eq_getElem?_getD]
  cases h : code[i]? with
  | none => simp
  | some x => exact hc x (List.mem_of_getElem? h)

theorem draw5 {code : List Int} (hc : ∀ x ∈ code, 0 ≤ x ∧ x ≤ 255) : Pst (fun r : Locale × Term × Unit => bndL 1048576 r.1 ∧ bndT 1048576 r.2.1) (G5 k code) := by
  rw [G5_eq]
  refine Pst.bind (anyLocale_ok k hk (ok_start hc) (by omega)) fun r1 ⟨w1, o1⟩ => ?_
  refine Pst.bind (of_ok k (c := r1.2.1) o1 (by omega) _ (by decide) (by decide) (by decide)) fun r2 ⟨w2, o2⟩ => ?_
  refine Pst.bind (of_ok k (c := r2.2.1) o2 (by omega) _ (by decide) (by decide) (by decide)) fun r3 ⟨w3, o3⟩ => ?_
  refine Pst.bind (of_ok k (c := r3.2.1) o3 (by omega) _ (by decide) (by decide) (by decide)) fun r4 ⟨w4, o4⟩ => ?_
  exact .some ⟨w1.mono (by omega), Nat.le_trans w2 (by omega), Nat.le_trans w3 (by omega), Nat.le_trans w4 (by omega)⟩

theorem draw13 {code : List Int} (hc : ∀ x ∈ code, 0 ≤ x ∧ x ≤ 255) : Pst (fun r : Locale × Locale × Unit => bndL 1048576 r.1 ∧ bndL 1048576 r.2.1) (G13 k code) := by
  rw [G13_eq]
  refine Pst.bind (anyLocale_ok k hk (ok_start hc) (by omega)) fun r1 ⟨w1, o1⟩ => ?_
  refine Pst.bind (anyLocale_ok k hk (c := r1.2.1) o1 (by omega)) fun r2 ⟨w2, o2⟩ => ?_
  exact .some ⟨w1.mono (by omega), w2.mono (by omega)⟩

theorem draw17 {code : List Int} (hc : ∀ x ∈ code, 0 ≤ x ∧ x ≤ 255) : Pst (fun r : Locale × ByteArray × Int × Unit => bndL 1048576 r.1) (G17 k code) := by
  rw [G17_eq]
  refine Pst.bind (P := fun r : Locale × ByteArray × Int × Unit => bndL 1048576 r.1) ?_ fun r w => .some w
  rw [G43_eq]
  refine Pst.bind (anyLocale_ok k hk (ok_start hc) (by omega)) fun r1 ⟨w1, o1⟩ => ?_
  refine Pst.bind (of_ok k (c := r1.2.1) o1 (by omega) _ (by decide) (by decide) (by decide)) fun r2 ⟨w2, o2⟩ => ?_
  refine Pst.bind (number_ok k (c := r2.2.1) o2 (by omega)) fun r3 ⟨w3, o3⟩ => ?_
  exact .some (w1.mono (by omega))

def fine (ls : List Locale) : Prop := ls.length ≤ 10 ∧ ∀ x ∈ ls, bndL 1048576 x
omit hk in
theorem fine_get {ls : List Locale} (h : fine ls) (i : Nat) (hi : i < ls.length) : bndL 1048576 (ls.getD i dLocale) := by
  rw [List.getD_eq_getElem?_getD, List.getElem?_eq_getElem hi]
  exact h.2 _ (List.getElem_mem hi)

theorem L11_1_ok : ∀ (n : Nat) (c : Cur) (ls : List Locale) (b : Nat), ls.length ≤ 7 → 7 < n + ls.length → (∀ x ∈ ls, bndL 1048576 x) → ok b c → b + 60 * (10 - ls.length) ≤ 900000 →
    Pst (fun r : (List Locale) × ByteArray × Int × Unit => fine r.1) (L11_1 k n c.1 c.2.1 c.2.2.1 ls) := by
  intro n
  induction n with
  | zero => intro c ls b a1 a2; omega
  | succ n ih =>
    intro c ls b a1 a2 a3 a4 a5
    rw [L11_1_eq]
    refine Pst.bind (pick_ok k (c := c) a4 (by omega) 2 (by omega)) fun r1 ⟨w1, o1⟩ => ?_
    rw [w64 (by omega) (by omega)]
    by_cases hl : (ls.length : Int) < 5 + r1.1.1
    · rw [if_pos (by simpa using hl)]
      refine Pst.bind (locale_ok k hk (c := r1.2.1) o1 (by omega)) fun r2 ⟨w2, o2⟩ => ?_
      rw [if_pos (by simp; omega)]
      refine ih r2.2.1 _ _ (by simp; omega) (by simp; omega) (fun x hx => ?_) o2 (by simp; omega)
      rcases List.mem_append.1 hx with h | h
      · exact a3 x h
      · rw [List.mem_singleton.1 h]; exact w2.mono (by omega)
    · rw [if_neg (by simpa using hl)]
      refine Pst.bind (of_ok k (c := r1.2.1) o1 (by omega) _ (by decide) (by decide) (by decide)) fun r3 ⟨w3, o3⟩ => ?_
      refine Pst.bind (number_ok k (c := r3.2.1) o3 (by omega)) fun r4 ⟨w4, o4⟩ => ?_
      exact .some ⟨by show ls.length ≤ 10; omega, a3⟩

theorem L11_0_ok : ∀ (n : Nat) (vn : Int) (c : Cur) (ls : List Locale) (b : Nat), 0 ≤ vn → vn < n → (ls.length : Int) + vn ≤ 7 → (∀ x ∈ ls, bndL 1048576 x) → ok b c → (b : Int) + 60 * vn ≤ 1000 →
    Pst (fun r : (List Locale) × ByteArray × Int × Unit => fine r.1) (L11_0 k n vn c.1 c.2.1 c.2.2.1 ls) := by
  intro n
  induction n with
  | zero => intro vn c ls b a1 a2; omega
  | succ n ih =>
    intro vn c ls b a1 a2 a3 a4 a5 a6
    rw [L11_0_eq]
    by_cases hv : vn > 0
    · rw [if_pos (by simpa using hv)]
      refine Pst.bind (anyLocale_ok k hk (c := c) a5 (by omega)) fun r1 ⟨w1, o1⟩ => ?_
      rw [if_pos (by simp; omega), w64 (by omega) (by omega)]
      refine ih (vn - 1) r1.2.1 _ _ (by omega) (by omega) (by simp; omega) (fun x hx => ?_) o1 (by omega)
      rcases List.mem_append.1 hx with h | h
      · exact a4 x h
      · rw [List.mem_singleton.1 h]; exact w1.mono (by omega)
    · rw [if_neg (by simpa using hv)]
      refine Pst.bind (one_ok k (c := c) a5 (by omega) 40 (by omega)) fun r2 ⟨_, o2⟩ => ?_
      split
      · exact L11_1_ok k hk k r2.2.1 ls _ (by omega) (by omega) a4 o2 (by omega)
      · refine Pst.bind (of_ok k (c := r2.2.1) o2 (by omega) _ (by decide) (by decide) (by decide)) fun r3 ⟨w3, o3⟩ => ?_
        refine Pst.bind (number_ok k (c := r3.2.1) o3 (by omega)) fun r4 ⟨w4, o4⟩ => ?_
        exact .some ⟨by show ls.length ≤ 10; omega, a4⟩

theorem draw11 {code : List Int} (hc : ∀ x ∈ code, 0 ≤ x ∧ x ≤ 255) : Pst (fun r : (List Locale) × ByteArray × Int × Unit => fine r.1) (G11 k code) := by
  rw [G11_eq]
  refine Pst.bind (pick_ok k (ok_start hc) (by omega) 4 (by omega)) fun r1 ⟨w1, o1⟩ => ?_
  exact L11_0_ok k hk k r1.1.1 r1.2.1 [] _ (by omega) (by omega) (by simp; omega) (by intro x h; cases h) o1 (by omega)

end

/-! ### What AddTerm leaves -/
theorem bl_irr : ∀ l : List UInt8, Op.bytesLess l l = false
  | [] => rfl
  | a :: l => by have := bl_irr l; simp [Op.bytesLess, this]

theorem sLt_ne {a b : ByteArray} (h : sLt a b = true) : sEq a b = false := by
  cases he : sEq a b
  · rfl
  · have e : a.toList = b.toList := by simpa [sEq] using he
    unfold sLt at h
    rw [e, bl_irr] at h
    cases h

theorem add_props {l m : Locale} {t : Term} (h : addOne l t = some (m, true, ())) (hb : bndL 1048576 l) (ht : bndT 1048576 t) :
    bndL 1048576 m ∧ good m = true ∧ 0 ≤ fidx m.2.1 t.1 ∧ m.2.1.getD (fidx m.2.1 t.1).toNat dTerm = t := by
  unfold addOne at h
  split at h
  · rename_i hg
    unfold addRes at h
    split at h
    · rename_i hgm
      simp only [Option.some.injEq, Prod.mk.injEq, and_true] at h
      subst h
      refine ⟨bndL_add hb ht (good_len hg).1 _, hgm, ?_⟩
      obtain ⟨i, hi⟩ : ∃ i, i = scan (before l.2.1 t) l.2.1.length 0 := ⟨_, rfl⟩
      have hle : i ≤ l.2.1.length := by have := scan_le (before l.2.1 t) l.2.1.length 0; omega
      have hlt : ∀ j, j < i → before l.2.1 t j = true := fun j hj => scan_true _ l.2.1.length 0 j (by omega) (by omega)
      rw [← hi]
      generalize hts : l.2.1 = ts at *
      have hlen : i < (addAt ts t i).length := by unfold addAt; split <;> simp <;> omega
      have h1 : ∀ j, j < i → (addAt ts t i).getD j dTerm = ts.getD j dTerm := by
        intro j hj
        unfold addAt
        split <;> (simp only [List.getD_eq_getElem?_getD]; rw [List.append_assoc, List.getElem?_append_left (by simp; omega), List.getElem?_take_of_lt hj])
      have h2 : (addAt ts t i).getD i dTerm = t := by
        unfold addAt
        split <;> (simp only [List.getD_eq_getElem?_getD]; rw [List.append_assoc, List.getElem?_append_right (by rw [List.length_take]; omega)]; simp [hle])
      have hs : scan (other t.1 (addAt ts t i)) (addAt ts t i).length 0 = i := by
        refine scan_is _ _ _ (fun j hj => ?_) ?_ hlen
        · unfold other
          rw [h1 j hj, sLt_ne (hlt j hj)]; rfl
        · unfold other
          rw [h2, sEq_self]; rfl
      have hf : fidx (addAt ts t i) t.1 = (i : Int) := by unfold fidx; rw [hs, if_pos hlen]
      show 0 ≤ fidx (addAt ts t i) t.1 ∧ (addAt ts t i).getD (fidx (addAt ts t i) t.1).toNat dTerm = t
      rw [hf, Int.toNat_natCast]
      exact ⟨by omega, h2⟩
    · simp at h
  · simp at h

section
variable (k : Nat) (hk : 1048577 ≤ k) (hk2 : k ≤ 9223372036854775806)
include hk hk2

omit hk hk2 in
theorem missing_neg {l b : Locale} {key : ByteArray} (h : key ∈ (missing l b).1) : fidx l.2.1 key < 0 := by
  unfold missing at h
  split at h
  · simp only [missFrom, List.mem_map, List.mem_filter] at h
    obtain ⟨t, ⟨_, ht⟩, rfl⟩ := h
    simpa using ht
  · cases h

theorem L3_ok {code : List Int} (hc : ∀ x ∈ code, 0 ≤ x ∧ x ≤ 255) (l : Locale) (hb : bndL 1048576 l) (ms : List ByteArray) (hm : ms.length < k) (hn : ∀ key ∈ ms, fidx l.2.1 key < 0) :
    L3_0 k k code 0 l.1 l.2.2.2.1 l.2.2.2.2.1 ms l.2.1 l.2.2.1 = some (true, ()) := by
  refine (loop_all (fun n i => L3_0 k n code i l.1 l.2.2.2.1 l.2.2.2.2.1 ms l.2.1 l.2.2.1) ms.length (fun _ => true) (some (false, ())) (some (true, ())) ?_ ?_ k 0 (Nat.zero_le _) (by omega)).trans (by simp)
  · intro n i hi
    show L3_0 k (n + 1) code i _ _ _ _ _ _ = _
    have e : (l.1, l.2.1, l.2.2.1, l.2.2.2.1, l.2.2.2.2.1, ()) = l := rfl
    rw [L3_0_eq, if_pos (by simpa using hi), if_pos (by omega), if_pos (by omega), e, G8_ok k hk hk2 l _ _ hb]
    have hf := hn (ms.getD i ByteArray.empty) (by rw [List.getD_eq_getElem?_getD, List.getElem?_eq_getElem hi]; exact List.getElem_mem hi)
    have ht : (termFor l (ms.getD (i : Int).toNat ByteArray.empty) 1).2.1 = false := by
      unfold termFor
      rw [Int.toNat_natCast, if_neg (by omega)]; rfl
    simp only [Option.bind_some]
    rw [ht, wsucc (by omega)]
    simp
  · intro n
    show L3_0 k (n + 1) code _ _ _ _ _ _ _ = _
    rw [L3_0_eq, if_neg (by simp)]
    obtain ⟨r, hr, hrb⟩ := draw17 k (by omega) hc
    rw [hr]
    simp only [Option.bind_some]
    rw [G18_ok k hk hk2 _ _ _ hrb, G19_ok k hk hk2 _ _ _ hrb]
    simp [sEq_self]

theorem tail2 {code : List Int} (hc : ∀ x ∈ code, 0 ≤ x ∧ x ≤ 255) :
  (
  (G13 k code).bind fun (r29 : Locale × Locale × Unit) =>
  (G14 k r29.1 r29.2.1).bind fun (r30 : (List ByteArray) × Bool × Unit) =>
  (G15 k r29.1 r29.2.1).bind fun (r31 : (List ByteArray) × Bool × Unit) =>
  if (!(r30.2.1 == r31.2.1)) then
  some (false, ())
  else
  (G16 k r30.1 r31.1).bind fun (r32 : Bool × Unit) =>
  if (!r32.1) then
  some (false, ())
  else
  L3_0 k k code ((0 : Int)) r29.1.1 r29.1.2.2.2.1 r29.1.2.2.2.2.1 r30.1 r29.1.2.1 r29.1.2.2.1) = some (true, ()) := by
  obtain ⟨⟨l, b, ⟨⟩⟩, hr, h1, h2⟩ := draw13 k (by omega) hc
  rw [hr]
  simp only [Option.bind_some]
  rw [G14_ok k hk hk2 l b h1 h2, G15_ok k hk hk2 l b h1 h2]
  simp only [Option.bind_some]
  have hlen : (missing l b).1.length < k := by
    have : b.2.1.length ≤ 1048576 := h2.2.1
    unfold missing
    split
    · show (missFrom _ _).length < k
      unfold missFrom
      rw [List.length_map]
      exact Nat.lt_of_le_of_lt (List.length_filter_le _ _) (by omega)
    · show 0 < k; omega
  rw [G16_ok k hk2 _ hlen, if_neg (by simp)]
  simp only [Option.bind_some]
  rw [if_neg (by simp)]
  exact L3_ok k hk hk2 hc l h1 _ hlen fun key hkey => missing_neg hkey

omit hk hk2 in
theorem allL_get {ls : List Locale} (h : allL ls = true) (i : Nat) (hi : i < ls.length) : good (ls.getD i dLocale) = true := by
  unfold allL at h
  rw [List.all_eq_true] at h
  exact h i (List.mem_range'_1.2 ⟨by omega, by omega⟩)

omit hk hk2 in
theorem fallback_ok {ls : List Locale} {key : ByteArray} {n : Int} (h : (fallback ls key n).2.2.1 = true) :
    0 ≤ (fallback ls key n).2.1 ∧ (fallback ls key n).2.1 < ls.length ∧
    termFor (ls.getD (fallback ls key n).2.1.toNat dLocale) key n = ((fallback ls key n).1, true, ()) := by
  unfold fallback at h ⊢
  split
  · rename_i hc
    rw [if_pos hc] at h
    obtain ⟨_, h2, h3⟩ := hc
    have hsf := scan_false (lacks key ls) ls.length 0
    generalize scan (lacks key ls) ls.length 0 = i at h hsf ⊢
    unfold fallAt at h ⊢
    split
    · rename_i hi
      have hf : 0 ≤ fidx (ls.getD i dLocale).2.1 key := by
        have := hsf (by omega)
        unfold lacks at this
        simpa using this
      refine ⟨by simp, by simpa using hi, ?_⟩
      simp only [Int.toNat_natCast]
      unfold termFor
      rw [if_pos ⟨allL_get h3 i hi, h2, hf⟩]
    · rename_i hi
      rw [if_neg hi] at h; cases h
  · rename_i hc
    rw [if_neg hc] at h; cases h

theorem tail1 {code : List Int} (hc : ∀ x ∈ code, 0 ≤ x ∧ x ≤ 255) :
  (
  (G11 k code).bind fun (r21 : (List (Locale)) × ByteArray × Int × Unit) =>
  (G9 k r21.1 r21.2.1 r21.2.2.1).bind fun (r22 : ByteArray × Int × Bool × Unit) =>
  (G12 k r21.1 r21.2.1 r21.2.2.1).bind fun (r23 : ByteArray × Int × Bool × Unit) =>
  if ((!sEq r22.1 r23.1)) then
  some (false, ())
  else
  if ((r22.2.1 != r23.2.1)) then
  some (false, ())
  else
  if (!(r22.2.2.1 == r23.2.2.1)) then
  some (false, ())
  else
  if r22.2.2.1 then
  if 0 ≤ r22.2.1 then
  if r22.2.1 < (r21.1.length : Int) then
  (G8 k (r21.1.getD (r22.2.1).toNat dLocale) r21.2.1 r21.2.2.1).bind fun (r24 : ByteArray × Bool × Unit) =>
  if (!r24.2.1) then
  some (false, ())
  else
  if ((!sEq r24.1 r22.1)) then
  some (false, ())
  else
  (G13 k code).bind fun (r25 : Locale × Locale × Unit) =>
  (G14 k r25.1 r25.2.1).bind fun (r26 : (List ByteArray) × Bool × Unit) =>
  (G15 k r25.1 r25.2.1).bind fun (r27 : (List ByteArray) × Bool × Unit) =>
  if (!(r26.2.1 == r27.2.1)) then
  some (false, ())
  else
  (G16 k r26.1 r27.1).bind fun (r28 : Bool × Unit) =>
  if (!r28.1) then
  some (false, ())
  else
  L3_0 k k code ((0 : Int)) r25.1.1 r25.1.2.2.2.1 r25.1.2.2.2.2.1 r26.1 r25.1.2.1 r25.1.2.2.1
  else none
  else none
  else
  (G13 k code).bind fun (r29 : Locale × Locale × Unit) =>
  (G14 k r29.1 r29.2.1).bind fun (r30 : (List ByteArray) × Bool × Unit) =>
  (G15 k r29.1 r29.2.1).bind fun (r31 : (List ByteArray) × Bool × Unit) =>
  if (!(r30.2.1 == r31.2.1)) then
  some (false, ())
  else
  (G16 k r30.1 r31.1).bind fun (r32 : Bool × Unit) =>
  if (!r32.1) then
  some (false, ())
  else
  L3_0 k k code ((0 : Int)) r29.1.1 r29.1.2.2.2.1 r29.1.2.2.2.2.1 r30.1 r29.1.2.1 r29.1.2.2.1) = some (true, ()) := by
  obtain ⟨⟨ls, key, n, ⟨⟩⟩, hr, hf⟩ := draw11 k (by omega) hc
  have hf1 : ls.length ≤ 10 := hf.1
  have hfb := G9_ok k hk hk2 ls key n (by omega) (fun i hi => fine_get hf i hi)
  have hfc := G12_ok k hk hk2 ls key n (by omega) (fun i hi => fine_get hf i hi)
  have ht2 := tail2 k hk hk2 hc
  rw [hr]
  simp only [Option.bind_some]
  rw [hfb, hfc]
  simp only [Option.bind_some]
  rw [if_neg (by simp [sEq_self]), if_neg (by simp), if_neg (by simp)]
  split
  · rename_i hb
    obtain ⟨h1, h2, h3⟩ := fallback_ok hb
    rw [if_pos h1, if_pos h2, G8_ok k hk hk2 _ _ _ (fine_get hf _ (by show _ < ls.length; omega))]
    simp only [Option.bind_some]
    rw [h3, if_neg (by simp), if_neg (by simp [sEq_self])]
    exact ht2
  · exact ht2

omit hk hk2 in
theorem bind_eq {α β : Type} {x : Option α} {a : α} {f : α → Option β} {y : Option β} (h : x = some a) (h2 : f a = y) : x.bind f = y := by rw [h]; exact h2
omit hk hk2 in
theorem ite_t {c : Bool} {α : Type} {x y z : α} (h : c = true) (h2 : x = z) : (if c = true then x else y) = z := by rw [if_pos h, h2]
omit hk hk2 in
theorem ite_f {c : Bool} {α : Type} {x y z : α} (h : c = false) (h2 : y = z) : (if c = true then x else y) = z := by rw [if_neg (by simp [h]), h2]

theorem G3_ok {code : List Int} (hc : ∀ x ∈ code, 0 ≤ x ∧ x ≤ 255) : G3 k code = some (true, ()) := by
  rw [G3_eq]
  refine bind_eq (G4_eq k code) ?_
  cases hbig : decide ((code.length : Int) > 65536)
  rotate_left
  · exact ite_t rfl rfl
  refine ite_f rfl ?_
  obtain ⟨⟨l, t, ⟨⟩⟩, hr, hl, ht⟩ := draw5 k (by omega) hc
  refine bind_eq hr ?_
  have ht1 := tail1 k hk hk2 hc
  obtain ⟨m, v, hm⟩ : ∃ (m : Locale) (v : Bool), addOne l t = some (m, v, ()) := by
    unfold addOne
    split
    · unfold addRes; split <;> exact ⟨_, _, rfl⟩
    · exact ⟨_, _, rfl⟩
  refine bind_eq ((G6_ok k hk hk2 l t hl ht).trans hm) ?_
  refine bind_eq ((G7_ok k hk hk2 l t hl ht).trans hm) ?_
  refine ite_f (by simp) ?_
  cases v
  · exact ite_f rfl ht1
  · refine ite_t rfl ?_
    obtain ⟨p1, p2, p3, p4⟩ := add_props hm hl ht
    have e5 : termFor m t.1 1 = (t.2.1, true, ()) := by
      unfold termFor; rw [if_pos ⟨p2, rfl, p3⟩, p4]; rfl
    have e6 : termFor m t.1 2 = (t.2.2.1, true, ()) := by
      unfold termFor; rw [if_pos ⟨p2, rfl, p3⟩, p4]; rfl
    have e7 : fallback [m] t.1 1 = (t.2.1, 0, true, ()) := by
      have ha : allL [m] = true := by simp [allL, p2]
      have hs : scan (lacks t.1 [m]) [m].length 0 = 0 := by
        have : lacks t.1 [m] 0 = false := by unfold lacks; simpa using p3
        simp [scan, this]
      unfold fallback
      rw [if_pos ⟨by simp, rfl, ha⟩, hs]
      unfold fallAt
      rw [if_pos (by simp)]
      simp only [List.getD_cons_zero]
      rw [p4]; rfl
    refine bind_eq ((G8_ok k hk hk2 m t.1 1 p1).trans (congrArg some e5)) ?_
    refine bind_eq ((G8_ok k hk hk2 m t.1 2 p1).trans (congrArg some e6)) ?_
    refine bind_eq ((G9_ok k hk hk2 [m] t.1 1 (by simp) (fun i hi => by
      have : i = 0 := by simpa using hi
      subst this; exact p1)).trans (congrArg some e7)) ?_
    refine ite_f rfl (ite_f rfl (ite_f rfl (ite_f ?_ (ite_f ?_ (ite_f ?_ (ite_f rfl ?_))))))
    · show (!sEq t.2.1 t.2.1) = false; rw [sEq_self]; rfl
    · show (!sEq t.2.2.1 t.2.2.1) = false; rw [sEq_self]; rfl
    · show (!sEq t.2.1 t.2.1) = false; rw [sEq_self]; rfl
    refine bind_eq ((G10_ok k hk hk2 m p1).trans (by rw [p2])) ?_
    exact ite_f rfl ht1

end
end Go.Vm

namespace Go.Vm
open Go.RowKit Go.ChangeShapes

/-- The arguments read again behind the call. -/
theorem trodAll_below {H : Type} {enc : TypeId × Value → H} {P : Program} (hl : laidOutB P = true) {W W' : World} (hb : Below W.heap.size W W') : ∀ (ts : List TypeId) (vs : List Value) (ds : List (DataW H)) (ps : List MemPlace),
    (ts.all fun t => P.readableRec t && decide (t < P.types.size)) = true → DataW.TrodAll enc P W 0 (fun _ => true) true ts vs ds ps → DataW.TrodAll enc P W' 0 (fun b => decide (b < W.heap.size)) true ts vs ds ps
  | [], [], [], ps, _, h => h
  | t :: ts, v :: vs, d :: ds, ps, ht, h => by
    simp only [List.all_cons, Bool.and_eq_true, decide_eq_true_eq] at ht
    obtain ⟨p, q, h1, h2, e⟩ := h
    have hlt : ∀ x ∈ p, x.block < W.heap.size := by obtain ⟨m, hm⟩ := h1; exact DataW.trod_lt m _ _ _ hm
    exact ⟨p, q, Below.trod hl ht.1.1 ht.1.2 h1 hb hlt, trodAll_below hl hb ts vs ds q ht.2 h2, e⟩
  | [], _ :: _, _, _, _, h => by simp [DataW.TrodAll] at h
  | [], [], _ :: _, _, _, h => by simp [DataW.TrodAll] at h
  | _ :: _, [], _, _, _, h => by simp [DataW.TrodAll] at h
  | _ :: _, _ :: _, [], _, _, h => by simp [DataW.TrodAll] at h

end Go.Vm

namespace Go.Vm

/-- A table that a program's variable holds is data. -/
theorem da_of_tab {P : Program} {w : World} {name : String} {k : IntKind} {zs : List Int} {g : Nat} (hg : P.globalNamed name = some g) (h : Lib.TabIs P w name k zs) :
    (cf0 w).r1 (.da (.sl1 (.int k)) zs) (.pointer (some ⟨g, 0, none⟩)) := by
  obtain ⟨T, fr, hh⟩ : ∃ T fr, w.heap[g]? = some (.cells (zs.map fun z => Value.int k z).toArray T fr) := by
    unfold Lib.TabIs World.var? at h
    rw [hg] at h
    simp only [Option.bind_some] at h
    split at h
    · rename_i cs T fr e
      cases h
      exact ⟨T, fr, e⟩
    · cases h
  have hlt : g < w.heap.size := by
    rcases Nat.lt_or_ge g w.heap.size with h | h
    · exact h
    · rw [Array.getElem?_eq_none h] at hh; cases hh
  have hcu : cellsU (.sl1 (.int k)) zs = zs.map fun z => U.i k z := rfl
  refine ⟨g, 0, rfl, hlt, ?_, _, T, fr, hh, ?_⟩
  · rw [hcu, RdC_iff]
    intro i u hu
    rw [List.getElem?_map] at hu
    cases hz : zs[i]? with
    | none => rw [hz] at hu; cases hu
    | some z =>
      rw [hz] at hu
      cases hu
      refine ⟨.int k z, ?_, rfl⟩
      show w.cell? ⟨g, 0 + i, none⟩ = _
      simp [World.cell?, hh, hz]
  · rw [hcu]; simp

end Go.Vm

namespace Go.Proofs.YtmblkopilcginaaDoor.fnTerms
open Go.ChangeShapes Go.WideShapes Go.ChangeAt Go.RowKit
open Go.Vm
theorem own : ownKnob Tryd.prog.godebug = none := by kernel_rfl
theorem laidOut : laidOutB Tryd.prog = true := by kernel_rfl

def tab : List (TypeId × List C) := [(22, [.sl1 (.int .u8)]), (5, [.int .u8])]
theorem tab_ok : rdTab Tryd.prog tab = true := by kernel_rfl

theorem bytes_ok (code : List Int) (h : okU (enc (.sl1 (.int .u8)) code)) : ∀ x ∈ code, 0 ≤ x ∧ x ≤ 255 := by
  have h2 : okUs (cellsU (.sl1 (.int .u8)) code) := h.2
  have hcu : cellsU (.sl1 (.int .u8)) code = code.map fun z => U.i .u8 z := rfl
  rw [hcu] at h2
  clear hcu h
  induction code with
  | nil => intro x hx; cases hx
  | cons c r ih =>
    intro x hx
    rcases List.mem_cons.1 hx with rfl | hx
    · have : (Lit.int .u8 x).wf = true := h2.1
      simpa [Lit.wf, IntKind.min, IntKind.max, IntKind.signed, IntKind.bits] using this
    · exact ih h2.2 x hx

theorem globs {W : World} (hL : laidMet Tryd.prog Rows.fnTermsRow.laid W) : GlobOK gl (cf0 W) := by
  have h3 : laidMet Tryd.prog [("internal/strconv.uint64pow10", Lib.tabData .u64 Lib.pow10Tab)] W := laidMet.tail (laidMet.tail hL)
  have hT : Lib.TabIs Tryd.prog W "internal/strconv.uint64pow10" .u64 Lib.pow10Tab := by
    refine Lib.tabIs_of_head (g := 1) (t := 97) (e := 51) (n := 20) ?_ ?_ ?_ ?_ ?_ ?_ h3 <;> kernel_rfl
  intro g
  unfold gl
  split
  · exact da_of_tab (by kernel_rfl) hT
  · trivial

theorem hok (os : Os) : Input.okWideB Tryd.prog ((World.laidAll Tryd.prog os Rows.fnTermsRow.laid).forCall (fun _ _ => 0) ⟨#[], #[.slice none 0 0], []⟩) 3 ⟨#[], #[.slice none 0 0], []⟩ = true := by kernel_rfl

set_option maxRecDepth 100000 in
theorem lifted (os : Os) (started : os.Started) (H : Type) (enc : TypeId × Value → H) :
    ReturnsInHanded {} Tryd.checked os 3 .any (fun w args => (Rows.fnTermsSpec.pre enc Tryd.prog Tryd.f3 Rows.fnTermsRow.domain false w args ∧ laidMetH Tryd.prog Rows.fnTermsRow.laid w) ∧ sizedMet enc Tryd.prog Tryd.f3 (OpenSpec.ofChange Rows.fnTermsSpec) false w args)
      (Rows.fnTermsSpec.post enc Tryd.prog Tryd.f3 false true false false) := by
  refine returnsInHanded_of_change_and (C := Tryd.checked) (X := fun w _ => laidMetH Tryd.prog Rows.fnTermsRow.laid w) (fun _ _ _ hh h => h.of_heap hh) own started (by kernel_rfl) Tryd.func3
    ⟨World.laidAll Tryd.prog os Rows.fnTermsRow.laid, fun _ _ => 0, ⟨#[], #[.slice none 0 0], []⟩, World.laidAll_os _ _ _, World.shaped_of_ZipB (by kernel_rfl) (by kernel_rfl), (Input.okWide_of_okWideB (base := 0) (hok os)).1, (Input.okWide_of_okWideB (hok os)).2,
      ⟨⟨ChangeSpec.pre_of_preB (fuel := 8) (by kernel_rfl), by rw [MakeChecks.laidMetH_plain _ _ _ (by kernel_rfl)]; exact laidMet_laidAll _ (by kernel_rfl) (by kernel_rfl)⟩, sizedMet_of_sizedB (fuel := 8) (by kernel_rfl)⟩, by
        simp only [Assume.holds]; exact ⟨by simp, by simp, fun _ => Modest.zero, by simp, by simp⟩⟩ ?_
  intro W base args ds gs before hval0 hW hcnd hsz0 hL0 _
  have hL : laidMet Tryd.prog Rows.fnTermsRow.laid W := by rw [MakeChecks.laidMetH_plain _ _ _ (by kernel_rfl)] at hL0; exact hL0
  have hW' := hW
  obtain ⟨p, q, hA0, hV, rfl, hfz, hnd⟩ := hW
  have hA : DataW.TrodAll enc Tryd.prog W 0 (fun _ => true) true [22] args.toList ds p := hA0
  have hval : ∀ (j : Nat) t v, ([22] : List TypeId)[j]? = some t → args.toList[j]? = some v → Value.okWide Tryd.prog W .any base t v := fun j t v h1 h2 => hval0 j t v (by simpa using h1) (by simpa using h2)
  obtain ⟨rfl, rfl⟩ := trodVars_none hV
  have hsz : ∀ m ∈ DataW.weightsEach Tryd.prog [22] ds, m ≤ reachBytes := by
    have h : (DataW.weightsEach Tryd.prog ([22] ++ []) (ds ++ [])).all (· ≤ reachBytes) = true := hsz0
    simpa using h
  obtain ⟨⟨code, u⟩, hx1, hx2, hx3⟩ := args_ok tab_ok [22] P3 args.toList ds p (by kernel_rfl) hval hA hsz
  have hF : F3 1048577 (code, u) = some (true, ()) := G3_ok 1048577 (by decide) (by decide) (bytes_ok code hx3.1)
  refine (law_runs (S3 1048577) (globs hL) hx1 hx2 hF).mono fun e W' ⟨he, bel⟩ => ?_
  subst he
  have hargs : ∃ d1, ds = [d1] := by
    obtain ⟨v0, vs0, d0, ds0, p0, q0, _, rfl, _, _, r0⟩ := trodAll_cons hA
    obtain ⟨_, rfl, _⟩ := trodAll_nil r0
    exact ⟨d0, rfl⟩
  obtain ⟨d1, rfl⟩ := hargs
  exact ⟨_, rfl, _, _, _, [], _, [], hW', trodAll_mk1 (shut_bool (by kernel_rfl) _), trodAll_below laidOut bel [22] args.toList [d1] _ (by kernel_rfl) hA, rfl, bel.frame _, fun h => by cases h⟩

theorem over : Rows.fnTermsRow.holds Tryd.pinned (OpenSpec.ofChange Rows.fnTermsSpec) :=
  OpenClaim.holds_of_wide 3 Tryd.f3 rfl rfl rfl rfl rfl rfl rfl ⟨rfl, rfl, rfl, rfl, rfl⟩ rfl rfl rfl rfl rfl (by kernel_rfl) Tryd.func3 (by kernel_rfl)
    (of_decide_eq_true (by kernel_rfl)) (by unfold Func.isWrapper; first | (rw [if_pos (by decide +kernel)]; kernel_rfl) | (rw [if_neg (by decide +kernel)]; exact ⟨rfl, rfl⟩))
    (fun os started H enc _ => lifted os started H enc)

theorem proved : Rows.FnTermsCardSaid :=
  Claim7.holds_tied_plain_at .later [] [.data, .data, .data] true (true, "ca80f4414d33efe73e2bd9a9438d6618f938bf2667520c45a47301088d288cc7") false over (fun _ h => by cases h) (by kernel_rfl) (fun _ h => by cases h) fnTerms_row_tie rfl ⟨rfl, rfl⟩ (by kernel_rfl) rfl
    (fun f fn hf hfn => by
      obtain rfl : f = 3 := Option.some.inj ((show Tryd.prog.funcNamed "loop.example/g00896/laws.FnTerms" = some 3 by kernel_rfl).symm.trans hf) |>.symm
      obtain rfl : fn = Tryd.f3 := (Option.some.inj (Tryd.func3.symm.trans hfn)).symm
      exact ⟨by kernel_rfl, fun j t ht => by
        have hp : Tryd.f3.params = #[22] := by kernel_rfl
        rw [hp] at ht
        have hm : t ∈ [22] := by simpa using Array.mem_of_getElem? ht
        have hall : ([22].all fun u => !Tryd.prog.wantsStandIn u) = true := by kernel_rfl
        exact (show Tryd.prog.wantsStandIn t = false by simpa using List.all_eq_true.1 hall t hm)⟩)
    (by kernel_rfl)
end Go.Proofs.YtmblkopilcginaaDoor.fnTerms
