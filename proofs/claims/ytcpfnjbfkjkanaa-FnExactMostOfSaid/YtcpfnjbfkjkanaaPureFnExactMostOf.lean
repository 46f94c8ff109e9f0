/- Proved: for every slice of ints the law FnExactMostOf returns true (the program's MostOf answers as the reference's), with no condition beyond the row's own. -/
import Derived.Test.YtcpfnjbfkjkanaaPFnExactMostOfx1
import Derived.Test.YtcpfnjbfkjkanaaWSized
namespace Go.Proofs.PrintWords
/-- The name by which the printed row calls it. -/
abbrev sized_ints := @Go.Proofs.YtcpfnjbfkjkanaaW.PrintWords.sized_ints
end Go.Proofs.PrintWords
namespace Go.Proofs.Ytcpfnjbfkjkanaa.Pure
open Go.RowKit Go.Proofs.Ytcpfnjbfkjkanaa.PFnExactMostOf Go.Proofs.YtcpfnjbfkjkanaaW.PrintWords Go.Proofs.YtcpfnjbfkjkanaaW.PrintLast

def I64 (x : Int) : Prop := -9223372036854775808 ≤ x ∧ x ≤ 9223372036854775807
theorem wf_i64 {x : Int} (h : (Lit.int .i64 x).wf = true) : I64 x := by
  simp [Lit.wf, IntKind.min, IntKind.max, IntKind.bits, IntKind.signed] at h
  unfold I64; omega
theorem w64 {x : Int} (h : I64 x) : wrap64 x = x := by unfold wrap64; unfold I64 at h; omega
theorem rd_nat (l : List Int) (i : Nat) (h : i < l.length) : rd l (i : Int) = l[i] := by unfold rd; simp [h]
theorem drop_cons {α : Type} (l : List α) (i : Nat) (h : i < l.length) : l.drop i = l[i] :: l.drop (i + 1) := by rw [List.drop_eq_getElem_cons h]

theorem set_fill (l : List Int) (i : Nat) (h : i < l.length) : (l.take i ++ List.replicate (l.length - i) 0).set i l[i] = l.take (i + 1) ++ List.replicate (l.length - (i + 1)) 0 := by
  apply List.ext_getElem
  · simp; omega
  · intro j h1 h2
    simp only [List.getElem_set, List.getElem_append, List.getElem_take, List.length_take, List.getElem_replicate]
    by_cases e : i = j
    · subst e; simp [show i < min (i + 1) l.length by omega]
    · by_cases c : j < i
      · simp [e, show j < min i l.length by omega, show j < min (i + 1) l.length by omega]
      · simp [e, show ¬ j < min i l.length by omega, show ¬ j < min (i + 1) l.length by omega]
theorem toIntS_l0 (l : List Int) (hl : l.length ≤ 1048576) (d : Nat) : ∀ (k i : Nat), l.length - i = d → i ≤ l.length → d < k →
    laws_toIntS.l0 k l (l.take i ++ List.replicate (l.length - i) 0) (i : Int) = some l := by
  induction d with
  | zero =>
    intro k i hd hi hk
    obtain ⟨k, rfl⟩ : ∃ m, k = m + 1 := ⟨k - 1, by omega⟩
    have : i = l.length := by omega
    subst this
    simp only [laws_toIntS.l0]; rw [if_neg (by omega)]; simp
  | succ d ih =>
    intro k i hd hi hk
    obtain ⟨k, rfl⟩ : ∃ m, k = m + 1 := ⟨k - 1, by omega⟩
    have hlt : i < l.length := by omega
    simp only [laws_toIntS.l0]
    rw [if_pos (by omega), if_pos (by omega), if_pos (by simp; omega), rd_nat l i hlt]
    have e : ((i : Int)).toNat = i := by simp
    rw [e, set_fill l i hlt]
    have e2 : wrap64 ((i : Int) + 1) = ((i + 1 : Nat) : Int) := by rw [w64 (by unfold I64; omega)]; simp
    rw [e2]
    exact ih k (i + 1) (by omega) (by omega) (by omega)
theorem toIntS_ev (l : List Int) (hl : l.length ≤ 1048576) : Ev (fun k => laws_toIntS.f k l) l := by
  refine ⟨l.length + 1, fun k hk => ?_⟩
  show laws_toIntS.f k l = some l
  unfold laws_toIntS.f
  rw [if_pos (by omega), if_pos (by simp; omega)]
  have := toIntS_l0 l hl l.length k 0 (by omega) (by omega) (by omega)
  simpa using this

theorem eqIntS_l0 (l : List Int) (hl : l.length ≤ 1048576) (d : Nat) : ∀ (k i : Nat), l.length - i = d → i ≤ l.length → d < k →
    laws_eqIntS.l0 k l l (i : Int) = some true := by
  induction d with
  | zero =>
    intro k i hd hi hk
    obtain ⟨k, rfl⟩ : ∃ m, k = m + 1 := ⟨k - 1, by omega⟩
    simp only [laws_eqIntS.l0]; rw [if_neg (by omega)]
  | succ d ih =>
    intro k i hd hi hk
    obtain ⟨k, rfl⟩ : ∃ m, k = m + 1 := ⟨k - 1, by omega⟩
    simp only [laws_eqIntS.l0]
    rw [if_pos (by omega), if_pos (by omega), if_pos (by omega), if_pos trivial]
    have e2 : wrap64 ((i : Int) + 1) = ((i + 1 : Nat) : Int) := by rw [w64 (by unfold I64; omega)]; simp
    rw [e2]
    exact ih k (i + 1) (by omega) (by omega) (by omega)
theorem eqIntS_ev (l : List Int) (hl : l.length ≤ 1048576) : Ev (fun k => laws_eqIntS.f k l l) true := by
  refine ⟨l.length + 1, fun k hk => ?_⟩
  show laws_eqIntS.f k l l = some true
  unfold laws_eqIntS.f
  rw [if_pos rfl]
  exact eqIntS_l0 l hl l.length k 0 (by omega) (by omega) (by omega)

def ab (x : Int) : Int := if x < 0 then -x else x
def most : List Int → Int → Int
  | [], m => m
  | x :: xs, m => most xs (mx m (ab x))
theorem size_some {x : Int} (h : I64 x) : impl_size.f x = some (ab x) := by
  unfold impl_size.f ab I64 at *
  by_cases c : x < 0
  · rw [if_pos c, if_pos c]
    simp only [IntKind.wrap, IntKind.bits, IntKind.signed, Bool.false_and, Bool.false_eq_true, if_false]
    congr 1; omega
  · rw [if_neg c, if_neg c]
    simp only [IntKind.wrap, IntKind.bits, IntKind.signed, Bool.false_and, Bool.false_eq_true, if_false]
    congr 1; omega
theorem most_ge (xs : List Int) : ∀ m, m ≤ most xs m := by
  induction xs with
  | nil => intro m; simp [most]
  | cons x xs ih => intro m; have := ih (mx m (ab x)); have h2 : m ≤ mx m (ab x) := by unfold mx; split <;> omega
                    simp only [most]; omega
theorem most_le (xs : List Int) (h : ∀ x ∈ xs, I64 x) : ∀ m, m ≤ 9223372036854775808 → most xs m ≤ 9223372036854775808 := by
  induction xs with
  | nil => intro m hm; simpa [most] using hm
  | cons x xs ih =>
    intro m hm
    unfold most
    refine ih (fun y hy => h y (by simp [hy])) _ ?_
    have := h x (by simp)
    unfold mx ab I64 at *
    split <;> split <;> omega
theorem impl_l0 (l : List Int) (hl : l.length ≤ 1048576) (hw : ∀ x ∈ l, I64 x) (d : Nat) : ∀ (k i : Nat) (m : Int), l.length - i = d → i ≤ l.length → d < k → 
    impl_MostOf.l0 k m l (l.length : Int) (i : Int) = some (wrap64 (mn (most (l.drop i) m) 9223372036854775807)) := by
  induction d with
  | zero =>
    intro k i m hd hi hk
    obtain ⟨k, rfl⟩ : ∃ m, k = m + 1 := ⟨k - 1, by omega⟩
    simp only [impl_MostOf.l0]; rw [if_neg (by omega), List.drop_of_length_le (by omega)]; rfl
  | succ d ih =>
    intro k i m hd hi hk
    obtain ⟨k, rfl⟩ : ∃ m, k = m + 1 := ⟨k - 1, by omega⟩
    have hlt : i < l.length := by omega
    simp only [impl_MostOf.l0]
    rw [if_pos (by omega), if_pos (by omega), if_pos (by omega), rd_nat l i hlt, size_some (hw _ (List.getElem_mem _))]
    simp only [Option.bind_some]
    have e2 : wrap64 ((i : Int) + 1) = ((i + 1 : Nat) : Int) := by rw [w64 (by unfold I64; omega)]; simp
    rw [e2, ih k (i + 1) _ (by omega) (by omega) (by omega), drop_cons l i hlt]; rfl
theorem spec_l0 (l : List Int) (hl : l.length ≤ 1048576) (hw : ∀ x ∈ l, I64 x) (d : Nat) : ∀ (k i : Nat) (m : Int), l.length - i = d → i ≤ l.length → d < k → 0 ≤ m → m ≤ 9223372036854775807 →
    spec_MostOf.l0 k l m (i : Int) = some (mn (most (l.drop i) m) 9223372036854775807) := by
  induction d with
  | zero =>
    intro k i m hd hi hk h0 h1
    obtain ⟨k, rfl⟩ : ∃ m, k = m + 1 := ⟨k - 1, by omega⟩
    simp only [spec_MostOf.l0]; rw [if_neg (by omega), List.drop_of_length_le (by omega)]; simp only [most]; unfold mn; rw [if_neg (by omega)]
  | succ d ih =>
    intro k i m hd hi hk h0 h1
    obtain ⟨k, rfl⟩ : ∃ m, k = m + 1 := ⟨k - 1, by omega⟩
    have hlt : i < l.length := by omega
    have hx := hw _ (List.getElem_mem hlt)
    simp only [spec_MostOf.l0]
    rw [if_pos (by omega), if_pos (by omega), rd_nat l i hlt, drop_cons l i hlt]
    have e2 : wrap64 ((i : Int) + 1) = ((i + 1 : Nat) : Int) := by rw [w64 (by unfold I64; omega)]; simp
    rw [e2]
    unfold I64 at hx
    have mxe : ∀ a b : Int, spec_l1Max.f a b = some (mx a b) := by
      intro a b; unfold spec_l1Max.f mx; split <;> split <;> first | rfl | (congr 1; omega) | omega
    by_cases c : l[i] = -9223372036854775808
    · rw [if_pos c]
      have : most (l[i] :: l.drop (i + 1)) m = most (l.drop (i + 1)) 9223372036854775808 := by
        simp only [most]; congr 1; unfold mx ab; rw [c]; simp; omega
      have g := most_ge (l.drop (i + 1)) 9223372036854775808
      rw [this]; unfold mn; rw [if_pos (by omega)]
    · rw [if_neg c, mxe, mxe]
      simp only [Option.bind_some]
      have h2 : wrap64 (-l[i]) = -l[i] := w64 (by unfold I64; omega)
      have hab : ab l[i] = if l[i] < 0 then wrap64 (-l[i]) else l[i] := by rw [h2]; rfl
      have hm : 0 ≤ mx m (ab l[i]) ∧ mx m (ab l[i]) ≤ 9223372036854775807 := by unfold mx ab; split <;> split <;> omega
      have := ih k (i + 1) (mx m (ab l[i])) (by omega) (by omega) (by omega) hm.1 hm.2
      simp only [most]
      rw [← this, hab]
      split <;> rfl
theorem FnExactMostOf : laws_FnExactMostOf.Pure := by
  intro l _ _ hw0
  have hw : ∀ x ∈ l, I64 x := fun x hx => wf_i64 (hw0 x hx)
  by_cases hl : l.length ≤ 1048576
  · have t := toIntS_ev l hl
    have hm := most_le l hw 0 (by omega)
    have hg := most_ge l 0
    have s : Ev (fun k => spec_MostOf.f k l) (mn (most l 0) 9223372036854775807) := ⟨l.length + 1, fun k hk => by
      have := spec_l0 l hl hw l.length k 0 0 (by omega) (by omega) (by omega) (by omega) (by omega); simpa [spec_MostOf.f] using this⟩
    have p : Ev (fun k => impl_MostOf.f k l) (mn (most l 0) 9223372036854775807) := ⟨l.length + 1, fun k hk => by
      have := impl_l0 l hl hw l.length k 0 0 (by omega) (by omega) (by omega)
      have e : wrap64 (mn (most l 0) 9223372036854775807) = mn (most l 0) 9223372036854775807 := w64 (by unfold I64 mn; split <;> omega)
      simp only [List.drop_zero] at this; rw [e] at this; simpa [impl_MostOf.f] using this⟩
    have q := eqIntS_ev l hl
    have : Ev (fun k => laws_FnExactMostOf.f k l) true := by
      unfold laws_FnExactMostOf.f
      simp only [show ¬ (l.length : Int) > 1048576 by omega, if_false]
      refine t.bind (s.bind (t.bind (p.bind ?_)))
      simp only [if_true]
      refine t.bind (q.bind ?_)
      simp only [if_true]
      exact Ev.now _
    exact this.rounds
  · refine ⟨0, ?_⟩
    unfold laws_FnExactMostOf.f
    rw [if_pos (by omega)]

end Go.Proofs.Ytcpfnjbfkjkanaa.Pure
