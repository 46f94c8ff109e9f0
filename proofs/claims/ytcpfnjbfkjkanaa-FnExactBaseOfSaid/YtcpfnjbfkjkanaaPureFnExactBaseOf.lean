/- Proved: for every slice of ints the law FnExactBaseOf returns true (the program's BaseOf answers as the reference's), with no condition beyond the row's own. -/
import Derived.Test.YtcpfnjbfkjkanaaPFnExactBaseOfx2
import Derived.Test.YtcpfnjbfkjkanaaWSized
namespace Go.Proofs.PrintWords
/-- The name by which the printed row calls it. -/
abbrev sized_ints := @Go.Proofs.YtcpfnjbfkjkanaaW.PrintWords.sized_ints
end Go.Proofs.PrintWords
namespace Go.Proofs.Ytcpfnjbfkjkanaa.Pure
open Go.RowKit Go.Proofs.Ytcpfnjbfkjkanaa.PFnExactBaseOf Go.Proofs.YtcpfnjbfkjkanaaW.PrintWords Go.Proofs.YtcpfnjbfkjkanaaW.PrintLast

def I64 (x : Int) : Prop := -9223372036854775808 ≤ x ∧ x ≤ 9223372036854775807
theorem wf_i64 {x : Int} (h : (Lit.int .i64 x).wf = true) : I64 x := by
  simp [Lit.wf, IntKind.min, IntKind.max, IntKind.bits, IntKind.signed] at h
  unfold I64; omega
theorem w64 {x : Int} (h : I64 x) : wrap64 x = x := by unfold wrap64; unfold I64 at h; omega
theorem rd_nat (l : List Int) (i : Nat) (h : i < l.length) : rd l (i : Int) = l[i] := by unfold rd; simp [h]
theorem drop_cons {α : Type} (l : List α) (i : Nat) (h : i < l.length) : l.drop i = l[i] :: l.drop (i + 1) := by rw [List.drop_eq_getElem_cons h]

theorem set_fill (l : List Int) (i : Nat) (h : i < l.length) : (l.take i ++ List.replicate (l.length - i) 0).set i l[i] = l.take (i + 1) ++ List.replicate (l.length - (i + 1)) 0 := by
  apply List.ext_getElem
  · simp; omega
  · intro j h1 h2
    simp only [List.getElem_set, List.getElem_append, List.getElem_take, List.length_take, List.getElem_replicate]
    by_cases e : i = j
    · subst e; simp [show i < min (i + 1) l.length by omega]
    · by_cases c : j < i
      · simp [e, show j < min i l.length by omega, show j < min (i + 1) l.length by omega]
      · simp [e, show ¬ j < min i l.length by omega, show ¬ j < min (i + 1) l.length by omega]
theorem toIntS_l0 (l : List Int) (hl : l.length ≤ 1048576) (d : Nat) : ∀ (k i : Nat), l.length - i = d → i ≤ l.length → d < k →
    laws_toIntS.l0 k l (l.take i ++ List.replicate (l.length - i) 0) (i : Int) = some l := by
  induction d with
  | zero =>
    intro k i hd hi hk
    obtain ⟨k, rfl⟩ : ∃ m, k = m + 1 := ⟨k - 1, by omega⟩
    have : i = l.length := by omega
    subst this
    simp only [laws_toIntS.l0]; rw [if_neg (by omega)]; simp
  | succ d ih =>
    intro k i hd hi hk
    obtain ⟨k, rfl⟩ : ∃ m, k = m + 1 := ⟨k - 1, by omega⟩
    have hlt : i < l.length := by omega
    simp only [laws_toIntS.l0]
    rw [if_pos (by omega), if_pos (by omega), if_pos (by simp; omega), rd_nat l i hlt]
    have e : ((i : Int)).toNat = i := by simp
    rw [e, set_fill l i hlt]
    have e2 : wrap64 ((i : Int) + 1) = ((i + 1 : Nat) : Int) := by rw [w64 (by unfold I64; omega)]; simp
    rw [e2]
    exact ih k (i + 1) (by omega) (by omega) (by omega)
theorem toIntS_ev (l : List Int) (hl : l.length ≤ 1048576) : Ev (fun k => laws_toIntS.f k l) l := by
  refine ⟨l.length + 1, fun k hk => ?_⟩
  show laws_toIntS.f k l = some l
  unfold laws_toIntS.f
  rw [if_pos (by omega), if_pos (by simp; omega)]
  have := toIntS_l0 l hl l.length k 0 (by omega) (by omega) (by omega)
  simpa using this

theorem eqIntS_l0 (l : List Int) (hl : l.length ≤ 1048576) (d : Nat) : ∀ (k i : Nat), l.length - i = d → i ≤ l.length → d < k →
    laws_eqIntS.l0 k l l (i : Int) = some true := by
  induction d with
  | zero =>
    intro k i hd hi hk
    obtain ⟨k, rfl⟩ : ∃ m, k = m + 1 := ⟨k - 1, by omega⟩
    simp only [laws_eqIntS.l0]; rw [if_neg (by omega)]
  | succ d ih =>
    intro k i hd hi hk
    obtain ⟨k, rfl⟩ : ∃ m, k = m + 1 := ⟨k - 1, by omega⟩
    simp only [laws_eqIntS.l0]
    rw [if_pos (by omega), if_pos (by omega), if_pos (by omega), if_pos trivial]
    have e2 : wrap64 ((i : Int) + 1) = ((i + 1 : Nat) : Int) := by rw [w64 (by unfold I64; omega)]; simp
    rw [e2]
    exact ih k (i + 1) (by omega) (by omega) (by omega)
theorem eqIntS_ev (l : List Int) (hl : l.length ≤ 1048576) : Ev (fun k => laws_eqIntS.f k l l) true := by
  refine ⟨l.length + 1, fun k hk => ?_⟩
  show laws_eqIntS.f k l l = some true
  unfold laws_eqIntS.f
  rw [if_pos rfl]
  exact eqIntS_l0 l hl l.length k 0 (by omega) (by omega) (by omega)

instance (x : Int) : Decidable (I64 x) := inferInstanceAs (Decidable (_ ∧ _))
def addI (a b : Int) : Int × Bool := if I64 (a + b) then (a + b, true) else (0, false)
theorem spec_add {a b : Int} (ha : I64 a) (hb : I64 b) : spec_AddInt.f a b = some (addI a b) := by
  unfold spec_AddInt.f addI
  by_cases c : I64 (a + b)
  · rw [if_pos c, w64 c]
    unfold I64 at ha hb c
    have e1 : wrap64 (9223372036854775807 - b) = if b > 0 then 9223372036854775807 - b else wrap64 (9223372036854775807 - b) := by split; exact w64 (by unfold I64; omega); rfl
    have e2 : wrap64 (-9223372036854775808 - b) = if b < 0 then -9223372036854775808 - b else wrap64 (-9223372036854775808 - b) := by split; exact w64 (by unfold I64; omega); rfl
    by_cases p : b > 0
    · rw [if_pos p, e1, if_pos p, if_neg (by omega), if_neg (by omega)]
    · rw [if_neg p]
      by_cases q : b < 0
      · rw [if_pos q, e2, if_pos q, if_neg (by omega)]
      · rw [if_neg q]
  · rw [if_neg c]
    unfold I64 at ha hb c
    have e1 : wrap64 (9223372036854775807 - b) = if b > 0 then 9223372036854775807 - b else wrap64 (9223372036854775807 - b) := by split; exact w64 (by unfold I64; omega); rfl
    have e2 : wrap64 (-9223372036854775808 - b) = if b < 0 then -9223372036854775808 - b else wrap64 (-9223372036854775808 - b) := by split; exact w64 (by unfold I64; omega); rfl
    by_cases p : b > 0
    · rw [if_pos p, e1, if_pos p, if_pos (by omega)]
    · have q : b < 0 := by omega
      rw [if_neg p, if_pos q, e2, if_pos q, if_pos (by omega)]
theorem impl_add {a b : Int} (ha : I64 a) (hb : I64 b) : impl_AddInt.f a b = some (addI a b) := by
  unfold impl_AddInt.f addI
  by_cases c : I64 (a + b)
  · rw [if_pos c, w64 c]
    unfold I64 at ha hb c
    split
    · rename_i h1
      split
      · rename_i h2
        simp only [beq_iff_eq, bne_iff_ne, ne_eq, decide_eq_decide] at h1 h2
        omega
      · rfl
    · rfl
  · rw [if_neg c]
    have hw : wrap64 (a + b) = if a < 0 then a + b + 18446744073709551616 else a + b - 18446744073709551616 := by
      unfold I64 at ha hb c; unfold wrap64; split <;> omega
    unfold I64 at ha hb c
    rw [if_pos (by simp only [beq_iff_eq, decide_eq_decide]; omega), if_pos ?_]
    rw [hw]; simp only [bne_iff_ne, ne_eq, decide_eq_decide]; split <;> omega

theorem wnat {i n : Nat} (h : i < n) (hn : n ≤ 1048576) : wrap64 ((i : Int) + 1) = ((i + 1 : Nat) : Int) := by rw [w64 (by unfold I64; omega)]; simp
def fdv (a b : Int) : Int × Bool := if b = 0 then (0, false) else if Int.tmod a b = 0 then (wrap64 (Int.tdiv a b), true) else if ((decide (a < 0)) != (decide (b < 0))) = true then (wrap64 ((wrap64 (Int.tdiv a b)) - 1), true) else (wrap64 (Int.tdiv a b), true)
theorem spec_fd (a b : Int) (h : 0 ≤ b) : Ev (fun k => spec_FloorDiv.f k a b) (fdv a b) := by
  refine Ev.step (f := fun _ => some (fdv a b)) (fun k => ?_) (Ev.now _)
  unfold spec_FloorDiv.f fdv
  by_cases c : b = 0
  · rw [if_pos c, if_pos c]; simp [spec_FloorDiv.j0]
  · rw [if_neg c, if_neg c, if_neg (by omega)]; simp only [spec_FloorDiv.j0, Bool.false_eq_true, if_false, c]
    split <;> first | rfl | (split <;> rfl)
theorem impl_fd (a b : Int) (h : 0 ≤ b) : Ev (fun k => impl_FloorDiv.f k a b) (fdv a b) := by
  refine Ev.step (f := fun _ => some (fdv a b)) (fun k => ?_) (Ev.now _)
  unfold impl_FloorDiv.f fdv
  have e : (b == -1) = false := by simp; omega
  by_cases c : b = 0
  · rw [if_pos c, if_pos c]; simp [impl_FloorDiv.j0]
  · rw [if_neg c, if_neg c, e]; simp only [impl_FloorDiv.j0, Bool.false_eq_true, if_false, c, ite_self]
    split <;> first | rfl | (split <;> rfl)
def sumS : List Int → Int → Option Int
  | [], s => some s
  | x :: xs, s => if I64 (s + x) then sumS xs (s + x) else none
def baseS (l : List Int) (n : Int) (s : Int) : Int × Bool := match sumS l s with
  | none => (0, false)
  | some t => fdv t n
theorem spec_base (l : List Int) (hl : l.length ≤ 1048576) (hw : ∀ x ∈ l, I64 x) (d : Nat) : ∀ (i : Nat) (s : Int), l.length - i = d → i ≤ l.length → I64 s →
    Ev (fun k => spec_BaseOf.l0 k l s (i : Int)) (baseS (l.drop i) l.length s) := by
  induction d with
  | zero =>
    intro i s hd hi hs
    refine Ev.step (f := fun k => (spec_FloorDiv.f k s (l.length : Int)).bind fun b => some (b.1, b.2)) (fun k => ?_) ?_
    · simp only [spec_BaseOf.l0]; rw [if_neg (by omega)]
    · rw [List.drop_of_length_le (by omega)]
      exact (spec_fd s l.length (by omega)).bind (Ev.now _)
  | succ d ih =>
    intro i s hd hi hs
    have hlt : i < l.length := by omega
    have hx := hw _ (List.getElem_mem hlt)
    refine Ev.step (f := fun k => if (addI s l[i]).2 = true then spec_BaseOf.l0 k l (addI s l[i]).1 ((i + 1 : Nat) : Int) else some (0, false)) (fun k => ?_) ?_
    · simp only [spec_BaseOf.l0]; rw [if_pos (by omega), if_pos (by omega), rd_nat l i hlt, spec_add hs hx, wnat hlt hl]; rfl
    · rw [drop_cons l i hlt]
      unfold baseS sumS addI
      by_cases c : I64 (s + l[i])
      · simp only [if_pos c]; exact ih (i + 1) _ (by omega) (by omega) c
      · simp only [if_neg c, Bool.false_eq_true, if_false]; exact Ev.now _
theorem impl_base (l : List Int) (hl : l.length ≤ 1048576) (hw : ∀ x ∈ l, I64 x) (d : Nat) : ∀ (i : Nat) (s : Int), l.length - i = d → i ≤ l.length → I64 s →
    Ev (fun k => impl_BaseOf.l0 k l s l (l.length : Int) (i : Int)) (baseS (l.drop i) l.length s) := by
  induction d with
  | zero =>
    intro i s hd hi hs
    refine Ev.step (f := fun k => (impl_FloorDiv.f k s (l.length : Int)).bind fun b => some (b.1, b.2)) (fun k => ?_) ?_
    · simp only [impl_BaseOf.l0]; rw [if_neg (by omega)]
    · rw [List.drop_of_length_le (by omega)]
      exact (impl_fd s l.length (by omega)).bind (Ev.now _)
  | succ d ih =>
    intro i s hd hi hs
    have hlt : i < l.length := by omega
    have hx := hw _ (List.getElem_mem hlt)
    refine Ev.step (f := fun k => if (addI s l[i]).2 = true then impl_BaseOf.l0 k l (addI s l[i]).1 l (l.length : Int) ((i + 1 : Nat) : Int) else some (0, false)) (fun k => ?_) ?_
    · simp only [impl_BaseOf.l0]; rw [if_pos (by omega), if_pos (by omega), if_pos (by omega), rd_nat l i hlt, impl_add hs hx, wnat hlt hl]; rfl
    · rw [drop_cons l i hlt]
      unfold baseS sumS addI
      by_cases c : I64 (s + l[i])
      · simp only [if_pos c]; exact ih (i + 1) _ (by omega) (by omega) c
      · simp only [if_neg c, Bool.false_eq_true, if_false]; exact Ev.now _
theorem FnExactBaseOf : laws_FnExactBaseOf.Pure := by
  intro l _ _ hw0
  have hw : ∀ x ∈ l, I64 x := fun x hx => wf_i64 (hw0 x hx)
  by_cases hl : l.length ≤ 1048576
  · have t := toIntS_ev l hl
    have s := spec_base l hl hw l.length 0 0 (by omega) (by omega) (by unfold I64; omega)
    have p := impl_base l hl hw l.length 0 0 (by omega) (by omega) (by unfold I64; omega)
    have q := eqIntS_ev l hl
    have j : Ev (fun k => laws_FnExactBaseOf.j0 k l l false) true := by
      refine Ev.step (f := fun k => (laws_toIntS.f k l).bind fun t => (laws_eqIntS.f k l t).bind fun e => if e = true then some true else some false) (fun k => ?_) ?_
      · simp only [laws_FnExactBaseOf.j0, Bool.false_eq_true, if_false]
      · refine t.bind (q.bind ?_)
        simp only [if_true]
        exact Ev.now _
    have : Ev (fun k => laws_FnExactBaseOf.f k l) true := by
      unfold laws_FnExactBaseOf.f
      simp only [show ¬ (l.length : Int) > 1048576 by omega, if_false]
      refine t.bind (s.bind (t.bind (p.bind ?_)))
      simp only [if_true, bne_self_eq_false]
      exact j
    exact this.rounds
  · refine ⟨0, ?_⟩
    unfold laws_FnExactBaseOf.f
    rw [if_pos (by omega)]

end Go.Proofs.Ytcpfnjbfkjkanaa.Pure
