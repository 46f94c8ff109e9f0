/- Proved: for any two slices of ints the law FnExactResiduals returns true (the program's Residuals answers as the reference's, in new memory), with no condition beyond the row's own. -/
import Derived.Test.YtcpfnjbfkjkanaaPFnExactResidualsx2
import Derived.Test.YtcpfnjbfkjkanaaWSized
namespace Go.Proofs.PrintWords
/-- The name by which the printed row calls it. -/
abbrev sized_ints := @Go.Proofs.YtcpfnjbfkjkanaaW.PrintWords.sized_ints
end Go.Proofs.PrintWords
namespace Go.Proofs.Ytcpfnjbfkjkanaa.Pure
open Go.RowKit Go.Proofs.Ytcpfnjbfkjkanaa.PFnExactResiduals Go.Proofs.YtcpfnjbfkjkanaaW.PrintWords Go.Proofs.YtcpfnjbfkjkanaaW.PrintLast

def I64 (x : Int) : Prop := -9223372036854775808 ≤ x ∧ x ≤ 9223372036854775807
theorem wf_i64 {x : Int} (h : (Lit.int .i64 x).wf = true) : I64 x := by
  simp [Lit.wf, IntKind.min, IntKind.max, IntKind.bits, IntKind.signed] at h
  unfold I64; omega
theorem w64 {x : Int} (h : I64 x) : wrap64 x = x := by unfold wrap64; unfold I64 at h; omega
theorem rd_nat (l : List Int) (i : Nat) (h : i < l.length) : rd l (i : Int) = l[i] := by unfold rd; simp [h]
theorem drop_cons {α : Type} (l : List α) (i : Nat) (h : i < l.length) : l.drop i = l[i] :: l.drop (i + 1) := by rw [List.drop_eq_getElem_cons h]

theorem set_fill (l : List Int) (i : Nat) (h : i < l.length) : (l.take i ++ List.replicate (l.length - i) 0).set i l[i] = l.take (i + 1) ++ List.replicate (l.length - (i + 1)) 0 := by
  apply List.ext_getElem
  · simp; omega
  · intro j h1 h2
    simp only [List.getElem_set, List.getElem_append, List.getElem_take, List.length_take, List.getElem_replicate]
    by_cases e : i = j
    · subst e; simp [show i < min (i + 1) l.length by omega]
    · by_cases c : j < i
      · simp [e, show j < min i l.length by omega, show j < min (i + 1) l.length by omega]
      · simp [e, show ¬ j < min i l.length by omega, show ¬ j < min (i + 1) l.length by omega]
theorem toIntS_l0 (l : List Int) (hl : l.length ≤ 1048576) (d : Nat) : ∀ (k i : Nat), l.length - i = d → i ≤ l.length → d < k →
    laws_toIntS.l0 k l (l.take i ++ List.replicate (l.length - i) 0) (i : Int) = some l := by
  induction d with
  | zero =>
    intro k i hd hi hk
    obtain ⟨k, rfl⟩ : ∃ m, k = m + 1 := ⟨k - 1, by omega⟩
    have : i = l.length := by omega
    subst this
    simp only [laws_toIntS.l0]; rw [if_neg (by omega)]; simp
  | succ d ih =>
    intro k i hd hi hk
    obtain ⟨k, rfl⟩ : ∃ m, k = m + 1 := ⟨k - 1, by omega⟩
    have hlt : i < l.length := by omega
    simp only [laws_toIntS.l0]
    rw [if_pos (by omega), if_pos (by omega), if_pos (by simp; omega), rd_nat l i hlt]
    have e : ((i : Int)).toNat = i := by simp
    rw [e, set_fill l i hlt]
    have e2 : wrap64 ((i : Int) + 1) = ((i + 1 : Nat) : Int) := by rw [w64 (by unfold I64; omega)]; simp
    rw [e2]
    exact ih k (i + 1) (by omega) (by omega) (by omega)
theorem toIntS_ev (l : List Int) (hl : l.length ≤ 1048576) : Ev (fun k => laws_toIntS.f k l) l := by
  refine ⟨l.length + 1, fun k hk => ?_⟩
  show laws_toIntS.f k l = some l
  unfold laws_toIntS.f
  rw [if_pos (by omega), if_pos (by simp; omega)]
  have := toIntS_l0 l hl l.length k 0 (by omega) (by omega) (by omega)
  simpa using this

theorem eqIntS_l0 (l : List Int) (hl : l.length ≤ 1048576) (d : Nat) : ∀ (k i : Nat), l.length - i = d → i ≤ l.length → d < k →
    laws_eqIntS.l0 k l l (i : Int) = some true := by
  induction d with
  | zero =>
    intro k i hd hi hk
    obtain ⟨k, rfl⟩ : ∃ m, k = m + 1 := ⟨k - 1, by omega⟩
    simp only [laws_eqIntS.l0]; rw [if_neg (by omega)]
  | succ d ih =>
    intro k i hd hi hk
    obtain ⟨k, rfl⟩ : ∃ m, k = m + 1 := ⟨k - 1, by omega⟩
    simp only [laws_eqIntS.l0]
    rw [if_pos (by omega), if_pos (by omega), if_pos (by omega), if_pos trivial]
    have e2 : wrap64 ((i : Int) + 1) = ((i + 1 : Nat) : Int) := by rw [w64 (by unfold I64; omega)]; simp
    rw [e2]
    exact ih k (i + 1) (by omega) (by omega) (by omega)
theorem eqIntS_ev (l : List Int) (hl : l.length ≤ 1048576) : Ev (fun k => laws_eqIntS.f k l l) true := by
  refine ⟨l.length + 1, fun k hk => ?_⟩
  show laws_eqIntS.f k l l = some true
  unfold laws_eqIntS.f
  rw [if_pos rfl]
  exact eqIntS_l0 l hl l.length k 0 (by omega) (by omega) (by omega)

instance (x : Int) : Decidable (I64 x) := inferInstanceAs (Decidable (_ ∧ _))
def subI (a b : Int) : Int × Bool := if I64 (a - b) then (a - b, true) else (0, false)
theorem spec_sub {a b : Int} (ha : I64 a) (hb : I64 b) : spec_SubInt.f a b = some (subI a b) := by
  unfold spec_SubInt.f subI
  have e1 : b < 0 → wrap64 (9223372036854775807 + b) = 9223372036854775807 + b := fun h => w64 (by unfold I64 at *; omega)
  have e2 : b > 0 → wrap64 (-9223372036854775808 + b) = -9223372036854775808 + b := fun h => w64 (by unfold I64 at *; omega)
  by_cases c : I64 (a - b)
  · rw [if_pos c, w64 c]
    unfold I64 at ha hb c
    by_cases p : b < 0
    · rw [if_pos p, e1 p, if_neg (by omega), if_neg (by omega)]
    · rw [if_neg p]
      by_cases q : b > 0
      · rw [if_pos q, e2 q, if_neg (by omega)]
      · rw [if_neg q]
  · rw [if_neg c]
    unfold I64 at ha hb c
    by_cases p : b < 0
    · rw [if_pos p, e1 p, if_pos (by omega)]
    · have q : b > 0 := by omega
      rw [if_neg p, if_pos q, e2 q, if_pos (by omega)]
theorem impl_sub {a b : Int} (ha : I64 a) (hb : I64 b) : impl_SubInt.f a b = some (subI a b) := by
  unfold impl_SubInt.f subI
  by_cases c : I64 (a - b)
  · rw [if_pos c, w64 c]
    unfold I64 at ha hb c
    split
    · rename_i h1
      split
      · rename_i h2
        simp only [bne_iff_ne, ne_eq, decide_eq_decide] at h1 h2
        omega
      · rfl
    · rfl
  · rw [if_neg c]
    have hw : wrap64 (a - b) = if a < 0 then a - b + 18446744073709551616 else a - b - 18446744073709551616 := by
      unfold I64 at ha hb c; unfold wrap64; split <;> omega
    unfold I64 at ha hb c
    rw [if_pos (by simp only [bne_iff_ne, ne_eq, decide_eq_decide]; omega), if_pos ?_]
    rw [hw]; simp only [bne_iff_ne, ne_eq, decide_eq_decide]; split <;> omega

theorem wnat {i n : Nat} (h : i < n) (hn : n ≤ 1048576) : wrap64 ((i : Int) + 1) = ((i + 1 : Nat) : Int) := by rw [w64 (by unfold I64; omega)]; simp
def mk (n : Nat) (k : Int) : List Int := (List.range n).map fun (i : Nat) => k + (i : Int)
theorem mk_length (n : Nat) (k : Int) : (mk n k).length = n := by simp [mk]
theorem mk_get (n : Nat) (k : Int) (i : Nat) (h : i < (mk n k).length) : (mk n k)[i] = k + i := by simp [mk]
theorem mk_set (l : List Int) (k : Int) (i : Nat) (h : i < l.length) : (mk i k ++ l.drop i).set i (k + i) = mk (i + 1) k ++ l.drop (i + 1) := by
  rw [drop_cons l i h]
  have e : i = (mk i k).length + 0 := by simp [mk_length]
  have : (mk i k ++ l[i] :: l.drop (i + 1)).set i (k + i) = mk i k ++ (l[i] :: l.drop (i + 1)).set 0 (k + i) := by
    rw [List.set_append, if_neg (by simp [mk_length])]; simp [mk_length]
  rw [this, List.set_cons_zero]
  have e2 : mk (i + 1) k = mk i k ++ [k + i] := by simp [mk, List.range_succ]
  rw [e2, List.append_assoc]; rfl
theorem mark_ev (l : List Int) (hl : l.length ≤ 1048576) (k0 : Int) (h0 : 0 ≤ k0) (h1 : k0 ≤ 1000000000) : Ev (fun k => laws_markIntS.f k l k0) (k0 + l.length, mk l.length k0) := by
  have go : ∀ (d i : Nat), l.length - i = d → i ≤ l.length → Ev (fun k => laws_markIntS.l0 k (mk i k0 ++ l.drop i) (k0 + i) (i : Int)) (k0 + l.length, mk l.length k0) := by
    intro d
    induction d with
    | zero =>
      intro i hd hi
      have e : i = l.length := by omega
      refine Ev.step (f := fun _ => some (k0 + l.length, mk l.length k0)) (fun k => ?_) (Ev.now _)
      simp only [laws_markIntS.l0]; rw [if_neg (by simp [mk_length]; omega), e, List.drop_of_length_le (by omega)]; simp
    | succ d ih =>
      intro i hd hi
      have hlt : i < l.length := by omega
      refine Ev.step (f := fun k => laws_markIntS.l0 k (mk (i + 1) k0 ++ l.drop (i + 1)) (k0 + (i + 1 : Nat)) ((i + 1 : Nat) : Int)) (fun k => ?_) (ih (i + 1) (by omega) (by omega))
      simp only [laws_markIntS.l0]
      rw [if_pos (by simp [mk_length]; omega), if_pos (by omega), wnat hlt hl]
      have e : ((i : Int)).toNat = i := by simp
      rw [e, mk_set l k0 i hlt]
      have e3 : wrap64 (k0 + (i : Int) + 1) = k0 + ((i + 1 : Nat) : Int) := by rw [w64 (by unfold I64; omega)]; push_cast; omega
      rw [e3]
  have := go l.length 0 (by omega) (by omega)
  simpa [laws_markIntS.f, mk] using this
theorem held_ev (n : Nat) (hl : n ≤ 1048576) (k0 : Int) (h0 : 0 ≤ k0) (h1 : k0 ≤ 1000000000) : Ev (fun k => laws_heldIntS.f k (mk n k0) k0) (k0 + n) := by
  have go : ∀ (d i : Nat), n - i = d → i ≤ n → Ev (fun k => laws_heldIntS.l0 k (mk n k0) (k0 + i) (i : Int)) (k0 + n) := by
    intro d
    induction d with
    | zero =>
      intro i hd hi
      have e : i = n := by omega
      refine Ev.step (f := fun _ => some (k0 + n)) (fun k => ?_) (Ev.now _)
      simp only [laws_heldIntS.l0]; rw [if_neg (by simp [mk_length]; omega), e]
    | succ d ih =>
      intro i hd hi
      have hlt : i < n := by omega
      refine Ev.step (f := fun k => laws_heldIntS.l0 k (mk n k0) (k0 + (i + 1 : Nat)) ((i + 1 : Nat) : Int)) (fun k => ?_) (ih (i + 1) (by omega) (by omega))
      simp only [laws_heldIntS.l0]
      rw [if_pos (by simp [mk_length]; omega), if_pos (by omega), rd_nat _ i (by simp [mk_length]; omega), mk_get, if_pos rfl, wnat hlt hl]
      have e3 : wrap64 (k0 + (i : Int) + 1) = k0 + ((i + 1 : Nat) : Int) := by rw [w64 (by unfold I64; omega)]; push_cast; omega
      rw [e3]
  have := go n 0 (by omega) (by omega)
  simpa [laws_heldIntS.f] using this

def resS : List Int → List Int → Option (List Int)
  | x :: xs, y :: ys => if I64 (x - y) then (resS xs ys).map fun r => (x - y) :: r else none
  | _, _ => some []
def resR (out : List Int) : Option (List Int) → List Int × Bool
  | none => ([], false)
  | some r => (out ++ r, true)
theorem resS_len : ∀ (a b r : List Int), resS a b = some r → r.length ≤ a.length
  | [], b, r, h => by simp [resS] at h; subst h; simp
  | x :: xs, [], r, h => by simp [resS] at h; subst h; simp
  | x :: xs, y :: ys, r, h => by
    simp only [resS] at h
    split at h
    · simp only [Option.map_eq_some_iff] at h
      obtain ⟨s, hs, rfl⟩ := h
      have := resS_len xs ys s hs
      simp; omega
    · cases h
theorem res_spec (a b : List Int) (hl : a.length ≤ 1048576) (he : a.length = b.length) (ha : ∀ x ∈ a, I64 x) (hb : ∀ x ∈ b, I64 x) (d : Nat) : ∀ (i : Nat) (out : List Int), a.length - i = d → i ≤ a.length → out.length = i →
    Ev (fun k => spec_Residuals.l0 k a b out (i : Int)) (resR out (resS (a.drop i) (b.drop i))) := by
  induction d with
  | zero =>
    intro i out hd hi ho
    refine Ev.step (f := fun _ => some (out, true)) (fun k => ?_) ?_
    · simp only [spec_Residuals.l0]; rw [if_neg (by omega)]
    · rw [List.drop_of_length_le (by omega)]; simp only [resS, resR, List.append_nil]; exact Ev.now _
  | succ d ih =>
    intro i out hd hi ho
    have hlt : i < a.length := by omega
    have hlt2 : i < b.length := by omega
    have hx := ha _ (List.getElem_mem hlt)
    have hy := hb _ (List.getElem_mem hlt2)
    refine Ev.step (f := fun k => if (subI a[i] b[i]).2 = true then spec_Residuals.l0 k a b (out ++ [(subI a[i] b[i]).1]) ((i + 1 : Nat) : Int) else some ([], false)) (fun k => ?_) ?_
    · simp only [spec_Residuals.l0]
      rw [if_pos (by omega), if_pos (by omega), if_pos (by omega), rd_nat a i hlt, rd_nat b i hlt2, spec_sub hx hy, wnat hlt hl]; simp only [Option.bind_some, show out.length < 17592186044416 by omega, if_true]
    · rw [drop_cons a i hlt, drop_cons b i hlt2]
      unfold resS subI
      by_cases c : I64 (a[i] - b[i])
      · simp only [if_pos c, if_true]
        have := ih (i + 1) (out ++ [a[i] - b[i]]) (by omega) (by omega) (by simp [ho])
        cases hr : resS (a.drop (i + 1)) (b.drop (i + 1)) with
        | none => rw [hr] at this; exact this
        | some r => rw [hr] at this; simpa [resR] using this
      · simp only [if_neg c, Bool.false_eq_true, if_false]; exact Ev.now _
theorem res_impl (a b : List Int) (hl : a.length ≤ 1048576) (he : a.length = b.length) (ha : ∀ x ∈ a, I64 x) (hb : ∀ x ∈ b, I64 x) (d : Nat) : ∀ (i : Nat) (out : List Int), a.length - i = d → i ≤ a.length → out.length = i →
    Ev (fun k => impl_Residuals.l0 k a b out (a.length : Int) (i : Int)) (resR out (resS (a.drop i) (b.drop i))) := by
  induction d with
  | zero =>
    intro i out hd hi ho
    refine Ev.step (f := fun _ => some (out, true)) (fun k => ?_) ?_
    · simp only [impl_Residuals.l0]; rw [if_neg (by omega)]
    · rw [List.drop_of_length_le (by omega)]; simp only [resS, resR, List.append_nil]; exact Ev.now _
  | succ d ih =>
    intro i out hd hi ho
    have hlt : i < a.length := by omega
    have hlt2 : i < b.length := by omega
    have hx := ha _ (List.getElem_mem hlt)
    have hy := hb _ (List.getElem_mem hlt2)
    refine Ev.step (f := fun k => if (subI a[i] b[i]).2 = true then impl_Residuals.l0 k a b (out ++ [(subI a[i] b[i]).1]) (a.length : Int) ((i + 1 : Nat) : Int) else some ([], false)) (fun k => ?_) ?_
    · simp only [impl_Residuals.l0]
      rw [if_pos (by omega), if_pos (by omega), if_pos (by omega), if_pos (by omega), rd_nat a i hlt, rd_nat b i hlt2, impl_sub hx hy, wnat hlt hl]; simp only [Option.bind_some, show out.length < 17592186044416 by omega, if_true]
    · rw [drop_cons a i hlt, drop_cons b i hlt2]
      unfold resS subI
      by_cases c : I64 (a[i] - b[i])
      · simp only [if_pos c, if_true]
        have := ih (i + 1) (out ++ [a[i] - b[i]]) (by omega) (by omega) (by simp [ho])
        cases hr : resS (a.drop (i + 1)) (b.drop (i + 1)) with
        | none => rw [hr] at this; exact this
        | some r => rw [hr] at this; simpa [resR] using this
      · simp only [if_neg c, Bool.false_eq_true, if_false]; exact Ev.now _
def resF (a b : List Int) : List Int × Bool := if a.length = b.length then resR [] (resS a b) else ([], false)
theorem resF_len (a b : List Int) : (resF a b).1.length ≤ a.length := by
  unfold resF
  split
  · cases h : resS a b with
    | none => simp [resR]
    | some r => have := resS_len a b r h; simpa [resR] using this
  · simp
theorem spec_res (a b : List Int) (hl : a.length ≤ 1048576) (ha : ∀ x ∈ a, I64 x) (hb : ∀ x ∈ b, I64 x) : Ev (fun k => spec_Residuals.f k a b) (resF a b) := by
  unfold spec_Residuals.f resF
  simp only [Option.bind_some]
  by_cases c : a.length = b.length
  · simp only [c, if_true]; simpa [c] using res_spec a b hl c ha hb a.length 0 [] (by omega) (by omega) rfl
  · have : ¬ (a.length : Int) = b.length := by omega
    simp only [c, this, if_false]; exact Ev.now _
theorem impl_res (a b : List Int) (hl : a.length ≤ 1048576) (ha : ∀ x ∈ a, I64 x) (hb : ∀ x ∈ b, I64 x) : Ev (fun k => impl_Residuals.f k a b) (resF a b) := by
  unfold impl_Residuals.f resF
  by_cases c : a.length = b.length
  · simp only [c, if_true]; simpa [c] using res_impl a b hl c ha hb a.length 0 [] (by omega) (by omega) rfl
  · have : ¬ (a.length : Int) = b.length := by omega
    simp only [c, this, if_false]; exact Ev.now _
theorem FnExactResiduals : laws_FnExactResiduals.Pure := by
  intro a b _ _ ha0 _ _ hb0
  have ha : ∀ x ∈ a, I64 x := fun x hx => wf_i64 (ha0 x hx)
  have hb : ∀ x ∈ b, I64 x := fun x hx => wf_i64 (hb0 x hx)
  by_cases hl : a.length ≤ 1048576
  · by_cases hm : b.length ≤ 1048576
    · have ta := toIntS_ev a hl
      have tb := toIntS_ev b hm
      have s := spec_res a b hl ha hb
      have p := impl_res a b hl ha hb
      have hr := resF_len a b
      have qr := eqIntS_ev (resF a b).1 (by omega)
      have qa := eqIntS_ev a hl
      have qb := eqIntS_ev b hm
      have ma := mark_ev a hl 1 (by omega) (by omega)
      have mb := mark_ev b hm (1 + a.length) (by omega) (by omega)
      have mr := mark_ev (resF a b).1 (by omega) 1 (by omega) (by omega)
      have hh := held_ev (resF a b).1.length (by omega) 1 (by omega) (by omega)
      have j2 : Ev (fun k => laws_FnExactResiduals.j2 k (mk (resF a b).1.length 1) (1 + (resF a b).1.length) false) true := by
        refine Ev.step (f := fun k => (laws_heldIntS.f k (mk (resF a b).1.length 1) 1).bind fun t => if t < 0 then some false else if t = 1 + (resF a b).1.length then some true else some false) (fun k => ?_) ?_
        · simp only [laws_FnExactResiduals.j2, Bool.false_eq_true, if_false]
        · refine hh.bind ?_
          simp only [show ¬ (1 : Int) + (resF a b).1.length < 0 by omega, if_false, if_true]
          exact Ev.now _
      have j1 : Ev (fun k => laws_FnExactResiduals.j1 k a b (resF a b).1 (resF a b).2 (resF a b).1 false) true := by
        refine Ev.step (f := fun k => _) (fun k => by simp only [laws_FnExactResiduals.j1, Bool.false_eq_true, if_false]; rfl) ?_
        refine mr.bind (hh.bind ?_)
        simp only [show ¬ (1 : Int) + (resF a b).1.length < 0 by omega, if_false, if_true]
        refine ta.bind (tb.bind (p.bind (qr.bind ?_)))
        simp only [if_true, bne_self_eq_false]
        exact j2
      have j0 : Ev (fun k => laws_FnExactResiduals.j0 k a b (resF a b).1 (resF a b).2 a b (resF a b).1 (resF a b).2 false) true := by
        refine Ev.step (f := fun k => _) (fun k => by simp only [laws_FnExactResiduals.j0, Bool.false_eq_true, if_false]; rfl) ?_
        refine ta.bind (qa.bind ?_)
        simp only [if_true]
        refine tb.bind (qb.bind ?_)
        simp only [if_true]
        refine ma.bind (mb.bind ?_)
        simp only [show ¬ (1 : Int) + a.length + b.length < 0 by omega, if_false]
        refine qr.bind ?_
        simp only [if_true, bne_self_eq_false]
        exact j1
      have : Ev (fun k => laws_FnExactResiduals.f k a b) true := by
        unfold laws_FnExactResiduals.f
        simp only [show ¬ (a.length : Int) > 1048576 by omega, show ¬ (b.length : Int) > 1048576 by omega, if_false]
        refine ta.bind (tb.bind (s.bind (ta.bind (tb.bind (p.bind (qr.bind ?_))))))
        simp only [if_true, bne_self_eq_false]
        exact j0
      exact this.rounds
    · refine ⟨0, ?_⟩
      unfold laws_FnExactResiduals.f
      rw [if_neg (by omega), if_pos (by omega)]
  · refine ⟨0, ?_⟩
    unfold laws_FnExactResiduals.f
    rw [if_pos (by omega)]

end Go.Proofs.Ytcpfnjbfkjkanaa.Pure
