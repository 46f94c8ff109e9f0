/- What each function answers by the evaluator, and the law; for each answer its own conditions stand ahead of it. -/
import Derived.Test.YtoilifakgbifmaaK0
import Derived.Test.YtoilifakgbifmaaEvB1
import Derived.IntWalk
set_option linter.all false
namespace Go.Pe
open Go
theorem w64 {x : Int} (h1 : -9223372036854775808 ≤ x) (h2 : x ≤ 9223372036854775807) : IntKind.i64.wrap x = x := IntWalk.i64_in x ⟨h1, h2⟩

@[simp] theorem w64s {x : Int} (h1 : -9223372036854775808 ≤ x) (h2 : x ≤ 9223372036854775807) : IntKind.i64.wrap x = x := w64 h1 h2

structure Nd where
  f : Int
  c : Int
  l : Int
  r : Int
  v : Int
deriving DecidableEq

def nd (n : Nd) : List PV := [iv n.f, iv n.c, iv n.l, iv n.r, iv n.v]

@[simp] theorem R_laws_toNode (a b c d e : Int) : RUN T k_laws_toNode [.agg [iv a, iv b, iv c, iv d, iv e]] = some ([.agg [iv a, iv b, iv c, iv d, iv e]], []) := by
  refine RUN_W T_laws_toNode rfl ?_
  simp [k_laws_toNode_ic, k_laws_toNode_rv]

@[simp] theorem R_laws_eqNode (a b c d e : Int) : RUN T k_laws_eqNode [.agg [iv a, iv b, iv c, iv d, iv e], .agg [iv a, iv b, iv c, iv d, iv e]] = some ([bv true], []) := by
  refine RUN_W T_laws_eqNode rfl ?_
  simp [k_laws_eqNode_ic, k_laws_eqNode_rv]

theorem R_laws_szNodeS (es : List (List PV)) (left : Int) (h0 : 0 ≤ left) (h1 : left ≤ 1048576) (hl : es.length ≤ 9223372036854775807) : RUN T k_laws_szNodeS [.sl 5 es, iv left] = some ([iv (if left - es.length < 0 then -1 else left - es.length)], []) := by
  refine RUN_W T_laws_szNodeS rfl ?_
  have e := w64 (x := left - es.length) (by omega) (by omega)
  simp [k_laws_szNodeS_ic, k_laws_szNodeS_rv, e]
  refine Br_i (fun h => ?_) (fun h => ?_) <;> simp at h <;> simp [h]
  omega

/-- The first place where something holds, -1 if there is none. -/
def fidx {α : Type} (p : α → Bool) (l : List α) : Int := match l.findIdx? p with
  | some i => (i : Int)
  | none => -1

/-- A node that has a node below it. -/
def above (k : Int) (n : Nd) : Bool := !decide (n.f = -1) && (decide (n.l = k) || decide (n.r = k))

def par (t : List Nd) (k : Int) : Int := fidx (above k) t

theorem wS {i n : Nat} (h : i < n) (hn : n ≤ 9223372036854775807) : IntKind.i64.wrap ((i : Int) + 1) = (i : Int) + 1 := w64 (by omega) (by omega)

theorem R_laws_szTree (es : List (List PV)) (left : Int) (h0 : 0 ≤ left) (h1 : left ≤ 1048576) (hl : es.length ≤ 9223372036854775807) : RUN T k_laws_szTree [.agg [.sl 5 es], iv left] = some ([iv (if left - es.length < 0 then -1 else left - es.length)], []) := by
  refine RUN_W T_laws_szTree rfl ?_
  have e := R_laws_szNodeS es left h0 h1 hl
  by_cases h : left - es.length < 0
  · simp only [h, if_true] at e ⊢
    simp [k_laws_szTree_ic, k_laws_szTree_rv, e]
    intro _; omega
  · simp only [h, if_false] at e ⊢
    simp [k_laws_szTree_ic, k_laws_szTree_rv, e]
    refine Br_i (fun b0 => ?_) (fun b0 => ?_) <;> (try simp at b0) <;> simp [-getElem?_pos, b0, ]
    omega

/-- A row that is filled from its beginning on. -/
def fil {α β : Type} (f : α → β) (z : β) (l : List α) (i : Nat) : List β := (l.take i).map f ++ List.replicate (l.length - i) z

theorem fil_set {α β : Type} {f : α → β} {l : List α} {z : β} {i : Nat} {x : α} (hx : l[i]? = some x) : (fil f z l i).set i (f x) = fil f z l (i + 1) := by
  unfold fil
  obtain ⟨h1, h2⟩ := List.getElem?_eq_some_iff.mp hx
  apply List.ext_getElem?
  intro j
  rw [List.getElem?_set]
  simp only [List.length_append, List.length_map, List.length_take, List.length_replicate]
  by_cases e : i = j
  · subst e
    rw [if_pos rfl, if_pos (by omega), List.getElem?_append_left (by simp; omega)]
    simp [List.getElem?_take, hx]
  · rw [if_neg e]
    by_cases hj : j < i
    · rw [List.getElem?_append_left (by simp; omega), List.getElem?_append_left (by simp; omega)]
      simp [List.getElem?_take, hj, show j < i + 1 by omega]
    · rw [List.getElem?_append_right (by simp; omega), List.getElem?_append_right (by simp; omega)]
      simp [List.getElem?_replicate]
      congr 1
      simp; omega

theorem fil_get {α β : Type} {f : α → β} {l : List α} {z : β} {i : Nat} (h : i < l.length) : (fil f z l i)[i]? = some z := by
  unfold fil
  rw [List.getElem?_append_right (by simp; omega)]
  simp [List.getElem?_replicate]; omega

theorem fil_len {α β : Type} {f : α → β} {l : List α} {z : β} {i : Nat} (h : i ≤ l.length) : (fil f z l i).length = l.length := by unfold fil; simp; omega

theorem fil_0 {α β : Type} {f : α → β} {l : List α} {z : β} : fil f z l 0 = List.replicate l.length z := by simp [fil]

theorem fil_all {α β : Type} {f : α → β} {l : List α} {z : β} {i : Nat} (h : i = l.length) : fil f z l i = l.map f := by subst h; simp [fil]

theorem R_laws_toNodeS (t : List Nd) (hl : t.length ≤ 1048576) : RUN T k_laws_toNodeS [.sl 5 (t.map nd)] = some ([.own 5 (t.map nd)], []) := by
  refine RUN_W T_laws_toNodeS rfl ?_
  have hr : roomFor 40 t.length = true := by simp [roomFor]; omega
  simp [k_laws_toNodeS_ic, k_laws_toNodeS_rv, hr]
  refine W_loop (fun n st => ∃ i : Nat, i + n = t.length ∧ st.V 0 = .sl 5 (t.map nd) ∧ st.V 3 = .ref 0 none 0 0 t.length ∧ st.V 4 = iv i ∧ st.ep = 0 ∧ st.S 0 = some (.row 5 (fil nd [iv 0, iv 0, iv 0, iv 0, iv 0] t i))) ?_ t.length _ ⟨0, by simp [fil_0]⟩
  rintro n st ⟨i, hi, h0, h3, h4, hep, hS⟩
  simp [k_laws_toNodeS_b0, h0, h3, h4, hS]
  refine Br_i (fun h => ?_) (fun h => ?_)
  · simp at h
    obtain ⟨x, hx2⟩ : ∃ x, t[i] = x := ⟨_, rfl⟩
    have hx : t[i]? = some x := by rw [← hx2]; exact List.getElem?_eq_getElem h
    have hw := wS h (by omega : t.length ≤ 9223372036854775807)
    have hg := fil_get (f := nd) (z := [iv 0, iv 0, iv 0, iv 0, iv 0]) h
    have hs := fil_set (f := nd) (z := [iv 0, iv 0, iv 0, iv 0, iv 0]) hx
    simp only [nd] at hs
    simp [-getElem?_pos, h0, h3, h4, hS, hep, h, hx, nd, hw, hg, hs, fil_len (Nat.le_of_lt h)]
    exact Rnd_n (n - 1) (by omega) ⟨i + 1, by omega, by simp [h0], by simp [h3], by simp, by simp, by simp⟩
  · simp at h
    have e := fil_all (f := nd) (z := [iv 0, iv 0, iv 0, iv 0, iv 0]) (by omega : i = t.length)
    simp [h3, hS, e]

theorem R_laws_toTree (t : List Nd) (hl : t.length ≤ 1048576) : RUN T k_laws_toTree [.agg [.sl 5 (t.map nd)]] = some ([.agg [.own 5 (t.map nd)]], []) := by
  refine RUN_W T_laws_toTree rfl ?_
  simp [k_laws_toTree_ic, k_laws_toTree_rv, R_laws_toNodeS t hl]

theorem R_laws_eqNodeS (t : List Nd) (hl : t.length ≤ 9223372036854775807) : RUN T k_laws_eqNodeS [.sl 5 (t.map nd), .sl 5 (t.map nd)] = some ([bv true], []) := by
  refine RUN_W T_laws_eqNodeS rfl ?_
  simp [k_laws_eqNodeS_ic, k_laws_eqNodeS_rv]
  refine W_loop (fun n st => ∃ i : Nat, i + n = t.length ∧ st.V 0 = .sl 5 (t.map nd) ∧ st.V 1 = .sl 5 (t.map nd) ∧ st.V 5 = iv i) ?_ t.length _ ⟨0, by simp⟩
  rintro n st ⟨i, hi, h0, h1, h5⟩
  simp [k_laws_eqNodeS_b0, h0, h1, h5]
  refine Br_i (fun h => ?_) (fun h => ?_)
  · simp at h
    obtain ⟨x, hx⟩ : ∃ x, t[i]? = some x := ⟨_, List.getElem?_eq_getElem h⟩
    have hw := wS h hl
    simp [-getElem?_pos, h0, h1, h5, h, hx, nd, hw]
    exact Rnd_n (n - 1) (by omega) ⟨i + 1, by omega, by simp [h0], by simp [h1], by simp⟩
  · simp

theorem R_laws_eqTree (t : List Nd) (hl : t.length ≤ 9223372036854775807) : RUN T k_laws_eqTree [.agg [.sl 5 (t.map nd)], .agg [.sl 5 (t.map nd)]] = some ([bv true], []) := by
  refine RUN_W T_laws_eqTree rfl ?_
  simp [k_laws_eqTree_ic, k_laws_eqTree_rv, R_laws_eqNodeS t hl]

def ints (l : List Int) : List (List PV) := l.map fun n => [iv n]

@[simp] theorem ints_len (l : List Int) : (ints l).length = l.length := by simp [ints]

theorem ints_get {l : List Int} {i : Nat} {x : Int} (h : l[i]? = some x) : (ints l)[i]? = some [iv x] := by simp [ints, h]

@[simp] theorem ints_nil : ints [] = [] := rfl

/-- The nodes above a node, from it on, if they are fewer than a number. -/
def anc (t : List Nd) : Nat → Int → Option (List Int)
  | 0, _ => none
  | n + 1, k => if par t k < 0 then some [] else (anc t n (par t k)).map (par t k :: ·)

def way (t : List Nd) (k : Int) : List Int := if 0 ≤ k ∧ k ≤ t.length - 1 then match anc t 32 k with
    | some l => (k :: l).reverse
    | none => []
  else []

theorem room8 {n : Nat} (h : n ≤ 17592186044416) : roomFor 8 n = true := by simp [roomFor]; omega

theorem R_laws_szIntS (es : List (List PV)) (left : Int) (h0 : 0 ≤ left) (h1 : left ≤ 1048576) (hl : es.length ≤ 9223372036854775807) : RUN T k_laws_szIntS [.sl 1 es, iv left] = some ([iv (if left - es.length < 0 then -1 else left - es.length)], []) := by
  refine RUN_W T_laws_szIntS rfl ?_
  have e := w64 (x := left - es.length) (by omega) (by omega)
  simp [k_laws_szIntS_ic, k_laws_szIntS_rv, e]
  refine Br_i (fun h => ?_) (fun h => ?_) <;> simp at h <;> simp [h]
  omega

theorem R_laws_toIntS (l : List Int) (hl : l.length ≤ 1048576) : RUN T k_laws_toIntS [.sl 1 (ints l)] = some ([.own 1 (ints l)], []) := by
  refine RUN_W T_laws_toIntS rfl ?_
  have hr : roomFor 8 l.length = true := room8 (by omega)
  simp [k_laws_toIntS_ic, k_laws_toIntS_rv, hr]
  refine W_loop (fun n st => ∃ i : Nat, i + n = l.length ∧ st.V 0 = .sl 1 (ints l) ∧ st.V 3 = .ref 0 none 0 0 l.length ∧ st.V 4 = iv i ∧ st.ep = 0 ∧ st.S 0 = some (.row 1 (fil (fun n => [iv n]) [iv 0] l i))) ?_ l.length _ ⟨0, by simp [fil_0]⟩
  rintro n st ⟨i, hi, h0, h3, h4, hep, hS⟩
  simp [k_laws_toIntS_b0, h0, h3, h4, hS]
  refine Br_i (fun h => ?_) (fun h => ?_)
  · simp at h
    obtain ⟨x, hx⟩ : ∃ x, l[i]? = some x := ⟨_, List.getElem?_eq_getElem h⟩
    have hw := wS h (by omega : l.length ≤ 9223372036854775807)
    have hg := fil_get (f := fun n => [iv n]) (z := [iv 0]) h
    have hs := fil_set (f := fun n => [iv n]) (z := [iv 0]) hx
    have hx' := ints_get hx
    simp [-getElem?_pos, h0, h3, h4, hS, hep, h, hx', hw, hg, hs, fil_len (Nat.le_of_lt h)]
    exact Rnd_n (n - 1) (by omega) ⟨i + 1, by omega, by simp [h0], by simp [h3], by simp, by simp, by simp⟩
  · simp at h
    have e := fil_all (f := fun n => [iv n]) (z := [iv 0]) (by omega : i = l.length)
    simp [h3, hS, e, ints]

theorem R_laws_eqIntS (l : List Int) (hl : l.length ≤ 9223372036854775807) : RUN T k_laws_eqIntS [.sl 1 (ints l), .sl 1 (ints l)] = some ([bv true], []) := by
  refine RUN_W T_laws_eqIntS rfl ?_
  simp [k_laws_eqIntS_ic, k_laws_eqIntS_rv]
  refine W_loop (fun n st => ∃ i : Nat, i + n = l.length ∧ st.V 0 = .sl 1 (ints l) ∧ st.V 1 = .sl 1 (ints l) ∧ st.V 5 = iv i) ?_ l.length _ ⟨0, by simp⟩
  rintro n st ⟨i, hi, h0, h1, h5⟩
  simp [k_laws_eqIntS_b0, h0, h1, h5]
  refine Br_i (fun h => ?_) (fun h => ?_)
  · simp at h
    obtain ⟨x, hx⟩ : ∃ x, l[i]? = some x := ⟨_, List.getElem?_eq_getElem h⟩
    have hw := wS h hl
    have hx' := ints_get hx
    simp [-getElem?_pos, h0, h1, h5, h, hx', hw]
    exact Rnd_n (n - 1) (by omega) ⟨i + 1, by omega, by simp [h0], by simp [h1], by simp⟩
  · simp

/-- The numbers from one on, so many. -/
def upto (k : Int) (n : Nat) : List Int := (List.range n).map fun (i : Nat) => k + (i : Int)

@[simp] theorem upto_len (k : Int) (n : Nat) : (upto k n).length = n := by simp [upto]

theorem drop_cons {α : Type} {l : List α} {i : Nat} {x : α} (h : l[i]? = some x) : l.drop i = x :: l.drop (i + 1) := by
  obtain ⟨h1, h2⟩ := List.getElem?_eq_some_iff.mp h
  rw [List.drop_eq_getElem_cons h1, h2]

def inI (n : Int) : Prop := -9223372036854775808 ≤ n ∧ n ≤ 9223372036854775807

/-- The range of a feature's values along a way. -/
def box (t : List Nd) (f : Int) : List Int → Int → Int → Int × Int
  | a :: b :: r, lo, hi => match t[a.toNat]? with
    | none => (lo, hi)
    | some x => if x.f = f then (if x.l = b then box t f (b :: r) lo (min hi x.c) else if x.c = 9223372036854775807 then box t f (b :: r) lo hi else box t f (b :: r) (max lo (x.c + 1)) hi) else box t f (b :: r) lo hi
  | _, lo, hi => (lo, hi)

def wfN (n : Nd) : Prop := inI n.f ∧ inI n.c ∧ inI n.l ∧ inI n.r ∧ inI n.v

def within (n a b : Int) : Bool := decide (a ≤ n) && decide (n ≤ b)

theorem eqP_5 (a b c d e a' b' c' d' e' : Int) : eqP [.i .i64, .i .i64, .i .i64, .i .i64, .i .i64] (.agg [iv a, iv b, iv c, iv d, iv e]) (.agg [iv a', iv b', iv c', iv d', iv e']) = some (decide (a = a' ∧ b = b' ∧ c = c' ∧ d = d' ∧ e = e')) := by
  simp only [eqP, eqCells, eqV_i, Option.bind_some]
  by_cases h1 : a = a' <;> by_cases h2 : b = b' <;> by_cases h3 : c = c' <;> by_cases h4 : d = d' <;> by_cases h5 : e = e' <;> simp [h1, h2, h3, h4, h5]

/-- A row within rows: a slice's own, or one that is read. -/
def cel (q : Bool) (l : List Int) : PV := if q then .own 1 (ints l) else .sl 1 (ints l)

@[simp] theorem fz_cel (q : Bool) (l : List Int) : fz (cel q l) = .sl 1 (ints l) := by cases q <;> simp [cel]

def rws (q : Bool) (L : List (List Int)) : List (List PV) := L.map fun l => [cel q l]

@[simp] theorem rws_len (q : Bool) (L : List (List Int)) : (rws q L).length = L.length := by simp [rws]

theorem yv_gu {s : St} {d : Option Dst} {op : IOp} {g : Opd} {v : Bool} {x : PV} : (yv s ⟨d, op, some (g, v)⟩ = some x) = (Ob' (guardP v (g.get s)) fun t => Br t (WI (fun _ => []) (fun _ _ => none) op s (fun y _ => y = x)) (PV.v Go.undef = x)) := by
  simp only [yv, evG_some, WI, Ob', Br, Option.map_eq_some_iff, Option.bind_eq_some_iff, eq_iff_iff]
  constructor
  · rintro ⟨⟨y, s'⟩, ⟨t, h1, h2⟩, h3⟩
    refine ⟨t, h1, fun ht => ?_, fun ht => ?_⟩ <;> subst ht
    · exact ⟨y, s', by simpa using h2, h3⟩
    · simp at h2; obtain ⟨rfl, rfl⟩ := h2; exact h3
  · rintro ⟨t, h1, h2, h3⟩
    cases t with
    | true => obtain ⟨y, s', h4, h5⟩ := h2 rfl; exact ⟨(y, s'), ⟨true, h1, by simpa using h4⟩, h5⟩
    | false => exact ⟨_, ⟨false, h1, rfl⟩, h3 rfl⟩

@[simp] theorem chkTodo_g {s : St} {d : Option Dst} {op : IOp} {g : Opd} {v : Bool} {x : PV} {n : Nat} {r : List (IOper × PV × Nat)} : chkTodo s ((⟨d, op, some (g, v)⟩, x, n + 1) :: r) = ((Ob' (guardP v (g.get s)) fun t => Br t (WI (fun _ => []) (fun _ _ => none) op s (fun y _ => y = x)) (PV.v Go.undef = x)) ∧ chkTodo s r) := by
  simp only [chkTodo, yv_gu]

@[simp] theorem chkPast_g {V E : Nat → PV} {d : Option Dst} {op : IOp} {g : Opd} {v : Bool} {x : PV} {n : Nat} {s : St} {ms : List St} : chkPast V E ⟨d, op, some (g, v)⟩ x (n + 1) (s :: ms) = ((Ob' (guardP v (g.get { s with V := V, E := E })) fun t => Br t (WI (fun _ => []) (fun _ _ => none) op { s with V := V, E := E } (fun y _ => y = x)) (PV.v Go.undef = x)) ∧ chkPast V E ⟨d, op, some (g, v)⟩ x n ms) := by
  simp only [chkPast, yv_gu]

theorem snoc_nat {P : Nat → Prop} {i : Nat} (h : ∀ j, j < i → P j) (hi : P i) : ∀ j, j < i + 1 → P j := by
  intro j hj
  by_cases e : j = i
  · subst e; exact hi
  · exact h j (by omega)

theorem wf64 {n : Int} (h : (Lit.int .i64 n).wf = true) : -9223372036854775808 ≤ n ∧ n ≤ 9223372036854775807 := bounds_i64 h

theorem rows_of {α : Type} {f : α → List PV} {p : α → Prop} {tys : List TY} (h : ∀ cs, ShpL tys cs → ∃ a, f a = cs ∧ p a) : ∀ {es : List (List PV)}, (∀ cs ∈ es, ShpL tys cs) → ∃ l : List α, l.map f = es ∧ ∀ a ∈ l, p a
  | [], _ => ⟨[], rfl, by simp⟩
  | e :: es, hs => by
    obtain ⟨a, ha, hp⟩ := h e (hs e (by simp))
    obtain ⟨l, hl, hq⟩ := rows_of h (es := es) (fun cs hc => hs cs (by simp [hc]))
    refine ⟨a :: l, by simp [ha, hl], fun b hb => ?_⟩
    rcases List.mem_cons.mp hb with e | e
    · subst e; exact hp
    · exact hq b e

abbrev tyNd : List TY := [.int .i64, .int .i64, .int .i64, .int .i64, .int .i64]

theorem shp_nd (cs : List PV) (h : ShpL tyNd cs) : ∃ n : Nd, nd n = cs ∧ wfN n := by
  simp only [ShpL, Shp] at h
  obtain ⟨_, _, rfl, ⟨a, rfl, h1⟩, _, _, rfl, ⟨b, rfl, h2⟩, _, _, rfl, ⟨c, rfl, h3⟩, _, _, rfl, ⟨d, rfl, h4⟩, _, _, rfl, ⟨e, rfl, h5⟩, rfl⟩ := h
  exact ⟨⟨a, b, c, d, e⟩, rfl, wf64 h1, wf64 h2, wf64 h3, wf64 h4, wf64 h5⟩

theorem shp_intL (cs : List PV) (h : ShpL [.int .i64] cs) : ∃ n : Int, [iv n] = cs ∧ inI n := by
  simp only [ShpL, Shp] at h
  obtain ⟨_, _, rfl, ⟨a, rfl, h1⟩, rfl⟩ := h
  exact ⟨a, rfl, wf64 h1⟩

theorem of_all {P : Program} {l : List TypeId} (h : (l.all fun t => P.readableRec t && decide (t < P.types.size)) = true) : ∀ t ∈ l, P.readableRec t = true ∧ t < P.types.size := by
  intro t ht
  have := List.all_eq_true.mp h t ht
  simpa using this

theorem args2 {p q : Bool × List TY} {pvs : List PV} (h : All2 (fun p c => ShpA p.1 p.2 c) [p, q] pvs) : ∃ a b, pvs = [a, b] ∧ ShpA p.1 p.2 a ∧ ShpA q.1 q.2 b := by
  cases h with
  | cons h1 t => cases t with
    | cons h2 t => cases t with
      | nil => exact ⟨_, _, rfl, h1, h2⟩

/-- The bytes that a source draws from. -/
def byts (B : List Int) : List (List PV) := B.map fun n => [.v (.int .u8 n)]

@[simp] theorem byts_len (B : List Int) : (byts B).length = B.length := by simp [byts]

/-- The end of a call of which something is told. -/
def FinG (rv : List RV) (io : Nat) (G : List PV × List PV → Prop) (_ : Dm rv) (_ : Dm G) (e : Ex) (s : St) : Prop := (e = .normal ∨ e = .ret) ∧ ∃ r, finishEv ⟨[], rv, .skip⟩ io s = some r ∧ G r

@[simp] theorem FinG_n {rv : List RV} {io : Nat} {G : List PV × List PV → Prop} {s : St} : FinG rv io G ⟨⟩ ⟨⟩ .normal s = ∃ r, finishEv ⟨[], rv, .skip⟩ io s = some r ∧ G r := by simp [FinG]

@[simp] theorem FinG_r {rv : List RV} {io : Nat} {G : List PV × List PV → Prop} {s : St} : FinG rv io G ⟨⟩ ⟨⟩ .ret s = ∃ r, finishEv ⟨[], rv, .skip⟩ io s = some r ∧ G r := by simp [FinG]

theorem nd_eq {x y : Nd} : x = y ↔ x.f = y.f ∧ x.c = y.c ∧ x.l = y.l ∧ x.r = y.r ∧ x.v = y.v := by
  cases x; cases y; simp

open Classical in
theorem R_spec_SameTree (t u : List Nd) (ht : t.length ≤ 9223372036854775807) (hu : u.length ≤ 9223372036854775807) : RUN T k_spec_SameTree [.agg [.sl 5 (t.map nd)], .agg [.sl 5 (u.map nd)]] = some ([bv (decide (t = u))], []) := by
  refine RUN_W T_spec_SameTree rfl ?_
  rcases Classical.propComplete ((t.length : Int) = u.length) with hl | hl
  case inr =>
    have : decide (t = u) = false := by simp; rintro rfl; simp at hl
    simp [-getElem?_pos, k_spec_SameTree_ic, k_spec_SameTree_rv, hl, this]
  simp [-getElem?_pos, k_spec_SameTree_ic, k_spec_SameTree_rv, hl]
  have hlen : t.length = u.length := by simp at hl; omega
  refine W_loop (fun n st => ∃ i : Nat, i + n = t.length ∧ (∀ j, j < i → t[j]? = u[j]?) ∧ st.V 2 = .ptr 0 none 0 0 0 ∧ st.V 3 = .ptr 1 none 0 0 0 ∧ st.V 5 = iv i ∧ st.S 0 = some (.box [.sl 5 (t.map nd)]) ∧ st.S 1 = some (.box [.sl 5 (u.map nd)])) ?_ t.length _ ⟨0, by simp⟩
  rintro n st ⟨i, hi, hj, v2, v3, v5, hS, hS1⟩
  simp [k_spec_SameTree_b0, v2, v3, v5, hS]
  refine Br_i (fun h => ?_) (fun h => ?_)
  · simp at h
    obtain ⟨x, hx⟩ : ∃ x, t[i]? = some x := ⟨_, List.getElem?_eq_getElem h⟩
    obtain ⟨y, hy⟩ : ∃ y, u[i]? = some y := ⟨_, List.getElem?_eq_getElem (by omega)⟩
    have hw := wS h ht
    have hiu : i < u.length := by omega
    rcases Classical.propComplete (x.f = y.f ∧ x.c = y.c ∧ x.l = y.l ∧ x.r = y.r ∧ x.v = y.v) with e | e
    · simp [-getElem?_pos, v2, v3, v5, hS, hS1, hx, hy, nd, h, hiu, hw, eqP_5, e]
      refine Rnd_n (n - 1) (by omega) ⟨i + 1, by omega, snoc_nat hj ?_, by simp [v2], by simp [v3], by simp, by simp [hS], by simp [hS1]⟩
      rw [hx, hy, nd_eq.mpr (of_eq_true e)]
    · have : decide (t = u) = false := by
        simp
        rintro rfl
        rw [hx] at hy
        cases hy
        simp at e
      simp [-getElem?_pos, v2, v3, v5, hS, hS1, hx, hy, nd, h, hiu, hw, eqP_5, e, this]
  · simp at h
    have : t = u := by
      apply List.ext_getElem?
      intro j
      by_cases c : j < i
      · exact hj j c
      · rw [List.getElem?_eq_none (by omega), List.getElem?_eq_none (by omega)]
    simp [this]

def strs (l : List ByteArray) : List (List PV) := l.map fun s => [.v (.string s)]

@[simp] theorem strs_len (l : List ByteArray) : (strs l).length = l.length := by simp [strs]

theorem strs_get {l : List ByteArray} {i : Nat} {x : ByteArray} (h : l[i]? = some x) : (strs l)[i]? = some [.v (.string x)] := by simp [strs, h]

def szs (l : List ByteArray) : Nat := (l.map ByteArray.size).sum

theorem szs_cons (x : ByteArray) (l : List ByteArray) : szs (x :: l) = x.size + szs l := by simp [szs]

def tots (l : List ByteArray) : Nat := l.length + szs l

theorem R_laws_szStringS (l : List ByteArray) (left : Int) (h0 : 0 ≤ left) (h1 : left ≤ 1048576) (hl : l.length ≤ 9223372036854775807) (hll : ∀ x ∈ l, x.size ≤ 9223372036854775807) : RUN T k_laws_szStringS [.sl 1 (strs l), iv left] = some ([iv (if left - tots l < 0 then -1 else left - tots l)], []) := by
  refine RUN_W T_laws_szStringS rfl ?_
  have e := w64 (x := left - l.length) (by omega) (by omega)
  have ht : tots l = l.length + szs l := rfl
  simp [k_laws_szStringS_ic, k_laws_szStringS_rv, e]
  refine Br_i (fun h => ?_) (fun h => ?_)
  · simp at h
    rw [if_pos (by omega)]
    simp
  · simp at h
    simp
    refine W_loop (fun n st => ∃ i : Nat, i + n = l.length ∧ ∃ r : Int, 0 ≤ r ∧ r ≤ 1048576 ∧ r - szs (l.drop i) = left - tots l ∧ st.V 0 = .sl 1 (strs l) ∧ st.V 1 = iv r ∧ st.V 5 = iv i) ?_ l.length _ ⟨0, by omega, left - l.length, by omega, by omega, by simp; omega, by simp, by simp, by simp⟩
    rintro n st ⟨i, hi, r, hr0, hr1, hr, v0, v1, v5⟩
    simp [k_laws_szStringS_b0, v0, v5]
    refine Br_i (fun h => ?_) (fun h => ?_)
    · simp at h
      obtain ⟨x, hx⟩ : ∃ x, l[i]? = some x := ⟨_, List.getElem?_eq_getElem h⟩
      have hx' := strs_get hx
      have hw := wS h hl
      have hxs := hll x (List.mem_of_getElem? hx)
      rw [drop_cons hx, szs_cons] at hr
      have e2 := w64 (x := r - x.size) (by omega) (by omega)
      rcases Classical.propComplete (r - x.size < 0) with d | d
      · rw [if_pos (by simp at d; omega)]
        simp [-getElem?_pos, v0, v1, v5, hx', h, e2, d]
      · simp [-getElem?_pos, v0, v1, v5, hx', h, hw, e2, d]
        simp at d
        exact Rnd_n (n - 1) (by omega) ⟨i + 1, by omega, r - x.size, by omega, by omega, by omega, by simp [v0], by simp, by simp⟩
    · simp at h
      rw [List.drop_eq_nil_of_le (by omega)] at hr
      have : szs [] = 0 := rfl
      rw [if_neg (by omega)]
      simp [v1]
      omega

theorem R_laws_toStringS (l : List ByteArray) (hl : l.length ≤ 1048576) : RUN T k_laws_toStringS [.sl 1 (strs l)] = some ([.own 1 (strs l)], []) := by
  refine RUN_W T_laws_toStringS rfl ?_
  have hr : roomFor 16 l.length = true := by simp [roomFor]; omega
  simp [k_laws_toStringS_ic, k_laws_toStringS_rv, hr]
  refine W_loop (fun n st => ∃ i : Nat, i + n = l.length ∧ st.V 0 = .sl 1 (strs l) ∧ st.V 3 = .ref 0 none 0 0 l.length ∧ st.V 4 = iv i ∧ st.ep = 0 ∧ st.S 0 = some (.row 1 (fil (fun s => [.v (.string s)]) [.v (.string (bs []))] l i))) ?_ l.length _ ⟨0, by simp [fil_0]⟩
  rintro n st ⟨i, hi, h0, h3, h4, hep, hS⟩
  simp [k_laws_toStringS_b0, h0, h3, h4, hS]
  refine Br_i (fun h => ?_) (fun h => ?_)
  · simp at h
    obtain ⟨x, hx⟩ : ∃ x, l[i]? = some x := ⟨_, List.getElem?_eq_getElem h⟩
    have hw := wS h (by omega : l.length ≤ 9223372036854775807)
    have hg := fil_get (f := fun s => [PV.v (.string s)]) (z := [.v (.string (bs []))]) h
    have hs := fil_set (f := fun s => [PV.v (.string s)]) (z := [.v (.string (bs []))]) hx
    have hx' := strs_get hx
    simp [-getElem?_pos, h0, h3, h4, hS, hep, h, hx', hw, hg, hs, fil_len (Nat.le_of_lt h)]
    exact Rnd_n (n - 1) (by omega) ⟨i + 1, by omega, by simp [h0], by simp [h3], by simp, by simp, by simp⟩
  · simp at h
    have e := fil_all (f := fun s => [PV.v (.string s)]) (z := [.v (.string (bs []))]) (by omega : i = l.length)
    simp [h3, hS, e, strs]

theorem R_laws_eqStringS (l : List ByteArray) (hl : l.length ≤ 9223372036854775807) : RUN T k_laws_eqStringS [.sl 1 (strs l), .sl 1 (strs l)] = some ([bv true], []) := by
  refine RUN_W T_laws_eqStringS rfl ?_
  simp [k_laws_eqStringS_ic, k_laws_eqStringS_rv]
  refine W_loop (fun n st => ∃ i : Nat, i + n = l.length ∧ st.V 0 = .sl 1 (strs l) ∧ st.V 1 = .sl 1 (strs l) ∧ st.V 5 = iv i) ?_ l.length _ ⟨0, by simp⟩
  rintro n st ⟨i, hi, h0, h1, h5⟩
  simp [k_laws_eqStringS_b0, h0, h1, h5]
  refine Br_i (fun h => ?_) (fun h => ?_)
  · simp at h
    obtain ⟨x, hx⟩ : ∃ x, l[i]? = some x := ⟨_, List.getElem?_eq_getElem h⟩
    have hw := wS h hl
    have hx' := strs_get hx
    simp [-getElem?_pos, h0, h1, h5, hx', hw, h]
    exact Rnd_n (n - 1) (by omega) ⟨i + 1, by omega, by simp [h0], by simp [h1], by simp⟩
  · simp at h
    simp

def celT (q : Bool) (t : List Nd) : PV := if q then .own 5 (t.map nd) else .sl 5 (t.map nd)

@[simp] theorem fz_celT (q : Bool) (t : List Nd) : fz (celT q t) = .sl 5 (t.map nd) := by cases q <;> simp [celT]

def trs (q : Bool) (M : List (List Nd)) : List (List PV) := M.map fun t => [celT q t]

@[simp] theorem trs_len (q : Bool) (M : List (List Nd)) : (trs q M).length = M.length := by simp [trs]

theorem trs_get {q : Bool} {M : List (List Nd)} {i : Nat} {t : List Nd} (h : M[i]? = some t) : (trs q M)[i]? = some [celT q t] := by simp [trs, h]

def lenT (M : List (List Nd)) : Nat := (M.map List.length).sum

def totT (M : List (List Nd)) : Nat := M.length + lenT M

theorem lenT_cons (l : List Nd) (M : List (List Nd)) : lenT (l :: M) = l.length + lenT M := by simp [lenT]

theorem lenT_mem {M : List (List Nd)} : ∀ {l : List Nd}, l ∈ M → l.length ≤ lenT M := by
  induction M with
  | nil => simp
  | cons a M ih =>
    intro l h
    rw [lenT_cons]
    rcases List.mem_cons.mp h with e | e
    · subst e; omega
    · have := ih e; omega

theorem R_laws_szTreeS (q : Bool) (M : List (List Nd)) (left : Int) (h0 : 0 ≤ left) (h1 : left ≤ 1048576) (hl : M.length ≤ 9223372036854775807) (hll : ∀ l ∈ M, l.length ≤ 9223372036854775807) : RUN T k_laws_szTreeS [.sl 1 (trs q M), iv left] = some ([iv (if left - totT M < 0 then -1 else left - totT M)], []) := by
  refine RUN_W T_laws_szTreeS rfl ?_
  have e := w64 (x := left - M.length) (by omega) (by omega)
  have ht : totT M = M.length + lenT M := rfl
  simp [k_laws_szTreeS_ic, k_laws_szTreeS_rv, e]
  refine Br_i (fun h => ?_) (fun h => ?_)
  · simp at h
    rw [if_pos (by omega)]
    simp
  · simp at h
    simp
    refine W_loop (fun n st => ∃ i : Nat, i + n = M.length ∧ ∃ r : Int, 0 ≤ r ∧ r ≤ 1048576 ∧ r - lenT (M.drop i) = left - totT M ∧ st.V 0 = .sl 1 (trs q M) ∧ st.V 1 = iv r ∧ st.V 5 = iv i) ?_ M.length _ ⟨0, by omega, left - M.length, by omega, by omega, by simp; omega, by simp, by simp, by simp⟩
    rintro n st ⟨i, hi, r, hr0, hr1, hr, v0, v1, v5⟩
    simp [k_laws_szTreeS_b0, v0, v5]
    refine Br_i (fun h => ?_) (fun h => ?_)
    · simp at h
      obtain ⟨l, hx⟩ : ∃ l, M[i]? = some l := ⟨_, List.getElem?_eq_getElem h⟩
      have hx' := trs_get (q := q) hx
      have hw := wS h hl
      have hz := R_laws_szTree (l.map nd) r hr0 hr1 (by simpa using hll l (List.mem_of_getElem? hx))
      rw [List.length_map] at hz
      rw [drop_cons hx, lenT_cons] at hr
      by_cases d : r - l.length < 0
      · rw [if_pos d] at hz
        rw [if_pos (by omega)]
        simp [-getElem?_pos, v0, v1, v5, hx', hz, h]
      · rw [if_neg d] at hz
        have d' : ¬ (r - l.length < 0) := d
        simp [-getElem?_pos, v0, v1, v5, hx', hz, h, hw, d']
        exact Rnd_n (n - 1) (by omega) ⟨i + 1, by omega, r - l.length, by omega, by omega, by omega, by simp [v0], by simp, by simp⟩
    · simp at h
      rw [List.drop_eq_nil_of_le (by omega)] at hr
      have : lenT [] = 0 := rfl
      rw [if_neg (by omega)]
      simp [v1]
      omega

theorem R_laws_toTreeS (q : Bool) (M : List (List Nd)) (hl : M.length ≤ 1048576) (hll : ∀ l ∈ M, l.length ≤ 1048576) : RUN T k_laws_toTreeS [.sl 1 (trs q M)] = some ([.own 1 (trs true M)], []) := by
  refine RUN_W T_laws_toTreeS rfl ?_
  have hr : roomFor 24 M.length = true := by simp [roomFor]; omega
  simp [k_laws_toTreeS_ic, k_laws_toTreeS_rv, hr]
  refine W_loop (fun n st => ∃ i : Nat, i + n = M.length ∧ st.V 0 = .sl 1 (trs q M) ∧ st.V 3 = .ref 0 none 0 0 M.length ∧ st.V 4 = iv i ∧ 0 < st.nx ∧ st.S 0 = some (.row 1 (fil (fun l => [celT true l]) [.own 5 []] M i))) ?_ M.length _ ⟨0, by simp [fil_0]⟩
  rintro n st ⟨i, hi, v0, v3, v4, hnx, hS⟩
  simp [k_laws_toTreeS_b0, v0, v3, v4, hS]
  have z := fr hnx
  refine Br_i (fun h => ?_) (fun h => ?_)
  · simp at h
    obtain ⟨l, hx⟩ : ∃ l, M[i]? = some l := ⟨_, List.getElem?_eq_getElem h⟩
    have hw := wS h (by omega : M.length ≤ 9223372036854775807)
    have hg := fil_get (f := fun l => [celT true l]) (z := [.own 5 []]) h
    have hs := fil_set (f := fun l => [celT true l]) (z := [.own 5 []]) hx
    have hx' := trs_get (q := q) hx
    have hz := R_laws_toTree l (hll l (List.mem_of_getElem? hx))
    have hc : celT true l = .own 5 (l.map nd) := rfl
    rw [hc] at hs
    simp [-getElem?_pos, v0, v3, v4, hS, z, h, hx', hw, hg, hs, hz, fil_len (Nat.le_of_lt h)]
    exact Rnd_n (n - 1) (by omega) ⟨i + 1, by omega, by simp [v0], by simp [v3], by simp, by simp, by simp [z]⟩
  · simp at h
    have e := fil_all (f := fun l => [celT true l]) (z := [.own 5 []]) (by omega : i = M.length)
    simp [v3, hS, e, trs]

theorem R_laws_eqTreeS (p q : Bool) (M : List (List Nd)) (hl : M.length ≤ 9223372036854775807) (hll : ∀ l ∈ M, l.length ≤ 9223372036854775807) : RUN T k_laws_eqTreeS [.sl 1 (trs p M), .sl 1 (trs q M)] = some ([bv true], []) := by
  refine RUN_W T_laws_eqTreeS rfl ?_
  simp [k_laws_eqTreeS_ic, k_laws_eqTreeS_rv]
  refine W_loop (fun n st => ∃ i : Nat, i + n = M.length ∧ st.V 0 = .sl 1 (trs p M) ∧ st.V 1 = .sl 1 (trs q M) ∧ st.V 5 = iv i) ?_ M.length _ ⟨0, by simp⟩
  rintro n st ⟨i, hi, v0, v1, v5⟩
  simp [k_laws_eqTreeS_b0, v0, v1, v5]
  refine Br_i (fun h => ?_) (fun h => ?_)
  · simp at h
    obtain ⟨l, hx⟩ : ∃ l, M[i]? = some l := ⟨_, List.getElem?_eq_getElem h⟩
    have hw := wS h hl
    have hx1 := trs_get (q := p) hx
    have hx2 := trs_get (q := q) hx
    have hz := R_laws_eqTree l (hll l (List.mem_of_getElem? hx))
    simp [-getElem?_pos, v0, v1, v5, h, hx1, hx2, hw, hz]
    exact Rnd_n (n - 1) (by omega) ⟨i + 1, by omega, by simp [v0], by simp [v1], by simp⟩
  · simp at h
    simp

structure Mo where
  ns : List ByteArray
  ix : List Int
  b : Int
  ts : List (List Nd)

abbrev moS (q : Bool) (m : Mo) : PV := .agg [.sl 1 (strs m.ns), .sl 1 (ints m.ix), iv m.b, .sl 1 (trs q m.ts)]

abbrev moO (m : Mo) : PV := .agg [.own 1 (strs m.ns), .own 1 (ints m.ix), iv m.b, .own 1 (trs true m.ts)]

/-- No list is longer than a list can be. -/
structure MoL (n : Nat) (m : Mo) : Prop where
  ns : m.ns.length ≤ n
  ss : ∀ x ∈ m.ns, x.size ≤ n
  ix : m.ix.length ≤ n
  ts : m.ts.length ≤ n
  tl : ∀ l ∈ m.ts, l.length ≤ n

def totM (m : Mo) : Nat := tots m.ns + m.ix.length + totT m.ts

theorem szs_mem {l : List ByteArray} : ∀ {x : ByteArray}, x ∈ l → x.size ≤ szs l := by
  induction l with
  | nil => simp
  | cons a l ih =>
    intro x h
    rw [szs_cons]
    rcases List.mem_cons.mp h with e | e
    · subst e; omega
    · have := ih e; omega

theorem MoL.of {m : Mo} {n : Nat} (h : totM m ≤ n) : MoL n m := by
  unfold totM tots totT at h
  exact ⟨by omega, fun x hx => by have := szs_mem hx; omega, by omega, by omega, fun x hx => by have := lenT_mem hx; omega⟩

theorem R_laws_szModel (q : Bool) (m : Mo) (left : Int) (h0 : 0 ≤ left) (h1 : left ≤ 1048576) (hm : MoL 9223372036854775807 m) : RUN T k_laws_szModel [moS q m, iv left] = some ([iv (if left - totM m < 0 then -1 else left - totM m)], []) := by
  refine RUN_W T_laws_szModel rfl ?_
  have ht : totM m = tots m.ns + m.ix.length + totT m.ts := rfl
  have e1 := R_laws_szStringS m.ns left h0 h1 hm.ns hm.ss
  by_cases d : left - tots m.ns < 0
  · rw [if_pos d] at e1
    rw [if_pos (by omega)]
    simp [k_laws_szModel_ic, k_laws_szModel_rv, e1]
  · rw [if_neg d] at e1
    have e2 := R_laws_szIntS (ints m.ix) (left - tots m.ns) (by omega) (by omega) (by simpa using hm.ix)
    rw [ints_len] at e2
    by_cases d2 : left - tots m.ns - m.ix.length < 0
    · rw [if_pos d2] at e2
      rw [if_pos (by omega)]
      simp [k_laws_szModel_ic, k_laws_szModel_rv, e1, e2, d]
    · rw [if_neg d2] at e2
      have e3 := R_laws_szTreeS q m.ts (left - tots m.ns - m.ix.length) (by omega) (by omega) hm.ts hm.tl
      by_cases d3 : left - tots m.ns - m.ix.length - totT m.ts < 0
      · rw [if_pos d3] at e3
        rw [if_pos (by omega)]
        simp [k_laws_szModel_ic, k_laws_szModel_rv, e1, e2, e3, d, d2]
      · rw [if_neg d3] at e3
        rw [if_neg (by omega)]
        simp [k_laws_szModel_ic, k_laws_szModel_rv, e1, e2, e3, d, d2, d3]
        omega

theorem R_laws_toModel (q : Bool) (m : Mo) (hm : MoL 1048576 m) : RUN T k_laws_toModel [moS q m] = some ([moO m], []) := by
  refine RUN_W T_laws_toModel rfl ?_
  simp [k_laws_toModel_ic, k_laws_toModel_rv, R_laws_toStringS m.ns hm.ns, R_laws_toIntS m.ix hm.ix, R_laws_toTreeS q m.ts hm.ts hm.tl]

theorem R_laws_eqModel (p q : Bool) (m : Mo) (hm : MoL 9223372036854775807 m) : RUN T k_laws_eqModel [moS p m, moS q m] = some ([bv true], []) := by
  refine RUN_W T_laws_eqModel rfl ?_
  simp [k_laws_eqModel_ic, k_laws_eqModel_rv, R_laws_eqStringS m.ns hm.ns, R_laws_eqIntS m.ix hm.ix, R_laws_eqTreeS p q m.ts hm.ts hm.tl]

theorem same_of {α : Type} {l m : List α} {i : Nat} (hl : l.length = m.length) (hi : l.length ≤ i) (h : ∀ j, j < i → l[j]? = m[j]?) : l = m := by
  apply List.ext_getElem?
  intro j
  by_cases c : j < i
  · exact h j c
  · rw [List.getElem?_eq_none (by omega), List.getElem?_eq_none (by omega)]

theorem same_no {α : Type} {l m : List α} {i : Nat} {x y : α} (hx : l[i]? = some x) (hy : m[i]? = some y) (h : ¬ x = y) : (l = m) = False := by
  apply eq_false
  rintro rfl
  rw [hx] at hy
  cases hy
  exact h rfl

theorem len_no {α : Type} {l m : List α} (h : ((l.length : Int) = m.length) = False) : (l = m) = False := by
  apply eq_false
  rintro rfl
  simp at h

theorem bytes_loop (s : ByteArray) : ∀ (n i : Nat) (r : List UInt8), s.size - i ≤ n → ByteArray.toList.loop s i r = r.reverse ++ s.data.toList.drop i := by
  have hs : s.data.toList.length = s.size := by cases s; rfl
  intro n
  induction n with
  | zero =>
    intro i r h
    rw [ByteArray.toList.loop, if_neg (by omega), List.drop_eq_nil_of_le (by omega)]
    simp
  | succ n ih =>
    intro i r h
    rw [ByteArray.toList.loop]
    split
    · rename_i hi
      rw [ih _ _ (by omega)]
      have hi' : i < s.data.toList.length := by omega
      rw [List.drop_eq_getElem_cons hi']
      have : s.get! i = s.data.toList[i] := by
        cases s with
        | mk d =>
          show d[i]! = _
          rw [getElem!_pos d i (by simpa using hi')]
          simp
      simp [this]
    · rename_i hi
      rw [List.drop_eq_nil_of_le (by omega)]
      simp

theorem toList_data (s : ByteArray) : s.toList = s.data.toList := by
  unfold ByteArray.toList
  rw [bytes_loop s s.size 0 [] (by omega)]
  simp

theorem toList_inj {x y : ByteArray} (h : x.toList = y.toList) : x = y := by
  rw [toList_data, toList_data] at h
  cases x; cases y
  simp at h
  simp [h]

theorem str_ne {x y : ByteArray} (h : ¬ x = y) : (x.toList == y.toList) = false := by
  simp only [beq_eq_false_iff_ne, ne_eq]
  exact fun e => h (toList_inj e)

open Classical in
theorem R_spec_l8Ints (l m : List Int) (hl : l.length ≤ 9223372036854775807) : RUN T k_spec_l8Ints [.sl 1 (ints l), .sl 1 (ints m)] = some ([bv (decide (l = m))], []) := by
  refine RUN_W T_spec_l8Ints rfl ?_
  rcases Classical.propComplete ((l.length : Int) = m.length) with hlm | hlm
  case inr =>
    simp [-getElem?_pos, k_spec_l8Ints_ic, k_spec_l8Ints_rv, hlm, len_no hlm]
  simp [-getElem?_pos, k_spec_l8Ints_ic, k_spec_l8Ints_rv, hlm]
  have hlen : l.length = m.length := by simp at hlm; omega
  refine W_loop (fun n st => ∃ i : Nat, i + n = l.length ∧ (∀ j, j < i → l[j]? = m[j]?) ∧ st.V 0 = .sl 1 (ints l) ∧ st.V 1 = .sl 1 (ints m) ∧ st.V 5 = iv i) ?_ l.length _ ⟨0, by simp⟩
  rintro n st ⟨i, hi, hj, v0, v1, v5⟩
  simp [k_spec_l8Ints_b0, v0, v1, v5]
  refine Br_i (fun h => ?_) (fun h => ?_)
  · simp at h
    obtain ⟨x, hx⟩ : ∃ x, l[i]? = some x := ⟨_, List.getElem?_eq_getElem h⟩
    obtain ⟨y, hy⟩ : ∃ y, m[i]? = some y := ⟨_, List.getElem?_eq_getElem (by omega)⟩
    have hx' := ints_get hx
    have hy' := ints_get hy
    have hw := wS h hl
    have him : i < m.length := by omega
    by_cases e : x = y
    · simp [-getElem?_pos, v0, v1, v5, hx', hy', h, him, hw, eq_true e]
      exact Rnd_n (n - 1) (by omega) ⟨i + 1, by omega, snoc_nat hj (by rw [hx, hy, e]), by simp [v0], by simp [v1], by simp⟩
    · simp [-getElem?_pos, v0, v1, v5, hx', hy', h, him, hw, eq_false e, same_no hx hy e]
  · simp at h
    simp [same_of hlen h hj]

open Classical in
theorem R_slices_Equal_int (l m : List Int) (hl : l.length ≤ 9223372036854775807) : RUN T k_slices_Equal___int_int_ [.sl 1 (ints l), .sl 1 (ints m)] = some ([bv (decide (l = m))], []) := by
  refine RUN_W T_slices_Equal___int_int_ rfl ?_
  rcases Classical.propComplete ((l.length : Int) = m.length) with hlm | hlm
  case inr =>
    simp [-getElem?_pos, k_slices_Equal___int_int__ic, k_slices_Equal___int_int__rv, hlm, len_no hlm]
  simp [-getElem?_pos, k_slices_Equal___int_int__ic, k_slices_Equal___int_int__rv, hlm]
  have hlen : l.length = m.length := by simp at hlm; omega
  refine W_loop (fun n st => ∃ i : Nat, i + n = l.length ∧ (∀ j, j < i → l[j]? = m[j]?) ∧ st.V 0 = .sl 1 (ints l) ∧ st.V 1 = .sl 1 (ints m) ∧ st.V 12 = iv l.length ∧ st.V 13 = iv i) ?_ l.length _ ⟨0, by simp [hlen]⟩
  rintro n st ⟨i, hi, hj, v0, v1, v12, v13⟩
  simp [k_slices_Equal___int_int__b0, v12, v13]
  refine Br_i (fun h => ?_) (fun h => ?_)
  · simp at h
    obtain ⟨x, hx⟩ : ∃ x, l[i]? = some x := ⟨_, List.getElem?_eq_getElem h⟩
    obtain ⟨y, hy⟩ : ∃ y, m[i]? = some y := ⟨_, List.getElem?_eq_getElem (by omega)⟩
    have hx' := ints_get hx
    have hy' := ints_get hy
    have hw := wS h hl
    have him : i < m.length := by omega
    by_cases e : x = y
    · simp [-getElem?_pos, v0, v1, v12, v13, hx', hy', h, him, hw, eq_true e]
      exact Rnd_n (n - 1) (by omega) ⟨i + 1, by omega, snoc_nat hj (by rw [hx, hy, e]), by simp [v0], by simp [v1], by simp [v12], by simp⟩
    · simp [-getElem?_pos, v0, v1, v12, v13, hx', hy', h, him, hw, eq_false e, same_no hx hy e]
  · simp at h
    simp [same_of hlen h hj]

open Classical in
theorem R_slices_Equal_string (l m : List ByteArray) (hl : l.length ≤ 9223372036854775807) : RUN T k_slices_Equal___string_string_ [.sl 1 (strs l), .sl 1 (strs m)] = some ([bv (decide (l = m))], []) := by
  refine RUN_W T_slices_Equal___string_string_ rfl ?_
  rcases Classical.propComplete ((l.length : Int) = m.length) with hlm | hlm
  case inr =>
    simp [-getElem?_pos, k_slices_Equal___string_string__ic, k_slices_Equal___string_string__rv, hlm, len_no hlm]
  simp [-getElem?_pos, k_slices_Equal___string_string__ic, k_slices_Equal___string_string__rv, hlm]
  have hlen : l.length = m.length := by simp at hlm; omega
  refine W_loop (fun n st => ∃ i : Nat, i + n = l.length ∧ (∀ j, j < i → l[j]? = m[j]?) ∧ st.V 0 = .sl 1 (strs l) ∧ st.V 1 = .sl 1 (strs m) ∧ st.V 12 = iv l.length ∧ st.V 13 = iv i) ?_ l.length _ ⟨0, by simp [hlen]⟩
  rintro n st ⟨i, hi, hj, v0, v1, v12, v13⟩
  simp [k_slices_Equal___string_string__b0, v12, v13]
  refine Br_i (fun h => ?_) (fun h => ?_)
  · simp at h
    obtain ⟨x, hx⟩ : ∃ x, l[i]? = some x := ⟨_, List.getElem?_eq_getElem h⟩
    obtain ⟨y, hy⟩ : ∃ y, m[i]? = some y := ⟨_, List.getElem?_eq_getElem (by omega)⟩
    have hx' := strs_get hx
    have hy' := strs_get hy
    have hw := wS h hl
    have him : i < m.length := by omega
    by_cases e : x = y
    · subst e
      simp [-getElem?_pos, v0, v1, v12, v13, hx', hy', h, him, hw]
      exact Rnd_n (n - 1) (by omega) ⟨i + 1, by omega, snoc_nat hj (by rw [hx, hy]), by simp [v0], by simp [v1], by simp [v12], by simp⟩
    · simp [-getElem?_pos, v0, v1, v12, v13, hx', hy', h, him, hw, str_ne e, same_no hx hy e]
  · simp at h
    simp [same_of hlen h hj]

open Classical in
theorem R_slices_Equal_Node (l m : List Nd) (hl : l.length ≤ 9223372036854775807) : RUN T k_slices_Equal___impl_Node_impl_Node_ [.sl 5 (l.map nd), .sl 5 (m.map nd)] = some ([bv (decide (l = m))], []) := by
  refine RUN_W T_slices_Equal___impl_Node_impl_Node_ rfl ?_
  rcases Classical.propComplete ((l.length : Int) = m.length) with hlm | hlm
  case inr =>
    simp [-getElem?_pos, k_slices_Equal___impl_Node_impl_Node__ic, k_slices_Equal___impl_Node_impl_Node__rv, hlm, len_no hlm]
  simp [-getElem?_pos, k_slices_Equal___impl_Node_impl_Node__ic, k_slices_Equal___impl_Node_impl_Node__rv, hlm]
  have hlen : l.length = m.length := by simp at hlm; omega
  refine W_loop (fun n st => ∃ i : Nat, i + n = l.length ∧ (∀ j, j < i → l[j]? = m[j]?) ∧ st.V 0 = .sl 5 (l.map nd) ∧ st.V 1 = .sl 5 (m.map nd) ∧ st.V 12 = iv l.length ∧ st.V 13 = iv i) ?_ l.length _ ⟨0, by simp [hlen]⟩
  rintro n st ⟨i, hi, hj, v0, v1, v12, v13⟩
  simp [k_slices_Equal___impl_Node_impl_Node__b0, v12, v13]
  refine Br_i (fun h => ?_) (fun h => ?_)
  · simp at h
    obtain ⟨x, hx⟩ : ∃ x, l[i]? = some x := ⟨_, List.getElem?_eq_getElem h⟩
    obtain ⟨y, hy⟩ : ∃ y, m[i]? = some y := ⟨_, List.getElem?_eq_getElem (by omega)⟩
    have hw := wS h hl
    have him : i < m.length := by omega
    rcases Classical.propComplete (x.f = y.f ∧ x.c = y.c ∧ x.l = y.l ∧ x.r = y.r ∧ x.v = y.v) with e | e
    · simp [-getElem?_pos, v0, v1, v12, v13, hx, hy, nd, h, him, hw, eqP_5, e]
      exact Rnd_n (n - 1) (by omega) ⟨i + 1, by omega, snoc_nat hj (by rw [hx, hy, nd_eq.mpr (of_eq_true e)]), by simp [v0], by simp [v1], by simp [v12], by simp⟩
    · have e2 : ¬ x = y := fun hh => by rw [nd_eq] at hh; simp [e] at hh
      simp [-getElem?_pos, v0, v1, v12, v13, hx, hy, nd, h, him, hw, eqP_5, e, same_no hx hy e2]
  · simp at h
    simp [same_of hlen h hj]

open Classical in
theorem R_impl_SameTree (l m : List Nd) (hl : l.length ≤ 9223372036854775807) : RUN T k_impl_SameTree [.agg [.sl 5 (l.map nd)], .agg [.sl 5 (m.map nd)]] = some ([bv (decide (l = m))], []) := by
  refine RUN_W T_impl_SameTree rfl ?_
  have h := R_slices_Equal_Node l m hl
  simp [-getElem?_pos, k_impl_SameTree_ic, k_impl_SameTree_rv, h]

open Classical in
theorem R_slices_EqualFunc_Tree (p q : Bool) (L M : List (List Nd)) (hl : L.length ≤ 9223372036854775807) (hll : ∀ l ∈ L, l.length ≤ 9223372036854775807) : RUN T k_slices_EqualFunc___impl_Tree___impl_Tree_impl_Tree_impl_Tree_ [.sl 1 (trs p L), .sl 1 (trs q M), .fn k_impl_SameTree []] = some ([bv (decide (L = M))], []) := by
  refine RUN_W T_slices_EqualFunc___impl_Tree___impl_Tree_impl_Tree_impl_Tree_ rfl ?_
  rcases Classical.propComplete ((L.length : Int) = M.length) with hlm | hlm
  case inr =>
    simp [-getElem?_pos, k_slices_EqualFunc___impl_Tree___impl_Tree_impl_Tree_impl_Tree__ic, k_slices_EqualFunc___impl_Tree___impl_Tree_impl_Tree_impl_Tree__rv, hlm, len_no hlm]
  simp [-getElem?_pos, k_slices_EqualFunc___impl_Tree___impl_Tree_impl_Tree_impl_Tree__ic, k_slices_EqualFunc___impl_Tree___impl_Tree_impl_Tree_impl_Tree__rv, hlm]
  have hlen : L.length = M.length := by simp at hlm; omega
  refine W_loop (fun n st => ∃ i : Nat, i + n = L.length ∧ (∀ j, j < i → L[j]? = M[j]?) ∧ st.V 1 = .sl 1 (trs q M) ∧ st.V 2 = .fn k_impl_SameTree [] ∧ st.V 15 = .sl 1 (trs p L) ∧ st.V 16 = iv L.length ∧ st.V 17 = iv i) ?_ L.length _ ⟨0, by simp [hlen]⟩
  rintro n st ⟨i, hi, hj, v1, v2, v15, v16, v17⟩
  simp [k_slices_EqualFunc___impl_Tree___impl_Tree_impl_Tree_impl_Tree__b0, v16, v17]
  refine Br_i (fun h => ?_) (fun h => ?_)
  · simp at h
    obtain ⟨x, hx⟩ : ∃ x, L[i]? = some x := ⟨_, List.getElem?_eq_getElem h⟩
    obtain ⟨y, hy⟩ : ∃ y, M[i]? = some y := ⟨_, List.getElem?_eq_getElem (by omega)⟩
    have hx' := trs_get (q := p) hx
    have hy' := trs_get (q := q) hy
    have hw := wS h hl
    have him : i < M.length := by omega
    have hs := R_impl_SameTree x y (hll x (List.mem_of_getElem? hx))
    have z := fr (by omega : st.nx < st.nx + 1)
    by_cases e : x = y
    · rw [decide_eq_true e] at hs
      simp [-getElem?_pos, v1, v2, v15, v16, v17, hx', hy', h, him, hw, hs, z]
      exact Rnd_n (n - 1) (by omega) ⟨i + 1, by omega, snoc_nat hj (by rw [hx, hy, e]), by simp [v1], by simp [v2], by simp [v15], by simp [v16], by simp⟩
    · rw [decide_eq_false e] at hs
      simp [-getElem?_pos, v1, v2, v15, v16, v17, hx', hy', h, him, hw, hs, z, same_no hx hy e]
  · simp at h
    simp [same_of hlen h hj]

def rwS (q : Bool) (l : List ByteArray) : PV := if q then .own 1 (strs l) else .sl 1 (strs l)

@[simp] theorem fz_rwS (q : Bool) (l : List ByteArray) : fz (rwS q l) = .sl 1 (strs l) := by cases q <;> simp [rwS]

def rwsS (q : Bool) (L : List (List ByteArray)) : List (List PV) := L.map fun l => [rwS q l]

@[simp] theorem rwsS_len (q : Bool) (L : List (List ByteArray)) : (rwsS q L).length = L.length := by simp [rwsS]

theorem rwsS_get {q : Bool} {L : List (List ByteArray)} {i : Nat} {l : List ByteArray} (h : L[i]? = some l) : (rwsS q L)[i]? = some [rwS q l] := by simp [rwsS, h]

open Classical in
theorem R_spec_SameRows (p q : Bool) (L M : List (List ByteArray)) (hl : L.length ≤ 9223372036854775807) (hll : ∀ l ∈ L, l.length ≤ 9223372036854775807) : RUN T k_spec_SameRows [.sl 1 (rwsS p L), .sl 1 (rwsS q M)] = some ([bv (decide (L = M))], []) := by
  refine RUN_W T_spec_SameRows rfl ?_
  rcases Classical.propComplete ((L.length : Int) = M.length) with hlm | hlm
  case inr =>
    simp [-getElem?_pos, k_spec_SameRows_ic, k_spec_SameRows_rv, hlm, len_no hlm]
  simp [-getElem?_pos, k_spec_SameRows_ic, k_spec_SameRows_rv, hlm]
  have hlen : L.length = M.length := by simp at hlm; omega
  refine W_loop (fun n st => ∃ i : Nat, i + n = L.length ∧ (∀ j, j < i → L[j]? = M[j]?) ∧ st.V 0 = .sl 1 (rwsS p L) ∧ st.V 1 = .sl 1 (rwsS q M) ∧ st.V 5 = iv i) ?_ L.length _ ⟨0, by simp [hlen]⟩
  rintro n st ⟨i, hi, hj, v0, v1, v5⟩
  simp [k_spec_SameRows_b1, v0, v5]
  refine Br_i (fun h => ?_) (fun h => ?_)
  · simp at h
    obtain ⟨x, hx⟩ : ∃ x, L[i]? = some x := ⟨_, List.getElem?_eq_getElem h⟩
    obtain ⟨y, hy⟩ : ∃ y, M[i]? = some y := ⟨_, List.getElem?_eq_getElem (by omega)⟩
    have hx' := rwsS_get (q := p) hx
    have hy' := rwsS_get (q := q) hy
    have hw := wS h hl
    have him : i < M.length := by omega
    have hxl := hll x (List.mem_of_getElem? hx)
    rcases Classical.propComplete ((x.length : Int) = y.length) with d | d
    case inr =>
      have e : ¬ x = y := by rintro rfl; simp at d
      simp [-getElem?_pos, v0, v1, v5, hx', hy', h, him, hw, d, same_no hx hy e]
    have hxy : x.length = y.length := by simp at d; omega
    simp [-getElem?_pos, v0, v1, v5, hx', hy', h, him, hw, d]
    refine W_loop (fun n st => ∃ j : Nat, j + n = x.length ∧ (∀ k, k < j → x[k]? = y[k]?) ∧ st.V 0 = .sl 1 (rwsS p L) ∧ st.V 1 = .sl 1 (rwsS q M) ∧ st.V 5 = iv i ∧ st.V 6 = iv j) ?_ x.length _ ⟨0, by omega, fun _ hh => by omega, by simp [v0], by simp [v1], by simp [v5], by simp⟩
    clear v0 v1 v5
    rintro n' st ⟨j, hjn, hjk, v0, v1, v5, v6⟩
    simp [-getElem?_pos, k_spec_SameRows_b0, v0, v5, v6, hx', h]
    refine Br_i (fun h2 => ?_) (fun h2 => ?_)
    · simp at h2
      obtain ⟨a, ha⟩ : ∃ a, x[j]? = some a := ⟨_, List.getElem?_eq_getElem h2⟩
      obtain ⟨b, hb⟩ : ∃ b, y[j]? = some b := ⟨_, List.getElem?_eq_getElem (by omega)⟩
      have ha' := strs_get ha
      have hb' := strs_get hb
      have hwj := wS h2 hxl
      have hjy : j < y.length := by omega
      by_cases e : a = b
      · subst e
        simp [-getElem?_pos, v0, v1, v5, v6, hx', hy', ha', hb', h, him, h2, hjy, hwj]
        exact Rnd_n (n' - 1) (by omega) ⟨j + 1, by omega, snoc_nat hjk (by rw [ha, hb]), by simp [v0], by simp [v1], by simp [v5], by simp⟩
      · have e2 : ¬ x = y := by rintro rfl; rw [ha] at hb; cases hb; exact e rfl
        simp [-getElem?_pos, v0, v1, v5, v6, hx', hy', ha', hb', h, him, h2, hjy, hwj, str_ne e, same_no hx hy e2]
    · simp at h2
      have exy := same_of hxy h2 hjk
      simp [-getElem?_pos, v0, v1, v5, hw]
      exact Rnd_n (n - 1) (by omega) ⟨i + 1, by omega, snoc_nat hj (by rw [hx, hy, exy]), by simp [v0], by simp [v1], by simp⟩
  · simp at h
    simp [same_of hlen h hj]

open Classical in
theorem R_spec_l9Texts (l m : List ByteArray) (hl : l.length ≤ 9223372036854775807) : RUN T k_spec_l9Texts [.sl 1 (strs l), .sl 1 (strs m)] = some ([bv (decide (l = m))], []) := by
  refine RUN_W T_spec_l9Texts rfl ?_
  have h := R_spec_SameRows false false [l] [m] (by simp) (by simpa using hl)
  have e : decide ([l] = [m]) = decide (l = m) := by simp
  rw [e] at h
  have e1 : rwsS false [l] = [[.sl 1 (strs l)]] := rfl
  have e2 : rwsS false [m] = [[.sl 1 (strs m)]] := rfl
  rw [e1, e2] at h
  have hr : roomFor 24 1 = true := by decide
  simp [-getElem?_pos, k_spec_l9Texts_ic, k_spec_l9Texts_rv, h, hr]

open Classical in
noncomputable def sameM (m k : Mo) : Bool := decide (m.ns = k.ns) && decide (m.ix = k.ix) && decide (m.b = k.b) && decide (m.ts = k.ts)

open Classical in
theorem R_impl_SameModel (p q : Bool) (m k : Mo) (hm : MoL 9223372036854775807 m) : RUN T k_impl_SameModel [moS p m, moS q k] = some ([bv (sameM m k)], []) := by
  refine RUN_W T_impl_SameModel rfl ?_
  have h1 := R_slices_Equal_string m.ns k.ns hm.ns
  have h2 := R_slices_Equal_int m.ix k.ix hm.ix
  have h3 := R_slices_EqualFunc_Tree p q m.ts k.ts hm.ts hm.tl
  unfold sameM
  rcases Classical.propComplete (m.ns = k.ns) with e1 | e1
  case inr =>
    simp only [e1, decide_false] at h1
    simp [-getElem?_pos, k_impl_SameModel_ic, k_impl_SameModel_rv, h1, e1]
  rcases Classical.propComplete (m.ix = k.ix) with e2 | e2
  case inr =>
    simp only [e1, e2, decide_false, decide_true] at h1 h2
    simp [-getElem?_pos, k_impl_SameModel_ic, k_impl_SameModel_rv, h1, h2, e1, e2]
  rcases Classical.propComplete (m.b = k.b) with e3 | e3
  case inr =>
    simp only [e1, e2, decide_true] at h1 h2
    simp [-getElem?_pos, k_impl_SameModel_ic, k_impl_SameModel_rv, h1, h2, e1, e2, e3]
  simp only [e1, e2, decide_true] at h1 h2
  simp [-getElem?_pos, k_impl_SameModel_ic, k_impl_SameModel_rv, h1, h2, h3, e1, e2, e3]

open Classical in
theorem R_spec_SameModel (p q : Bool) (m k : Mo) (hm : MoL 9223372036854775807 m) (hk : MoL 9223372036854775807 k) : RUN T k_spec_SameModel [moS p m, moS q k] = some ([bv (sameM m k)], []) := by
  refine RUN_W T_spec_SameModel rfl ?_
  have h1 := R_spec_l9Texts m.ns k.ns hm.ns
  have h2 := R_spec_l8Ints m.ix k.ix hm.ix
  unfold sameM
  rcases Classical.propComplete (m.ns = k.ns) with e1 | e1
  case inr =>
    simp only [e1, decide_false] at h1
    simp [-getElem?_pos, k_spec_SameModel_ic, k_spec_SameModel_rv, h1, e1]
  rcases Classical.propComplete (m.ix = k.ix) with e2 | e2
  case inr =>
    simp only [e1, e2, decide_false, decide_true] at h1 h2
    simp [-getElem?_pos, k_spec_SameModel_ic, k_spec_SameModel_rv, h1, h2, e1, e2]
  simp only [e1, e2, decide_true] at h1 h2
  rcases Classical.propComplete (m.b = k.b) with e3 | e3
  case inr =>
    simp [-getElem?_pos, k_spec_SameModel_ic, k_spec_SameModel_rv, h1, h2, e1, e2, e3]
  rcases Classical.propComplete ((m.ts.length : Int) = k.ts.length) with e4 | e4
  case inr =>
    simp [-getElem?_pos, k_spec_SameModel_ic, k_spec_SameModel_rv, h1, h2, e1, e2, e3, e4, len_no e4]
  have hlen : m.ts.length = k.ts.length := by simp at e4; omega
  simp [-getElem?_pos, k_spec_SameModel_ic, k_spec_SameModel_rv, h1, h2, e1, e2, e3, e4]
  refine W_loop (fun n st => ∃ i : Nat, i + n = m.ts.length ∧ (∀ j, j < i → m.ts[j]? = k.ts[j]?) ∧ st.V 2 = .ptr 0 none 0 0 0 ∧ st.V 3 = .ptr 1 none 0 0 0 ∧ st.V 5 = iv i ∧ st.S 0 = some (.box [.sl 1 (strs m.ns), .sl 1 (ints m.ix), iv m.b, .sl 1 (trs p m.ts)]) ∧ st.S 1 = some (.box [.sl 1 (strs k.ns), .sl 1 (ints k.ix), iv k.b, .sl 1 (trs q k.ts)])) ?_ m.ts.length _ ⟨0, by simp⟩
  rintro n st ⟨i, hi, hj, v2, v3, v5, hS, hS1⟩
  simp [k_spec_SameModel_b0, v2, v5, hS]
  refine Br_i (fun h => ?_) (fun h => ?_)
  · simp at h
    obtain ⟨x, hx⟩ : ∃ x, m.ts[i]? = some x := ⟨_, List.getElem?_eq_getElem h⟩
    obtain ⟨y, hy⟩ : ∃ y, k.ts[i]? = some y := ⟨_, List.getElem?_eq_getElem (by omega)⟩
    have hx' := trs_get (q := p) hx
    have hy' := trs_get (q := q) hy
    have hw := wS h hm.ts
    have hik : i < k.ts.length := by omega
    have hs := R_spec_SameTree x y (hm.tl x (List.mem_of_getElem? hx)) (hk.tl y (List.mem_of_getElem? hy))
    by_cases e : x = y
    · rw [decide_eq_true e] at hs
      simp [-getElem?_pos, v2, v3, v5, hS, hS1, hx', hy', h, hik, hw, hs]
      exact Rnd_n (n - 1) (by omega) ⟨i + 1, by omega, snoc_nat hj (by rw [hx, hy, e]), by simp [v2], by simp [v3], by simp, by simp [hS], by simp [hS1]⟩
    · rw [decide_eq_false e] at hs
      simp [-getElem?_pos, v2, v3, v5, hS, hS1, hx', hy', h, hik, hw, hs, same_no hx hy e]
  · simp at h
    simp [same_of hlen h hj, e1, e2, e3]

theorem law_FnExactSameModel (m k : Mo) (hm : MoL 9223372036854775807 m) (hk : MoL 9223372036854775807 k) : RUN T k_laws_FnExactSameModel [moS false m, moS false k] = some ([bv true], []) := by
  refine RUN_W T_laws_FnExactSameModel rfl ?_
  have s1 := R_laws_szModel false m 1048576 (by omega) (by omega) hm
  by_cases d1 : (1048576 : Int) - totM m < 0
  · rw [if_pos d1] at s1
    simp only [moS] at s1
    simp [k_laws_FnExactSameModel_ic, k_laws_FnExactSameModel_rv, s1]
  rw [if_neg d1] at s1
  have s2 := R_laws_szModel false k (1048576 - totM m) (by omega) (by omega) hk
  by_cases d2 : (1048576 : Int) - totM m - totM k < 0
  · rw [if_pos d2] at s2
    simp only [moS] at s1 s2
    simp [k_laws_FnExactSameModel_ic, k_laws_FnExactSameModel_rv, s1, s2, d1]
  rw [if_neg d2] at s2
  have hm1 : MoL 1048576 m := MoL.of (by omega)
  have hk1 : MoL 1048576 k := MoL.of (by omega)
  have t1 := R_laws_toModel false m hm1
  have t2 := R_laws_toModel false k hk1
  have a1 := R_spec_SameModel true true m k hm hk
  have a2 := R_impl_SameModel true true m k hm
  have q1 := R_laws_eqModel true true m hm
  have q2 := R_laws_eqModel true true k hk
  simp only [moS, moO] at s1 s2 t1 t2 a1 a2 q1 q2
  simp [k_laws_FnExactSameModel_ic, k_laws_FnExactSameModel_rv, s1, s2, t1, t2, a1, a2, q1, q2, d1, d2]

theorem shp_strL (cs : List PV) (h : ShpL [.str] cs) : ∃ s : ByteArray, [PV.v (.string s)] = cs ∧ s.size ≤ 9223372036854775807 := by
  simp only [ShpL, Shp] at h
  obtain ⟨_, _, rfl, ⟨a, rfl, h1⟩, rfl⟩ := h
  simp [maxLen] at h1
  exact ⟨a, rfl, by omega⟩

theorem shp_treeL (cs : List PV) (h : ShpL [.sl tyNd] cs) : ∃ t : List Nd, [celT false t] = cs ∧ t.length ≤ 9223372036854775807 := by
  simp only [ShpL, Shp] at h
  obtain ⟨_, _, rfl, ⟨es, rfl, h1, h2⟩, rfl⟩ := h
  have h2' : ∀ cs ∈ es, ShpL tyNd cs := h2
  obtain ⟨t, ht, _⟩ := rows_of (f := nd) shp_nd h2'
  subst ht
  simp [maxLen] at h1
  exact ⟨t, rfl, by omega⟩

theorem shp_model {c : PV} (h : ShpA true [.sl [.str], .sl [.int .i64], .int .i64, .sl [.sl tyNd]] c) : ∃ m : Mo, c = moS false m ∧ MoL 9223372036854775807 m ∧ inI m.b ∧ ∀ n ∈ m.ix, inI n := by
  obtain ⟨cs, rfl, h⟩ := h
  simp only [ShpL, Shp] at h
  obtain ⟨_, _, rfl, ⟨es, rfl, h1, h2⟩, _, _, rfl, ⟨es', rfl, h3, h4⟩, _, _, rfl, ⟨b, rfl, h5⟩, _, _, rfl, ⟨es2, rfl, h6, h7⟩, rfl⟩ := h
  have h2' : ∀ cs ∈ es, ShpL [.str] cs := h2
  have h4' : ∀ cs ∈ es', ShpL [.int .i64] cs := h4
  have h7' : ∀ cs ∈ es2, ShpL [.sl tyNd] cs := h7
  obtain ⟨ns, hn, hpn⟩ := rows_of (f := fun s => [PV.v (.string s)]) shp_strL h2'
  obtain ⟨ix, hx, hpx⟩ := rows_of (f := fun n : Int => [iv n]) shp_intL h4'
  obtain ⟨ts, ht, hpt⟩ := rows_of (f := fun t => [celT false t]) shp_treeL h7'
  subst hn
  subst hx
  subst ht
  simp [maxLen] at h1 h3 h6
  exact ⟨⟨ns, ix, b, ts⟩, rfl, ⟨by simpa using h1, hpn, by simpa using h3, by simpa using h6, hpt⟩, wf64 h5, hpx⟩

end Go.Pe
