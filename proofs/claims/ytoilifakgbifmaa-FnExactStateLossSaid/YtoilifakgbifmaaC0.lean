/- What each function answers by the evaluator, and the law; for each answer its own conditions stand ahead of it. -/
import Derived.Test.YtoilifakgbifmaaK0
import Derived.Test.YtoilifakgbifmaaEvB2
import Derived.IntWalk
set_option linter.all false
namespace Go.Pe
open Go
theorem w64 {x : Int} (h1 : -9223372036854775808 ≤ x) (h2 : x ≤ 9223372036854775807) : IntKind.i64.wrap x = x := IntWalk.i64_in x ⟨h1, h2⟩

@[simp] theorem w64s {x : Int} (h1 : -9223372036854775808 ≤ x) (h2 : x ≤ 9223372036854775807) : IntKind.i64.wrap x = x := w64 h1 h2

structure Nd where
  f : Int
  c : Int
  l : Int
  r : Int
  v : Int
deriving DecidableEq

def nd (n : Nd) : List PV := [iv n.f, iv n.c, iv n.l, iv n.r, iv n.v]

@[simp] theorem R_laws_toNode (a b c d e : Int) : RUN T k_laws_toNode [.agg [iv a, iv b, iv c, iv d, iv e]] = some ([.agg [iv a, iv b, iv c, iv d, iv e]], []) := by
  refine RUN_W T_laws_toNode rfl ?_
  simp [k_laws_toNode_ic, k_laws_toNode_rv]

@[simp] theorem R_laws_eqNode (a b c d e : Int) : RUN T k_laws_eqNode [.agg [iv a, iv b, iv c, iv d, iv e], .agg [iv a, iv b, iv c, iv d, iv e]] = some ([bv true], []) := by
  refine RUN_W T_laws_eqNode rfl ?_
  simp [k_laws_eqNode_ic, k_laws_eqNode_rv]

theorem R_laws_szNodeS (es : List (List PV)) (left : Int) (h0 : 0 ≤ left) (h1 : left ≤ 1048576) (hl : es.length ≤ 9223372036854775807) : RUN T k_laws_szNodeS [.sl 5 es, iv left] = some ([iv (if left - es.length < 0 then -1 else left - es.length)], []) := by
  refine RUN_W T_laws_szNodeS rfl ?_
  have e := w64 (x := left - es.length) (by omega) (by omega)
  simp [k_laws_szNodeS_ic, k_laws_szNodeS_rv, e]
  refine Br_i (fun h => ?_) (fun h => ?_) <;> simp at h <;> simp [h]
  omega

/-- The first place where something holds, -1 if there is none. -/
def fidx {α : Type} (p : α → Bool) (l : List α) : Int := match l.findIdx? p with
  | some i => (i : Int)
  | none => -1

/-- A node that has a node below it. -/
def above (k : Int) (n : Nd) : Bool := !decide (n.f = -1) && (decide (n.l = k) || decide (n.r = k))

def par (t : List Nd) (k : Int) : Int := fidx (above k) t

theorem wS {i n : Nat} (h : i < n) (hn : n ≤ 9223372036854775807) : IntKind.i64.wrap ((i : Int) + 1) = (i : Int) + 1 := w64 (by omega) (by omega)

theorem R_laws_szTree (es : List (List PV)) (left : Int) (h0 : 0 ≤ left) (h1 : left ≤ 1048576) (hl : es.length ≤ 9223372036854775807) : RUN T k_laws_szTree [.agg [.sl 5 es], iv left] = some ([iv (if left - es.length < 0 then -1 else left - es.length)], []) := by
  refine RUN_W T_laws_szTree rfl ?_
  have e := R_laws_szNodeS es left h0 h1 hl
  by_cases h : left - es.length < 0
  · simp only [h, if_true] at e ⊢
    simp [k_laws_szTree_ic, k_laws_szTree_rv, e]
    intro _; omega
  · simp only [h, if_false] at e ⊢
    simp [k_laws_szTree_ic, k_laws_szTree_rv, e]
    refine Br_i (fun b0 => ?_) (fun b0 => ?_) <;> (try simp at b0) <;> simp [-getElem?_pos, b0, ]
    omega

/-- A row that is filled from its beginning on. -/
def fil {α β : Type} (f : α → β) (z : β) (l : List α) (i : Nat) : List β := (l.take i).map f ++ List.replicate (l.length - i) z

theorem fil_set {α β : Type} {f : α → β} {l : List α} {z : β} {i : Nat} {x : α} (hx : l[i]? = some x) : (fil f z l i).set i (f x) = fil f z l (i + 1) := by
  unfold fil
  obtain ⟨h1, h2⟩ := List.getElem?_eq_some_iff.mp hx
  apply List.ext_getElem?
  intro j
  rw [List.getElem?_set]
  simp only [List.length_append, List.length_map, List.length_take, List.length_replicate]
  by_cases e : i = j
  · subst e
    rw [if_pos rfl, if_pos (by omega), List.getElem?_append_left (by simp; omega)]
    simp [List.getElem?_take, hx]
  · rw [if_neg e]
    by_cases hj : j < i
    · rw [List.getElem?_append_left (by simp; omega), List.getElem?_append_left (by simp; omega)]
      simp [List.getElem?_take, hj, show j < i + 1 by omega]
    · rw [List.getElem?_append_right (by simp; omega), List.getElem?_append_right (by simp; omega)]
      simp [List.getElem?_replicate]
      congr 1
      simp; omega

theorem fil_get {α β : Type} {f : α → β} {l : List α} {z : β} {i : Nat} (h : i < l.length) : (fil f z l i)[i]? = some z := by
  unfold fil
  rw [List.getElem?_append_right (by simp; omega)]
  simp [List.getElem?_replicate]; omega

theorem fil_len {α β : Type} {f : α → β} {l : List α} {z : β} {i : Nat} (h : i ≤ l.length) : (fil f z l i).length = l.length := by unfold fil; simp; omega

theorem fil_0 {α β : Type} {f : α → β} {l : List α} {z : β} : fil f z l 0 = List.replicate l.length z := by simp [fil]

theorem fil_all {α β : Type} {f : α → β} {l : List α} {z : β} {i : Nat} (h : i = l.length) : fil f z l i = l.map f := by subst h; simp [fil]

theorem R_laws_toNodeS (t : List Nd) (hl : t.length ≤ 1048576) : RUN T k_laws_toNodeS [.sl 5 (t.map nd)] = some ([.own 5 (t.map nd)], []) := by
  refine RUN_W T_laws_toNodeS rfl ?_
  have hr : roomFor 40 t.length = true := by simp [roomFor]; omega
  simp [k_laws_toNodeS_ic, k_laws_toNodeS_rv, hr]
  refine W_loop (fun n st => ∃ i : Nat, i + n = t.length ∧ st.V 0 = .sl 5 (t.map nd) ∧ st.V 3 = .ref 0 none 0 0 t.length ∧ st.V 4 = iv i ∧ st.ep = 0 ∧ st.S 0 = some (.row 5 (fil nd [iv 0, iv 0, iv 0, iv 0, iv 0] t i))) ?_ t.length _ ⟨0, by simp [fil_0]⟩
  rintro n st ⟨i, hi, h0, h3, h4, hep, hS⟩
  simp [k_laws_toNodeS_b0, h0, h3, h4, hS]
  refine Br_i (fun h => ?_) (fun h => ?_)
  · simp at h
    obtain ⟨x, hx2⟩ : ∃ x, t[i] = x := ⟨_, rfl⟩
    have hx : t[i]? = some x := by rw [← hx2]; exact List.getElem?_eq_getElem h
    have hw := wS h (by omega : t.length ≤ 9223372036854775807)
    have hg := fil_get (f := nd) (z := [iv 0, iv 0, iv 0, iv 0, iv 0]) h
    have hs := fil_set (f := nd) (z := [iv 0, iv 0, iv 0, iv 0, iv 0]) hx
    simp only [nd] at hs
    simp [-getElem?_pos, h0, h3, h4, hS, hep, h, hx, nd, hw, hg, hs, fil_len (Nat.le_of_lt h)]
    exact Rnd_n (n - 1) (by omega) ⟨i + 1, by omega, by simp [h0], by simp [h3], by simp, by simp, by simp⟩
  · simp at h
    have e := fil_all (f := nd) (z := [iv 0, iv 0, iv 0, iv 0, iv 0]) (by omega : i = t.length)
    simp [h3, hS, e]

theorem R_laws_toTree (t : List Nd) (hl : t.length ≤ 1048576) : RUN T k_laws_toTree [.agg [.sl 5 (t.map nd)]] = some ([.agg [.own 5 (t.map nd)]], []) := by
  refine RUN_W T_laws_toTree rfl ?_
  simp [k_laws_toTree_ic, k_laws_toTree_rv, R_laws_toNodeS t hl]

theorem R_laws_eqNodeS (t : List Nd) (hl : t.length ≤ 9223372036854775807) : RUN T k_laws_eqNodeS [.sl 5 (t.map nd), .sl 5 (t.map nd)] = some ([bv true], []) := by
  refine RUN_W T_laws_eqNodeS rfl ?_
  simp [k_laws_eqNodeS_ic, k_laws_eqNodeS_rv]
  refine W_loop (fun n st => ∃ i : Nat, i + n = t.length ∧ st.V 0 = .sl 5 (t.map nd) ∧ st.V 1 = .sl 5 (t.map nd) ∧ st.V 5 = iv i) ?_ t.length _ ⟨0, by simp⟩
  rintro n st ⟨i, hi, h0, h1, h5⟩
  simp [k_laws_eqNodeS_b0, h0, h1, h5]
  refine Br_i (fun h => ?_) (fun h => ?_)
  · simp at h
    obtain ⟨x, hx⟩ : ∃ x, t[i]? = some x := ⟨_, List.getElem?_eq_getElem h⟩
    have hw := wS h hl
    simp [-getElem?_pos, h0, h1, h5, h, hx, nd, hw]
    exact Rnd_n (n - 1) (by omega) ⟨i + 1, by omega, by simp [h0], by simp [h1], by simp⟩
  · simp

theorem R_laws_eqTree (t : List Nd) (hl : t.length ≤ 9223372036854775807) : RUN T k_laws_eqTree [.agg [.sl 5 (t.map nd)], .agg [.sl 5 (t.map nd)]] = some ([bv true], []) := by
  refine RUN_W T_laws_eqTree rfl ?_
  simp [k_laws_eqTree_ic, k_laws_eqTree_rv, R_laws_eqNodeS t hl]

def ints (l : List Int) : List (List PV) := l.map fun n => [iv n]

@[simp] theorem ints_len (l : List Int) : (ints l).length = l.length := by simp [ints]

theorem ints_get {l : List Int} {i : Nat} {x : Int} (h : l[i]? = some x) : (ints l)[i]? = some [iv x] := by simp [ints, h]

@[simp] theorem ints_nil : ints [] = [] := rfl

theorem ints_snoc (l : List Int) (x : Int) : ints l ++ [[iv x]] = ints (l ++ [x]) := by simp [ints]

/-- The nodes above a node, from it on, if they are fewer than a number. -/
def anc (t : List Nd) : Nat → Int → Option (List Int)
  | 0, _ => none
  | n + 1, k => if par t k < 0 then some [] else (anc t n (par t k)).map (par t k :: ·)

def way (t : List Nd) (k : Int) : List Int := if 0 ≤ k ∧ k ≤ t.length - 1 then match anc t 32 k with
    | some l => (k :: l).reverse
    | none => []
  else []

theorem room8 {n : Nat} (h : n ≤ 17592186044416) : roomFor 8 n = true := by simp [roomFor]; omega

theorem R_laws_szIntS (es : List (List PV)) (left : Int) (h0 : 0 ≤ left) (h1 : left ≤ 1048576) (hl : es.length ≤ 9223372036854775807) : RUN T k_laws_szIntS [.sl 1 es, iv left] = some ([iv (if left - es.length < 0 then -1 else left - es.length)], []) := by
  refine RUN_W T_laws_szIntS rfl ?_
  have e := w64 (x := left - es.length) (by omega) (by omega)
  simp [k_laws_szIntS_ic, k_laws_szIntS_rv, e]
  refine Br_i (fun h => ?_) (fun h => ?_) <;> simp at h <;> simp [h]
  omega

theorem R_laws_toIntS (l : List Int) (hl : l.length ≤ 1048576) : RUN T k_laws_toIntS [.sl 1 (ints l)] = some ([.own 1 (ints l)], []) := by
  refine RUN_W T_laws_toIntS rfl ?_
  have hr : roomFor 8 l.length = true := room8 (by omega)
  simp [k_laws_toIntS_ic, k_laws_toIntS_rv, hr]
  refine W_loop (fun n st => ∃ i : Nat, i + n = l.length ∧ st.V 0 = .sl 1 (ints l) ∧ st.V 3 = .ref 0 none 0 0 l.length ∧ st.V 4 = iv i ∧ st.ep = 0 ∧ st.S 0 = some (.row 1 (fil (fun n => [iv n]) [iv 0] l i))) ?_ l.length _ ⟨0, by simp [fil_0]⟩
  rintro n st ⟨i, hi, h0, h3, h4, hep, hS⟩
  simp [k_laws_toIntS_b0, h0, h3, h4, hS]
  refine Br_i (fun h => ?_) (fun h => ?_)
  · simp at h
    obtain ⟨x, hx⟩ : ∃ x, l[i]? = some x := ⟨_, List.getElem?_eq_getElem h⟩
    have hw := wS h (by omega : l.length ≤ 9223372036854775807)
    have hg := fil_get (f := fun n => [iv n]) (z := [iv 0]) h
    have hs := fil_set (f := fun n => [iv n]) (z := [iv 0]) hx
    have hx' := ints_get hx
    simp [-getElem?_pos, h0, h3, h4, hS, hep, h, hx', hw, hg, hs, fil_len (Nat.le_of_lt h)]
    exact Rnd_n (n - 1) (by omega) ⟨i + 1, by omega, by simp [h0], by simp [h3], by simp, by simp, by simp⟩
  · simp at h
    have e := fil_all (f := fun n => [iv n]) (z := [iv 0]) (by omega : i = l.length)
    simp [h3, hS, e, ints]

theorem R_laws_eqIntS (l : List Int) (hl : l.length ≤ 9223372036854775807) : RUN T k_laws_eqIntS [.sl 1 (ints l), .sl 1 (ints l)] = some ([bv true], []) := by
  refine RUN_W T_laws_eqIntS rfl ?_
  simp [k_laws_eqIntS_ic, k_laws_eqIntS_rv]
  refine W_loop (fun n st => ∃ i : Nat, i + n = l.length ∧ st.V 0 = .sl 1 (ints l) ∧ st.V 1 = .sl 1 (ints l) ∧ st.V 5 = iv i) ?_ l.length _ ⟨0, by simp⟩
  rintro n st ⟨i, hi, h0, h1, h5⟩
  simp [k_laws_eqIntS_b0, h0, h1, h5]
  refine Br_i (fun h => ?_) (fun h => ?_)
  · simp at h
    obtain ⟨x, hx⟩ : ∃ x, l[i]? = some x := ⟨_, List.getElem?_eq_getElem h⟩
    have hw := wS h hl
    have hx' := ints_get hx
    simp [-getElem?_pos, h0, h1, h5, h, hx', hw]
    exact Rnd_n (n - 1) (by omega) ⟨i + 1, by omega, by simp [h0], by simp [h1], by simp⟩
  · simp

/-- The numbers from one on, so many. -/
def upto (k : Int) (n : Nat) : List Int := (List.range n).map fun (i : Nat) => k + (i : Int)

@[simp] theorem upto_len (k : Int) (n : Nat) : (upto k n).length = n := by simp [upto]

theorem drop_cons {α : Type} {l : List α} {i : Nat} {x : α} (h : l[i]? = some x) : l.drop i = x :: l.drop (i + 1) := by
  obtain ⟨h1, h2⟩ := List.getElem?_eq_some_iff.mp h
  rw [List.drop_eq_getElem_cons h1, h2]

def inI (n : Int) : Prop := -9223372036854775808 ≤ n ∧ n ≤ 9223372036854775807

/-- The range of a feature's values along a way. -/
def box (t : List Nd) (f : Int) : List Int → Int → Int → Int × Int
  | a :: b :: r, lo, hi => match t[a.toNat]? with
    | none => (lo, hi)
    | some x => if x.f = f then (if x.l = b then box t f (b :: r) lo (min hi x.c) else if x.c = 9223372036854775807 then box t f (b :: r) lo hi else box t f (b :: r) (max lo (x.c + 1)) hi) else box t f (b :: r) lo hi
  | _, lo, hi => (lo, hi)

def wfN (n : Nd) : Prop := inI n.f ∧ inI n.c ∧ inI n.l ∧ inI n.r ∧ inI n.v

structure Cfg where
  ro : Int
  de : Int
  bi : Int
  la : Int
  rw : Int
  nu : Int
  dn : Int
  sg : List Int

def within (n a b : Int) : Bool := decide (a ≤ n) && decide (n ≤ b)

def cfgOk (c : Cfg) : Bool := within c.ro 1 8 && within c.de 0 4 && within c.bi 2 8 && within c.la 1 100 && within c.rw 1 20 && within c.dn 1 1000 && within c.nu 1 c.dn && decide ((c.sg.length : Int) ≤ 4) && c.sg.all fun n => within n (-1) 1

def leafV (v : Int) : Bool := within v (-1099511627776) 1099511627776

/-- A value times the learning rate. -/
def shr (v : Int) (c : Cfg) : Int × Bool := if cfgOk c && leafV v then (( v * c.nu).fdiv c.dn, true) else (0, false)

/-- A row within rows: a slice's own, or one that is read. -/
def cel (q : Bool) (l : List Int) : PV := if q then .own 1 (ints l) else .sl 1 (ints l)

@[simp] theorem fz_cel (q : Bool) (l : List Int) : fz (cel q l) = .sl 1 (ints l) := by cases q <;> simp [cel]

def rws (q : Bool) (L : List (List Int)) : List (List PV) := L.map fun l => [cel q l]

@[simp] theorem rws_len (q : Bool) (L : List (List Int)) : (rws q L).length = L.length := by simp [rws]

theorem rws_get {q : Bool} {L : List (List Int)} {i : Nat} {l : List Int} (h : L[i]? = some l) : (rws q L)[i]? = some [cel q l] := by simp [rws, h]

theorem yv_gu {s : St} {d : Option Dst} {op : IOp} {g : Opd} {v : Bool} {x : PV} : (yv s ⟨d, op, some (g, v)⟩ = some x) = (Ob' (guardP v (g.get s)) fun t => Br t (WI (fun _ => []) (fun _ _ => none) op s (fun y _ => y = x)) (PV.v Go.undef = x)) := by
  simp only [yv, evG_some, WI, Ob', Br, Option.map_eq_some_iff, Option.bind_eq_some_iff, eq_iff_iff]
  constructor
  · rintro ⟨⟨y, s'⟩, ⟨t, h1, h2⟩, h3⟩
    refine ⟨t, h1, fun ht => ?_, fun ht => ?_⟩ <;> subst ht
    · exact ⟨y, s', by simpa using h2, h3⟩
    · simp at h2; obtain ⟨rfl, rfl⟩ := h2; exact h3
  · rintro ⟨t, h1, h2, h3⟩
    cases t with
    | true => obtain ⟨y, s', h4, h5⟩ := h2 rfl; exact ⟨(y, s'), ⟨true, h1, by simpa using h4⟩, h5⟩
    | false => exact ⟨_, ⟨false, h1, rfl⟩, h3 rfl⟩

@[simp] theorem chkTodo_g {s : St} {d : Option Dst} {op : IOp} {g : Opd} {v : Bool} {x : PV} {n : Nat} {r : List (IOper × PV × Nat)} : chkTodo s ((⟨d, op, some (g, v)⟩, x, n + 1) :: r) = ((Ob' (guardP v (g.get s)) fun t => Br t (WI (fun _ => []) (fun _ _ => none) op s (fun y _ => y = x)) (PV.v Go.undef = x)) ∧ chkTodo s r) := by
  simp only [chkTodo, yv_gu]

@[simp] theorem chkPast_g {V E : Nat → PV} {d : Option Dst} {op : IOp} {g : Opd} {v : Bool} {x : PV} {n : Nat} {s : St} {ms : List St} : chkPast V E ⟨d, op, some (g, v)⟩ x (n + 1) (s :: ms) = ((Ob' (guardP v (g.get { s with V := V, E := E })) fun t => Br t (WI (fun _ => []) (fun _ _ => none) op { s with V := V, E := E } (fun y _ => y = x)) (PV.v Go.undef = x)) ∧ chkPast V E ⟨d, op, some (g, v)⟩ x n ms) := by
  simp only [chkPast, yv_gu]

def lens (L : List (List Int)) : Nat := (L.map List.length).sum

def tot (L : List (List Int)) : Nat := L.length + lens L

theorem lens_cons (l : List Int) (L : List (List Int)) : lens (l :: L) = l.length + lens L := by simp [lens]

theorem lens_mem {L : List (List Int)} : ∀ {l : List Int}, l ∈ L → l.length ≤ lens L := by
  induction L with
  | nil => simp
  | cons a L ih =>
    intro l h
    rw [lens_cons]
    rcases List.mem_cons.mp h with e | e
    · subst e; omega
    · have := ih e; omega

theorem R_laws_szIntSS (q : Bool) (L : List (List Int)) (left : Int) (h0 : 0 ≤ left) (h1 : left ≤ 1048576) (hl : L.length ≤ 9223372036854775807) (hll : ∀ l ∈ L, l.length ≤ 9223372036854775807) : RUN T k_laws_szIntSS [.sl 1 (rws q L), iv left] = some ([iv (if left - tot L < 0 then -1 else left - tot L)], []) := by
  refine RUN_W T_laws_szIntSS rfl ?_
  have e := w64 (x := left - L.length) (by omega) (by omega)
  have ht : tot L = L.length + lens L := rfl
  simp [k_laws_szIntSS_ic, k_laws_szIntSS_rv, e]
  refine Br_i (fun h => ?_) (fun h => ?_)
  · simp at h
    rw [if_pos (by omega)]
    simp
  · simp at h
    simp
    refine W_loop (fun n st => ∃ i : Nat, i + n = L.length ∧ ∃ r : Int, 0 ≤ r ∧ r ≤ 1048576 ∧ r - lens (L.drop i) = left - tot L ∧ st.V 0 = .sl 1 (rws q L) ∧ st.V 1 = iv r ∧ st.V 5 = iv i) ?_ L.length _ ⟨0, by omega, left - L.length, by omega, by omega, by simp; omega, by simp, by simp, by simp⟩
    rintro n st ⟨i, hi, r, hr0, hr1, hr, v0, v1, v5⟩
    simp [k_laws_szIntSS_b0, v0, v5]
    refine Br_i (fun h => ?_) (fun h => ?_)
    · simp at h
      obtain ⟨l, hx⟩ : ∃ l, L[i]? = some l := ⟨_, List.getElem?_eq_getElem h⟩
      have hx' := rws_get (q := q) hx
      have hw := wS h hl
      have hz := R_laws_szIntS (ints l) r hr0 hr1 (by simpa using hll l (List.mem_of_getElem? hx))
      rw [ints_len] at hz
      rw [drop_cons hx, lens_cons] at hr
      by_cases d : r - l.length < 0
      · rw [if_pos d] at hz
        rw [if_pos (by omega)]
        simp [-getElem?_pos, v0, v1, v5, hx', hz, h]
      · rw [if_neg d] at hz
        have d' : ¬ (r - l.length < 0) := d
        simp [-getElem?_pos, v0, v1, v5, hx', hz, h, hw, d']
        exact Rnd_n (n - 1) (by omega) ⟨i + 1, by omega, r - l.length, by omega, by omega, by omega, by simp [v0], by simp, by simp⟩
    · simp at h
      rw [List.drop_eq_nil_of_le (by omega)] at hr
      have : lens [] = 0 := rfl
      rw [if_neg (by omega)]
      simp [v1]
      omega

theorem R_laws_toIntSS (q : Bool) (L : List (List Int)) (hl : L.length ≤ 1048576) (hll : ∀ l ∈ L, l.length ≤ 1048576) : RUN T k_laws_toIntSS [.sl 1 (rws q L)] = some ([.own 1 (rws true L)], []) := by
  refine RUN_W T_laws_toIntSS rfl ?_
  have hr : roomFor 24 L.length = true := by simp [roomFor]; omega
  simp [k_laws_toIntSS_ic, k_laws_toIntSS_rv, hr]
  refine W_loop (fun n st => ∃ i : Nat, i + n = L.length ∧ st.V 0 = .sl 1 (rws q L) ∧ st.V 3 = .ref 0 none 0 0 L.length ∧ st.V 4 = iv i ∧ 0 < st.nx ∧ st.S 0 = some (.row 1 (fil (fun l => [cel true l]) [.own 1 []] L i))) ?_ L.length _ ⟨0, by simp [fil_0]⟩
  rintro n st ⟨i, hi, v0, v3, v4, hnx, hS⟩
  simp [k_laws_toIntSS_b0, v0, v3, v4, hS]
  have z := fr hnx
  refine Br_i (fun h => ?_) (fun h => ?_)
  · simp at h
    obtain ⟨l, hx⟩ : ∃ l, L[i]? = some l := ⟨_, List.getElem?_eq_getElem h⟩
    have hw := wS h (by omega : L.length ≤ 9223372036854775807)
    have hg := fil_get (f := fun l => [cel true l]) (z := [.own 1 []]) h
    have hs := fil_set (f := fun l => [cel true l]) (z := [.own 1 []]) hx
    have hx' := rws_get (q := q) hx
    have hz := R_laws_toIntS l (hll l (List.mem_of_getElem? hx))
    have hc : cel true l = .own 1 (ints l) := rfl
    rw [hc] at hs
    simp [-getElem?_pos, v0, v3, v4, hS, z, h, hx', hw, hg, hs, hz, fil_len (Nat.le_of_lt h)]
    exact Rnd_n (n - 1) (by omega) ⟨i + 1, by omega, by simp [v0], by simp [v3], by simp, by simp, by simp [z]⟩
  · simp at h
    have e := fil_all (f := fun l => [cel true l]) (z := [.own 1 []]) (by omega : i = L.length)
    simp [v3, hS, e, rws]

theorem R_laws_eqIntSS (p q : Bool) (L : List (List Int)) (hl : L.length ≤ 9223372036854775807) (hll : ∀ l ∈ L, l.length ≤ 9223372036854775807) : RUN T k_laws_eqIntSS [.sl 1 (rws p L), .sl 1 (rws q L)] = some ([bv true], []) := by
  refine RUN_W T_laws_eqIntSS rfl ?_
  simp [k_laws_eqIntSS_ic, k_laws_eqIntSS_rv]
  refine W_loop (fun n st => ∃ i : Nat, i + n = L.length ∧ st.V 0 = .sl 1 (rws p L) ∧ st.V 1 = .sl 1 (rws q L) ∧ st.V 5 = iv i) ?_ L.length _ ⟨0, by simp⟩
  rintro n st ⟨i, hi, v0, v1, v5⟩
  simp [k_laws_eqIntSS_b0, v0, v1, v5]
  refine Br_i (fun h => ?_) (fun h => ?_)
  · simp at h
    obtain ⟨l, hx⟩ : ∃ l, L[i]? = some l := ⟨_, List.getElem?_eq_getElem h⟩
    have hw := wS h hl
    have hx1 := rws_get (q := p) hx
    have hx2 := rws_get (q := q) hx
    have hz := R_laws_eqIntS l (hll l (List.mem_of_getElem? hx))
    simp [-getElem?_pos, v0, v1, v5, h, hx1, hx2, hw, hz]
    exact Rnd_n (n - 1) (by omega) ⟨i + 1, by omega, by simp [v0], by simp [v1], by simp⟩
  · simp at h
    simp

theorem wf64 {n : Int} (h : (Lit.int .i64 n).wf = true) : -9223372036854775808 ≤ n ∧ n ≤ 9223372036854775807 := bounds_i64 h

theorem rows_of {α : Type} {f : α → List PV} {p : α → Prop} {tys : List TY} (h : ∀ cs, ShpL tys cs → ∃ a, f a = cs ∧ p a) : ∀ {es : List (List PV)}, (∀ cs ∈ es, ShpL tys cs) → ∃ l : List α, l.map f = es ∧ ∀ a ∈ l, p a
  | [], _ => ⟨[], rfl, by simp⟩
  | e :: es, hs => by
    obtain ⟨a, ha, hp⟩ := h e (hs e (by simp))
    obtain ⟨l, hl, hq⟩ := rows_of h (es := es) (fun cs hc => hs cs (by simp [hc]))
    refine ⟨a :: l, by simp [ha, hl], fun b hb => ?_⟩
    rcases List.mem_cons.mp hb with e | e
    · subst e; exact hp
    · exact hq b e

abbrev tyNd : List TY := [.int .i64, .int .i64, .int .i64, .int .i64, .int .i64]

theorem shp_nd (cs : List PV) (h : ShpL tyNd cs) : ∃ n : Nd, nd n = cs ∧ wfN n := by
  simp only [ShpL, Shp] at h
  obtain ⟨_, _, rfl, ⟨a, rfl, h1⟩, _, _, rfl, ⟨b, rfl, h2⟩, _, _, rfl, ⟨c, rfl, h3⟩, _, _, rfl, ⟨d, rfl, h4⟩, _, _, rfl, ⟨e, rfl, h5⟩, rfl⟩ := h
  exact ⟨⟨a, b, c, d, e⟩, rfl, wf64 h1, wf64 h2, wf64 h3, wf64 h4, wf64 h5⟩

theorem shp_intL (cs : List PV) (h : ShpL [.int .i64] cs) : ∃ n : Int, [iv n] = cs ∧ inI n := by
  simp only [ShpL, Shp] at h
  obtain ⟨_, _, rfl, ⟨a, rfl, h1⟩, rfl⟩ := h
  exact ⟨a, rfl, wf64 h1⟩

theorem shp_intsL (cs : List PV) (h : ShpL [.sl [.int .i64]] cs) : ∃ l : List Int, [cel false l] = cs ∧ l.length ≤ 9223372036854775807 := by
  simp only [ShpL, Shp] at h
  obtain ⟨_, _, rfl, ⟨es, rfl, h1, h2⟩, rfl⟩ := h
  have h2' : ∀ cs ∈ es, ShpL [.int .i64] cs := h2
  obtain ⟨l, hl, _⟩ := rows_of (f := fun n : Int => [iv n]) (tys := [.int .i64]) shp_intL h2'
  subst hl
  simp [maxLen] at h1
  exact ⟨l, rfl, by omega⟩

theorem of_all {P : Program} {l : List TypeId} (h : (l.all fun t => P.readableRec t && decide (t < P.types.size)) = true) : ∀ t ∈ l, P.readableRec t = true ∧ t < P.types.size := by
  intro t ht
  have := List.all_eq_true.mp h t ht
  simpa using this

theorem args2 {p q : Bool × List TY} {pvs : List PV} (h : All2 (fun p c => ShpA p.1 p.2 c) [p, q] pvs) : ∃ a b, pvs = [a, b] ∧ ShpA p.1 p.2 a ∧ ShpA q.1 q.2 b := by
  cases h with
  | cons h1 t => cases t with
    | cons h2 t => cases t with
      | nil => exact ⟨_, _, rfl, h1, h2⟩

/-- The bytes that a source draws from. -/
def byts (B : List Int) : List (List PV) := B.map fun n => [.v (.int .u8 n)]

@[simp] theorem byts_len (B : List Int) : (byts B).length = B.length := by simp [byts]

/-- The end of a call of which something is told. -/
def FinG (rv : List RV) (io : Nat) (G : List PV × List PV → Prop) (_ : Dm rv) (_ : Dm G) (e : Ex) (s : St) : Prop := (e = .normal ∨ e = .ret) ∧ ∃ r, finishEv ⟨[], rv, .skip⟩ io s = some r ∧ G r

@[simp] theorem FinG_n {rv : List RV} {io : Nat} {G : List PV × List PV → Prop} {s : St} : FinG rv io G ⟨⟩ ⟨⟩ .normal s = ∃ r, finishEv ⟨[], rv, .skip⟩ io s = some r ∧ G r := by simp [FinG]

@[simp] theorem FinG_r {rv : List RV} {io : Nat} {G : List PV × List PV → Prop} {s : St} : FinG rv io G ⟨⟩ ⟨⟩ .ret s = ∃ r, finishEv ⟨[], rv, .skip⟩ io s = some r ∧ G r := by simp [FinG]

def sbi (a b : Int) : Int × Bool := if -9223372036854775808 ≤ a - b ∧ a - b ≤ 9223372036854775807 then (a - b, true) else (0, false)

theorem wrap_sub {a b : Int} (ha : inI a) (hb : inI b) : IntKind.i64.wrap (a - b) = if 9223372036854775807 < a - b then a - b - 18446744073709551616 else if a - b < -9223372036854775808 then a - b + 18446744073709551616 else a - b := by
  unfold inI at ha hb
  unfold IntKind.wrap
  simp [IntKind.bits, IntKind.signed]
  omega

theorem R_impl_SubInt (a b : Int) (ha : inI a) (hb : inI b) : RUN T k_impl_SubInt [iv a, iv b] = some ([iv (sbi a b).1, bv (sbi a b).2], []) := by
  refine RUN_W T_impl_SubInt rfl ?_
  have hw := wrap_sub ha hb
  unfold inI at ha hb
  unfold sbi
  by_cases c1 : 9223372036854775807 < a - b
  · rw [if_pos c1] at hw
    rw [if_neg (by omega)]
    have d1 := eq_false (by omega : ¬ a < 0)
    have d2 := eq_true (by omega : b < 0)
    have d3 := eq_true (by omega : a - b - 18446744073709551616 < 0)
    simp [-getElem?_pos, k_impl_SubInt_ic, k_impl_SubInt_rv, hw, d1, d2, d3]
  · rw [if_neg c1] at hw
    by_cases c2 : a - b < -9223372036854775808
    · rw [if_pos c2] at hw
      rw [if_neg (by omega)]
      have d1 := eq_true (by omega : a < 0)
      have d2 := eq_false (by omega : ¬ b < 0)
      have d3 := eq_false (by omega : ¬ a - b + 18446744073709551616 < 0)
      simp [-getElem?_pos, k_impl_SubInt_ic, k_impl_SubInt_rv, hw, d1, d2, d3]
    · rw [if_neg c2] at hw
      rw [if_pos (by omega)]
      rcases Classical.propComplete (a < 0) with d1 | d1
      all_goals rcases Classical.propComplete (b < 0) with d2 | d2
      all_goals simp at d1 d2
      · simp [-getElem?_pos, k_impl_SubInt_ic, k_impl_SubInt_rv, hw, eq_true d1, eq_true d2]
      · have d2' := eq_false (by omega : ¬ b < 0)
        have d3 := eq_true (by omega : a - b < 0)
        simp [-getElem?_pos, k_impl_SubInt_ic, k_impl_SubInt_rv, hw, eq_true d1, d2', d3]
      · have d1' := eq_false (by omega : ¬ a < 0)
        have d3 := eq_false (by omega : ¬ a - b < 0)
        simp [-getElem?_pos, k_impl_SubInt_ic, k_impl_SubInt_rv, hw, eq_true d2, d1', d3]
      · have d1' := eq_false (by omega : ¬ a < 0)
        have d2' := eq_false (by omega : ¬ b < 0)
        simp [-getElem?_pos, k_impl_SubInt_ic, k_impl_SubInt_rv, hw, d1', d2']

theorem R_spec_SubInt (a b : Int) (ha : inI a) (hb : inI b) : RUN T k_spec_SubInt [iv a, iv b] = some ([iv (sbi a b).1, bv (sbi a b).2], []) := by
  refine RUN_W T_spec_SubInt rfl ?_
  have hw := wrap_sub ha hb
  unfold inI at ha hb
  unfold sbi
  rcases Int.lt_trichotomy b 0 with c | c | c
  · have d1 := eq_false (by omega : ¬ 0 < b)
    have d2 := eq_true c
    have w := w64 (x := 9223372036854775807 + b) (by omega) (by omega)
    by_cases e : 9223372036854775807 + b < a
    · rw [if_neg (by omega)]
      simp [-getElem?_pos, k_spec_SubInt_ic, k_spec_SubInt_rv, d1, d2, w, e]
    · rw [if_neg (by omega), if_neg (by omega)] at hw
      rw [if_pos (by omega)]
      simp [-getElem?_pos, k_spec_SubInt_ic, k_spec_SubInt_rv, d1, d2, w, e, hw]
  · subst c
    rw [if_neg (by omega), if_neg (by omega)] at hw
    rw [if_pos (by omega)]
    simp at hw
    simp [k_spec_SubInt_ic, k_spec_SubInt_rv, hw]
  · have d1 := eq_true c
    have d2 := eq_false (by omega : ¬ b < 0)
    have w := w64 (x := -9223372036854775808 + b) (by omega) (by omega)
    by_cases e : a < -9223372036854775808 + b
    · rw [if_neg (by omega)]
      simp [-getElem?_pos, k_spec_SubInt_ic, k_spec_SubInt_rv, d1, d2, w, e]
    · rw [if_neg (by omega), if_neg (by omega)] at hw
      rw [if_pos (by omega)]
      simp [-getElem?_pos, k_spec_SubInt_ic, k_spec_SubInt_rv, d1, d2, w, e, hw]

/-- The differences, as long as they fit. -/
def res : List Int → List Int → Option (List Int)
  | x :: xs, y :: ys => if (sbi x y).2 then (res xs ys).map ((sbi x y).1 :: ·) else none
  | _, _ => some []

theorem res_c {l m : List Int} {i : Nat} {x y : Int} (hx : l[i]? = some x) (hy : m[i]? = some y) : res (l.drop i) (m.drop i) = if (sbi x y).2 then (res (l.drop (i + 1)) (m.drop (i + 1))).map ((sbi x y).1 :: ·) else none := by
  rw [drop_cons hx, drop_cons hy, res]

theorem res_nil (m : List Int) : res [] m = some [] := by cases m <;> rfl

def resid (l m : List Int) : List Int × Bool := if l.length = m.length then match res l m with
    | some r => (r, true)
    | none => ([], false)
  else ([], false)

theorem res_spec : ∀ {l m r : List Int}, l.length = m.length → res l m = some r → r.length = l.length ∧ ∀ (i : Nat) (x y z : Int), l[i]? = some x → m[i]? = some y → r[i]? = some z → z = x - y ∧ -9223372036854775808 ≤ x - y ∧ x - y ≤ 9223372036854775807
  | [], [], r, _, h => by simp [res] at h; subst h; simp
  | x :: xs, y :: ys, r, hl, h => by
    rw [res] at h
    split at h
    · rename_i c
      simp only [Option.map_eq_some_iff] at h
      obtain ⟨r', hr, rfl⟩ := h
      obtain ⟨h1, h2⟩ := res_spec (by simpa using hl) hr
      refine ⟨by simp [h1], fun i a b z ha hb hz => ?_⟩
      cases i with
      | zero =>
        simp at ha hb hz
        subst ha hb hz
        unfold sbi at c ⊢
        split at c
        · rename_i hh; rw [if_pos hh]; exact ⟨rfl, hh⟩
        · cases c
      | succ i => exact h2 i a b z (by simpa using ha) (by simpa using hb) (by simpa using hz)
    · cases h
  | [], _ :: _, _, hl, _ => by simp at hl
  | _ :: _, [], _, hl, _ => by simp at hl

theorem R_impl_Residuals (l m : List Int) (hl : l.length ≤ 1048576) (hm : m.length ≤ 1048576) (hli : ∀ n ∈ l, inI n) (hmi : ∀ n ∈ m, inI n) : RUN T k_impl_Residuals [.sl 1 (ints l), .sl 1 (ints m)] = some ([.own 1 (ints (resid l m).1), bv (resid l m).2], []) := by
  refine RUN_W T_impl_Residuals rfl ?_
  unfold resid
  rcases Classical.propComplete ((l.length : Int) = m.length) with e | e
  case inr =>
    rw [if_neg (by simp at e; omega)]
    simp [-getElem?_pos, k_impl_Residuals_ic, k_impl_Residuals_rv, e]
  have e' : l.length = m.length := by simp at e; omega
  rw [if_pos e']
  simp [-getElem?_pos, k_impl_Residuals_ic, k_impl_Residuals_rv, e]
  refine W_loop (fun n st => ∃ (i o e : Nat) (a : List Int), i + n = l.length ∧ a.length = i ∧ (res (l.drop i) (m.drop i)).map (a ++ ·) = res l m ∧ st.V 0 = .sl 1 (ints l) ∧ st.V 1 = .sl 1 (ints m) ∧ st.V 6 = .ref o none e 0 a.length ∧ st.V 17 = iv l.length ∧ st.V 18 = iv i ∧ o < st.nx ∧ st.ep = 0 ∧ st.S o = some (.row 1 (ints a))) ?_ l.length _ ⟨0, 0, 0, [], by omega, rfl, by simp, by simp⟩
  rintro n st ⟨i, o, ep, a, hi, ha, hr, v0, v1, v6, v17, v18, hox, hep, hSo⟩
  simp [k_impl_Residuals_b0, v17, v18]
  refine Br_i (fun h => ?_) (fun h => ?_)
  · simp at h
    obtain ⟨x, hx⟩ : ∃ x, l[i]? = some x := ⟨_, List.getElem?_eq_getElem h⟩
    obtain ⟨y, hy⟩ : ∃ y, m[i]? = some y := ⟨_, List.getElem?_eq_getElem (by omega)⟩
    have hx' := ints_get hx
    have hy' := ints_get hy
    have him : i < m.length := by omega
    have hw := wS h (by omega : l.length ≤ 9223372036854775807)
    have hsub := R_impl_SubInt x y (hli x (List.mem_of_getElem? hx)) (hmi y (List.mem_of_getElem? hy))
    rw [res_c hx hy] at hr
    have z1 := fr hox
    have hr8 := room8 (n := a.length + 1) (by omega)
    cases c : (sbi x y).2 with
    | true =>
      rw [if_pos c] at hr
      rw [c] at hsub
      simp [-getElem?_pos, v0, v1, v6, v17, v18, hep, hSo, z1, hx', hy', h, him, hsub, hr8, ints_snoc, hw]
      refine Rnd_n (n - 1) (by omega) ⟨i + 1, st.nx + 1, 0, a ++ [(sbi x y).1], by omega, by simp [ha], ?_, by simp [v0], by simp [v1], by simp, by simp [v17], by simp, by simp, by simp [hep], by simp⟩
      rw [← hr]
      cases res (l.drop (i + 1)) (m.drop (i + 1)) <;> simp
    | false =>
      rw [if_neg (by simp [c])] at hr
      rw [c] at hsub
      simp at hr
      simp [-getElem?_pos, v0, v1, v6, v17, v18, hep, hSo, z1, hx', hy', h, him, hsub, ← hr]
  · simp at h
    rw [List.drop_eq_nil_of_le h, res_nil] at hr
    simp at hr
    rw [← hr]
    simp [-getElem?_pos, v6, hSo]

theorem R_spec_Residuals (l m : List Int) (hl : l.length ≤ 1048576) (hm : m.length ≤ 1048576) (hli : ∀ n ∈ l, inI n) (hmi : ∀ n ∈ m, inI n) : RUN T k_spec_Residuals [.sl 1 (ints l), .sl 1 (ints m)] = some ([.own 1 (ints (resid l m).1), bv (resid l m).2], []) := by
  refine RUN_W T_spec_Residuals rfl ?_
  unfold resid
  rcases Classical.propComplete ((l.length : Int) = m.length) with e | e
  case inr =>
    rw [if_neg (by simp at e; omega)]
    simp [-getElem?_pos, k_spec_Residuals_ic, k_spec_Residuals_rv, e]
  have e' : l.length = m.length := by simp at e; omega
  rw [if_pos e']
  simp [-getElem?_pos, k_spec_Residuals_ic, k_spec_Residuals_rv, e]
  refine W_loop (fun n st => ∃ (i o e : Nat) (a : List Int), i + n = l.length ∧ a.length = i ∧ (res (l.drop i) (m.drop i)).map (a ++ ·) = res l m ∧ st.V 0 = .sl 1 (ints l) ∧ st.V 1 = .sl 1 (ints m) ∧ st.V 6 = .ref o none e 0 a.length ∧ st.V 7 = iv i ∧ o < st.nx ∧ st.ep = 0 ∧ st.S o = some (.row 1 (ints a))) ?_ l.length _ ⟨0, 0, 0, [], by omega, rfl, by simp, by simp⟩
  rintro n st ⟨i, o, ep, a, hi, ha, hr, v0, v1, v6, v7, hox, hep, hSo⟩
  simp [k_spec_Residuals_b0, v0, v7]
  refine Br_i (fun h => ?_) (fun h => ?_)
  · simp at h
    obtain ⟨x, hx⟩ : ∃ x, l[i]? = some x := ⟨_, List.getElem?_eq_getElem h⟩
    obtain ⟨y, hy⟩ : ∃ y, m[i]? = some y := ⟨_, List.getElem?_eq_getElem (by omega)⟩
    have hx' := ints_get hx
    have hy' := ints_get hy
    have him : i < m.length := by omega
    have hw := wS h (by omega : l.length ≤ 9223372036854775807)
    have hsub := R_spec_SubInt x y (hli x (List.mem_of_getElem? hx)) (hmi y (List.mem_of_getElem? hy))
    rw [res_c hx hy] at hr
    have z1 := fr hox
    have hr8 := room8 (n := a.length + 1) (by omega)
    cases c : (sbi x y).2 with
    | true =>
      rw [if_pos c] at hr
      rw [c] at hsub
      simp [-getElem?_pos, v0, v1, v6, v7, hep, hSo, z1, hx', hy', h, him, hsub, hr8, ints_snoc, hw]
      refine Rnd_n (n - 1) (by omega) ⟨i + 1, st.nx + 1, 0, a ++ [(sbi x y).1], by omega, by simp [ha], ?_, by simp [v0], by simp [v1], by simp, by simp, by simp, by simp [hep], by simp⟩
      rw [← hr]
      cases res (l.drop (i + 1)) (m.drop (i + 1)) <;> simp
    | false =>
      rw [if_neg (by simp [c])] at hr
      rw [c] at hsub
      simp at hr
      simp [-getElem?_pos, v0, v1, v6, v7, hep, hSo, z1, hx', hy', h, him, hsub, ← hr]
  · simp at h
    rw [List.drop_eq_nil_of_le h, res_nil] at hr
    simp at hr
    rw [← hr]
    simp [-getElem?_pos, v6, hSo]

def strs (l : List ByteArray) : List (List PV) := l.map fun s => [.v (.string s)]

@[simp] theorem strs_len (l : List ByteArray) : (strs l).length = l.length := by simp [strs]

theorem strs_get {l : List ByteArray} {i : Nat} {x : ByteArray} (h : l[i]? = some x) : (strs l)[i]? = some [.v (.string x)] := by simp [strs, h]

def szs (l : List ByteArray) : Nat := (l.map ByteArray.size).sum

theorem szs_cons (x : ByteArray) (l : List ByteArray) : szs (x :: l) = x.size + szs l := by simp [szs]

def tots (l : List ByteArray) : Nat := l.length + szs l

theorem R_laws_szStringS (l : List ByteArray) (left : Int) (h0 : 0 ≤ left) (h1 : left ≤ 1048576) (hl : l.length ≤ 9223372036854775807) (hll : ∀ x ∈ l, x.size ≤ 9223372036854775807) : RUN T k_laws_szStringS [.sl 1 (strs l), iv left] = some ([iv (if left - tots l < 0 then -1 else left - tots l)], []) := by
  refine RUN_W T_laws_szStringS rfl ?_
  have e := w64 (x := left - l.length) (by omega) (by omega)
  have ht : tots l = l.length + szs l := rfl
  simp [k_laws_szStringS_ic, k_laws_szStringS_rv, e]
  refine Br_i (fun h => ?_) (fun h => ?_)
  · simp at h
    rw [if_pos (by omega)]
    simp
  · simp at h
    simp
    refine W_loop (fun n st => ∃ i : Nat, i + n = l.length ∧ ∃ r : Int, 0 ≤ r ∧ r ≤ 1048576 ∧ r - szs (l.drop i) = left - tots l ∧ st.V 0 = .sl 1 (strs l) ∧ st.V 1 = iv r ∧ st.V 5 = iv i) ?_ l.length _ ⟨0, by omega, left - l.length, by omega, by omega, by simp; omega, by simp, by simp, by simp⟩
    rintro n st ⟨i, hi, r, hr0, hr1, hr, v0, v1, v5⟩
    simp [k_laws_szStringS_b0, v0, v5]
    refine Br_i (fun h => ?_) (fun h => ?_)
    · simp at h
      obtain ⟨x, hx⟩ : ∃ x, l[i]? = some x := ⟨_, List.getElem?_eq_getElem h⟩
      have hx' := strs_get hx
      have hw := wS h hl
      have hxs := hll x (List.mem_of_getElem? hx)
      rw [drop_cons hx, szs_cons] at hr
      have e2 := w64 (x := r - x.size) (by omega) (by omega)
      rcases Classical.propComplete (r - x.size < 0) with d | d
      · rw [if_pos (by simp at d; omega)]
        simp [-getElem?_pos, v0, v1, v5, hx', h, e2, d]
      · simp [-getElem?_pos, v0, v1, v5, hx', h, hw, e2, d]
        simp at d
        exact Rnd_n (n - 1) (by omega) ⟨i + 1, by omega, r - x.size, by omega, by omega, by omega, by simp [v0], by simp, by simp⟩
    · simp at h
      rw [List.drop_eq_nil_of_le (by omega)] at hr
      have : szs [] = 0 := rfl
      rw [if_neg (by omega)]
      simp [v1]
      omega

theorem R_laws_toStringS (l : List ByteArray) (hl : l.length ≤ 1048576) : RUN T k_laws_toStringS [.sl 1 (strs l)] = some ([.own 1 (strs l)], []) := by
  refine RUN_W T_laws_toStringS rfl ?_
  have hr : roomFor 16 l.length = true := by simp [roomFor]; omega
  simp [k_laws_toStringS_ic, k_laws_toStringS_rv, hr]
  refine W_loop (fun n st => ∃ i : Nat, i + n = l.length ∧ st.V 0 = .sl 1 (strs l) ∧ st.V 3 = .ref 0 none 0 0 l.length ∧ st.V 4 = iv i ∧ st.ep = 0 ∧ st.S 0 = some (.row 1 (fil (fun s => [.v (.string s)]) [.v (.string (bs []))] l i))) ?_ l.length _ ⟨0, by simp [fil_0]⟩
  rintro n st ⟨i, hi, h0, h3, h4, hep, hS⟩
  simp [k_laws_toStringS_b0, h0, h3, h4, hS]
  refine Br_i (fun h => ?_) (fun h => ?_)
  · simp at h
    obtain ⟨x, hx⟩ : ∃ x, l[i]? = some x := ⟨_, List.getElem?_eq_getElem h⟩
    have hw := wS h (by omega : l.length ≤ 9223372036854775807)
    have hg := fil_get (f := fun s => [PV.v (.string s)]) (z := [.v (.string (bs []))]) h
    have hs := fil_set (f := fun s => [PV.v (.string s)]) (z := [.v (.string (bs []))]) hx
    have hx' := strs_get hx
    simp [-getElem?_pos, h0, h3, h4, hS, hep, h, hx', hw, hg, hs, fil_len (Nat.le_of_lt h)]
    exact Rnd_n (n - 1) (by omega) ⟨i + 1, by omega, by simp [h0], by simp [h3], by simp, by simp, by simp⟩
  · simp at h
    have e := fil_all (f := fun s => [PV.v (.string s)]) (z := [.v (.string (bs []))]) (by omega : i = l.length)
    simp [h3, hS, e, strs]

theorem R_laws_eqStringS (l : List ByteArray) (hl : l.length ≤ 9223372036854775807) : RUN T k_laws_eqStringS [.sl 1 (strs l), .sl 1 (strs l)] = some ([bv true], []) := by
  refine RUN_W T_laws_eqStringS rfl ?_
  simp [k_laws_eqStringS_ic, k_laws_eqStringS_rv]
  refine W_loop (fun n st => ∃ i : Nat, i + n = l.length ∧ st.V 0 = .sl 1 (strs l) ∧ st.V 1 = .sl 1 (strs l) ∧ st.V 5 = iv i) ?_ l.length _ ⟨0, by simp⟩
  rintro n st ⟨i, hi, h0, h1, h5⟩
  simp [k_laws_eqStringS_b0, h0, h1, h5]
  refine Br_i (fun h => ?_) (fun h => ?_)
  · simp at h
    obtain ⟨x, hx⟩ : ∃ x, l[i]? = some x := ⟨_, List.getElem?_eq_getElem h⟩
    have hw := wS h hl
    have hx' := strs_get hx
    simp [-getElem?_pos, h0, h1, h5, hx', hw, h]
    exact Rnd_n (n - 1) (by omega) ⟨i + 1, by omega, by simp [h0], by simp [h1], by simp⟩
  · simp at h
    simp

def celT (q : Bool) (t : List Nd) : PV := if q then .own 5 (t.map nd) else .sl 5 (t.map nd)

@[simp] theorem fz_celT (q : Bool) (t : List Nd) : fz (celT q t) = .sl 5 (t.map nd) := by cases q <;> simp [celT]

def trs (q : Bool) (M : List (List Nd)) : List (List PV) := M.map fun t => [celT q t]

@[simp] theorem trs_len (q : Bool) (M : List (List Nd)) : (trs q M).length = M.length := by simp [trs]

theorem trs_get {q : Bool} {M : List (List Nd)} {i : Nat} {t : List Nd} (h : M[i]? = some t) : (trs q M)[i]? = some [celT q t] := by simp [trs, h]

def lenT (M : List (List Nd)) : Nat := (M.map List.length).sum

def totT (M : List (List Nd)) : Nat := M.length + lenT M

theorem lenT_cons (l : List Nd) (M : List (List Nd)) : lenT (l :: M) = l.length + lenT M := by simp [lenT]

theorem lenT_mem {M : List (List Nd)} : ∀ {l : List Nd}, l ∈ M → l.length ≤ lenT M := by
  induction M with
  | nil => simp
  | cons a M ih =>
    intro l h
    rw [lenT_cons]
    rcases List.mem_cons.mp h with e | e
    · subst e; omega
    · have := ih e; omega

theorem R_laws_szTreeS (q : Bool) (M : List (List Nd)) (left : Int) (h0 : 0 ≤ left) (h1 : left ≤ 1048576) (hl : M.length ≤ 9223372036854775807) (hll : ∀ l ∈ M, l.length ≤ 9223372036854775807) : RUN T k_laws_szTreeS [.sl 1 (trs q M), iv left] = some ([iv (if left - totT M < 0 then -1 else left - totT M)], []) := by
  refine RUN_W T_laws_szTreeS rfl ?_
  have e := w64 (x := left - M.length) (by omega) (by omega)
  have ht : totT M = M.length + lenT M := rfl
  simp [k_laws_szTreeS_ic, k_laws_szTreeS_rv, e]
  refine Br_i (fun h => ?_) (fun h => ?_)
  · simp at h
    rw [if_pos (by omega)]
    simp
  · simp at h
    simp
    refine W_loop (fun n st => ∃ i : Nat, i + n = M.length ∧ ∃ r : Int, 0 ≤ r ∧ r ≤ 1048576 ∧ r - lenT (M.drop i) = left - totT M ∧ st.V 0 = .sl 1 (trs q M) ∧ st.V 1 = iv r ∧ st.V 5 = iv i) ?_ M.length _ ⟨0, by omega, left - M.length, by omega, by omega, by simp; omega, by simp, by simp, by simp⟩
    rintro n st ⟨i, hi, r, hr0, hr1, hr, v0, v1, v5⟩
    simp [k_laws_szTreeS_b0, v0, v5]
    refine Br_i (fun h => ?_) (fun h => ?_)
    · simp at h
      obtain ⟨l, hx⟩ : ∃ l, M[i]? = some l := ⟨_, List.getElem?_eq_getElem h⟩
      have hx' := trs_get (q := q) hx
      have hw := wS h hl
      have hz := R_laws_szTree (l.map nd) r hr0 hr1 (by simpa using hll l (List.mem_of_getElem? hx))
      rw [List.length_map] at hz
      rw [drop_cons hx, lenT_cons] at hr
      by_cases d : r - l.length < 0
      · rw [if_pos d] at hz
        rw [if_pos (by omega)]
        simp [-getElem?_pos, v0, v1, v5, hx', hz, h]
      · rw [if_neg d] at hz
        have d' : ¬ (r - l.length < 0) := d
        simp [-getElem?_pos, v0, v1, v5, hx', hz, h, hw, d']
        exact Rnd_n (n - 1) (by omega) ⟨i + 1, by omega, r - l.length, by omega, by omega, by omega, by simp [v0], by simp, by simp⟩
    · simp at h
      rw [List.drop_eq_nil_of_le (by omega)] at hr
      have : lenT [] = 0 := rfl
      rw [if_neg (by omega)]
      simp [v1]
      omega

theorem R_laws_toTreeS (q : Bool) (M : List (List Nd)) (hl : M.length ≤ 1048576) (hll : ∀ l ∈ M, l.length ≤ 1048576) : RUN T k_laws_toTreeS [.sl 1 (trs q M)] = some ([.own 1 (trs true M)], []) := by
  refine RUN_W T_laws_toTreeS rfl ?_
  have hr : roomFor 24 M.length = true := by simp [roomFor]; omega
  simp [k_laws_toTreeS_ic, k_laws_toTreeS_rv, hr]
  refine W_loop (fun n st => ∃ i : Nat, i + n = M.length ∧ st.V 0 = .sl 1 (trs q M) ∧ st.V 3 = .ref 0 none 0 0 M.length ∧ st.V 4 = iv i ∧ 0 < st.nx ∧ st.S 0 = some (.row 1 (fil (fun l => [celT true l]) [.own 5 []] M i))) ?_ M.length _ ⟨0, by simp [fil_0]⟩
  rintro n st ⟨i, hi, v0, v3, v4, hnx, hS⟩
  simp [k_laws_toTreeS_b0, v0, v3, v4, hS]
  have z := fr hnx
  refine Br_i (fun h => ?_) (fun h => ?_)
  · simp at h
    obtain ⟨l, hx⟩ : ∃ l, M[i]? = some l := ⟨_, List.getElem?_eq_getElem h⟩
    have hw := wS h (by omega : M.length ≤ 9223372036854775807)
    have hg := fil_get (f := fun l => [celT true l]) (z := [.own 5 []]) h
    have hs := fil_set (f := fun l => [celT true l]) (z := [.own 5 []]) hx
    have hx' := trs_get (q := q) hx
    have hz := R_laws_toTree l (hll l (List.mem_of_getElem? hx))
    have hc : celT true l = .own 5 (l.map nd) := rfl
    rw [hc] at hs
    simp [-getElem?_pos, v0, v3, v4, hS, z, h, hx', hw, hg, hs, hz, fil_len (Nat.le_of_lt h)]
    exact Rnd_n (n - 1) (by omega) ⟨i + 1, by omega, by simp [v0], by simp [v3], by simp, by simp, by simp [z]⟩
  · simp at h
    have e := fil_all (f := fun l => [celT true l]) (z := [.own 5 []]) (by omega : i = M.length)
    simp [v3, hS, e, trs]

theorem R_laws_eqTreeS (p q : Bool) (M : List (List Nd)) (hl : M.length ≤ 9223372036854775807) (hll : ∀ l ∈ M, l.length ≤ 9223372036854775807) : RUN T k_laws_eqTreeS [.sl 1 (trs p M), .sl 1 (trs q M)] = some ([bv true], []) := by
  refine RUN_W T_laws_eqTreeS rfl ?_
  simp [k_laws_eqTreeS_ic, k_laws_eqTreeS_rv]
  refine W_loop (fun n st => ∃ i : Nat, i + n = M.length ∧ st.V 0 = .sl 1 (trs p M) ∧ st.V 1 = .sl 1 (trs q M) ∧ st.V 5 = iv i) ?_ M.length _ ⟨0, by simp⟩
  rintro n st ⟨i, hi, v0, v1, v5⟩
  simp [k_laws_eqTreeS_b0, v0, v1, v5]
  refine Br_i (fun h => ?_) (fun h => ?_)
  · simp at h
    obtain ⟨l, hx⟩ : ∃ l, M[i]? = some l := ⟨_, List.getElem?_eq_getElem h⟩
    have hw := wS h hl
    have hx1 := trs_get (q := p) hx
    have hx2 := trs_get (q := q) hx
    have hz := R_laws_eqTree l (hll l (List.mem_of_getElem? hx))
    simp [-getElem?_pos, v0, v1, v5, h, hx1, hx2, hw, hz]
    exact Rnd_n (n - 1) (by omega) ⟨i + 1, by omega, by simp [v0], by simp [v1], by simp⟩
  · simp at h
    simp

structure Mo where
  ns : List ByteArray
  ix : List Int
  b : Int
  ts : List (List Nd)

/-- No list is longer than a list can be. -/
structure MoL (n : Nat) (m : Mo) : Prop where
  ns : m.ns.length ≤ n
  ss : ∀ x ∈ m.ns, x.size ≤ n
  ix : m.ix.length ≤ n
  ts : m.ts.length ≤ n
  tl : ∀ l ∈ m.ts, l.length ≤ n

def totM (m : Mo) : Nat := tots m.ns + m.ix.length + totT m.ts

theorem szs_mem {l : List ByteArray} : ∀ {x : ByteArray}, x ∈ l → x.size ≤ szs l := by
  induction l with
  | nil => simp
  | cons a l ih =>
    intro x h
    rw [szs_cons]
    rcases List.mem_cons.mp h with e | e
    · subst e; omega
    · have := ih e; omega

theorem MoL.of {m : Mo} {n : Nat} (h : totM m ≤ n) : MoL n m := by
  unfold totM tots totT at h
  exact ⟨by omega, fun x hx => by have := szs_mem hx; omega, by omega, by omega, fun x hx => by have := lenT_mem hx; omega⟩

def rwS (q : Bool) (l : List ByteArray) : PV := if q then .own 1 (strs l) else .sl 1 (strs l)

@[simp] theorem fz_rwS (q : Bool) (l : List ByteArray) : fz (rwS q l) = .sl 1 (strs l) := by cases q <;> simp [rwS]

def rwsS (q : Bool) (L : List (List ByteArray)) : List (List PV) := L.map fun l => [rwS q l]

@[simp] theorem rwsS_len (q : Bool) (L : List (List ByteArray)) : (rwsS q L).length = L.length := by simp [rwsS]

theorem shp_strL (cs : List PV) (h : ShpL [.str] cs) : ∃ s : ByteArray, [PV.v (.string s)] = cs ∧ s.size ≤ 9223372036854775807 := by
  simp only [ShpL, Shp] at h
  obtain ⟨_, _, rfl, ⟨a, rfl, h1⟩, rfl⟩ := h
  simp [maxLen] at h1
  exact ⟨a, rfl, by omega⟩

theorem shp_treeL (cs : List PV) (h : ShpL [.sl tyNd] cs) : ∃ t : List Nd, [celT false t] = cs ∧ t.length ≤ 9223372036854775807 := by
  simp only [ShpL, Shp] at h
  obtain ⟨_, _, rfl, ⟨es, rfl, h1, h2⟩, rfl⟩ := h
  have h2' : ∀ cs ∈ es, ShpL tyNd cs := h2
  obtain ⟨t, ht, _⟩ := rows_of (f := nd) shp_nd h2'
  subst ht
  simp [maxLen] at h1
  exact ⟨t, rfl, by omega⟩

/-- The numbers below one that are meant. -/
def picks (p : Nat → Bool) (i : Nat) : List Int := ((List.range i).filter p).map fun (j : Nat) => (j : Int)

@[simp] theorem picks_0 (p : Nat → Bool) : picks p 0 = [] := rfl

theorem wu64 (x : Int) : IntKind.u64.wrap x = x % 18446744073709551616 := IntKind.wrap_u64 x

theorem bMulU (a b : Int) : binV .mul (.int .u64 a) (.int .u64 b) = some (.int .u64 (a * b % 18446744073709551616)) := by rw [binV_mul, wu64]

theorem bAddU (a b : Int) : binV .add (.int .u64 a) (.int .u64 b) = some (.int .u64 ((a + b) % 18446744073709551616)) := by rw [binV_add, wu64]

theorem bShr32 (x : Int) : binV .shr (.int .u64 x) (.int .u64 32) = some (.int .u64 (x / 4294967296)) := by
  rw [binV_shr, if_pos (by decide)]
  have : (2 : Int) ^ min (32 : Int).toNat IntKind.u64.bits = 4294967296 := by decide
  rw [this, Int.fdiv_eq_ediv_of_nonneg _ (by decide)]

theorem bShl32 (x : Int) : binV .shl (.int .u64 x) (.int .u64 32) = some (.int .u64 (x * 4294967296 % 18446744073709551616)) := by
  rw [binV_shl, if_pos (by decide), wu64]
  have : (2 : Int) ^ min (32 : Int).toNat IntKind.u64.bits = 4294967296 := by decide
  rw [this]

theorem bAnd32 {x : Int} (h0 : 0 ≤ x) (h1 : x < 18446744073709551616) : binV .and (.int .u64 x) (.int .u64 4294967295) = some (.int .u64 (x % 4294967296)) := by
  rw [binV_and, wu64]
  have e : ((BitVec.ofInt IntKind.u64.bits x &&& BitVec.ofInt IntKind.u64.bits 4294967295).toNat : Int) = x % 4294967296 := by
    obtain ⟨n, rfl⟩ := Int.eq_ofNat_of_zero_le h0
    have hn : n < 2 ^ 64 := by omega
    have e2 : (BitVec.ofInt 64 (n : Int) &&& BitVec.ofInt 64 4294967295).toNat = n % 4294967296 := by
      rw [BitVec.toNat_and]
      have e3 : (BitVec.ofInt 64 (n : Int)).toNat = n := by
        rw [BitVec.ofInt_natCast, BitVec.toNat_ofNat, Nat.mod_eq_of_lt hn]
      have e4 : (BitVec.ofInt 64 4294967295).toNat = 2 ^ 32 - 1 := by decide
      rw [e3, e4, Nat.and_two_pow_sub_one_eq_mod]
    show (((BitVec.ofInt 64 (n : Int) &&& BitVec.ofInt 64 4294967295).toNat : Nat) : Int) = _
    rw [e2]; omega
  rw [e]; congr 2; omega

/-- The four part products of two numbers of 64 bits. -/
theorem parts {x y : Int} (hx : 0 ≤ x) (hx1 : x < 18446744073709551616) (hy : 0 ≤ y) (hy1 : y < 18446744073709551616) :
    ∃ a b c d : Int, a = x % 4294967296 * (y % 4294967296) ∧ b = x / 4294967296 * (y % 4294967296) ∧ c = x % 4294967296 * (y / 4294967296) ∧ d = x / 4294967296 * (y / 4294967296) ∧ 0 ≤ a ∧ a ≤ 18446744065119617025 ∧ 0 ≤ b ∧ b ≤ 18446744065119617025 ∧ 0 ≤ c ∧ c ≤ 18446744065119617025 ∧ 0 ≤ d ∧ d ≤ 18446744065119617025 ∧ x * y = d * 18446744073709551616 + (b + c) * 4294967296 + a := by
  have bd : ∀ u v : Int, 0 ≤ u → u ≤ 4294967295 → 0 ≤ v → v ≤ 4294967295 → 0 ≤ u * v ∧ u * v ≤ 18446744065119617025 := fun u v h1 h2 h3 h4 =>
    ⟨Int.mul_nonneg h1 h3, Int.le_trans (Int.mul_le_mul h2 h4 h3 (by decide)) (by decide)⟩
  have x0 : 0 ≤ x % 4294967296 ∧ x % 4294967296 ≤ 4294967295 := by omega
  have x1 : 0 ≤ x / 4294967296 ∧ x / 4294967296 ≤ 4294967295 := by omega
  have y0 : 0 ≤ y % 4294967296 ∧ y % 4294967296 ≤ 4294967295 := by omega
  have y1 : 0 ≤ y / 4294967296 ∧ y / 4294967296 ≤ 4294967295 := by omega
  refine ⟨_, _, _, _, rfl, rfl, rfl, rfl, (bd _ _ x0.1 x0.2 y0.1 y0.2).1, (bd _ _ x0.1 x0.2 y0.1 y0.2).2, (bd _ _ x1.1 x1.2 y0.1 y0.2).1, (bd _ _ x1.1 x1.2 y0.1 y0.2).2, (bd _ _ x0.1 x0.2 y1.1 y1.2).1, (bd _ _ x0.1 x0.2 y1.1 y1.2).2, (bd _ _ x1.1 x1.2 y1.1 y1.2).1, (bd _ _ x1.1 x1.2 y1.1 y1.2).2, ?_⟩
  have ex : x = x / 4294967296 * 4294967296 + x % 4294967296 := by omega
  have ey : y = y / 4294967296 * 4294967296 + y % 4294967296 := by omega
  generalize x / 4294967296 = p at *
  generalize x % 4294967296 = q at *
  generalize y / 4294967296 = r at *
  generalize y % 4294967296 = s at *
  rw [ex, ey, Int.add_mul, Int.mul_add, Int.mul_add]
  have e1 : p * 4294967296 * (r * 4294967296) = p * r * 18446744073709551616 := by
    rw [show (18446744073709551616 : Int) = 4294967296 * 4294967296 by decide, Int.mul_assoc, Int.mul_comm 4294967296 (r * 4294967296), Int.mul_assoc r, ← Int.mul_assoc p r]
  have e2 : p * 4294967296 * s = p * s * 4294967296 := by rw [Int.mul_assoc, Int.mul_comm 4294967296 s, ← Int.mul_assoc]
  have e3 : q * (r * 4294967296) = q * r * 4294967296 := by rw [← Int.mul_assoc]
  rw [e1, e2, e3, Int.add_mul]
  omega

theorem R_math_bits_Mul64 (x y : Int) (hx : 0 ≤ x) (hx1 : x < 18446744073709551616) (hy : 0 ≤ y) (hy1 : y < 18446744073709551616) : RUN T k_math_bits_Mul64 [.v (.int .u64 x), .v (.int .u64 y)] = some ([.v (.int .u64 (x * y / 18446744073709551616)), .v (.int .u64 (x * y % 18446744073709551616))], []) := by
  refine RUN_W T_math_bits_Mul64 rfl ?_
  obtain ⟨a, b, c, d, ea, eb, ec, ed, a0, a1, b0, b1, c0, c1, d0, d1, hp⟩ := parts hx hx1 hy hy1
  have f1 := bAnd32 hx hx1
  have f2 := bAnd32 hy hy1
  have g1 : a % 18446744073709551616 = a := by omega
  have g2 : b % 18446744073709551616 = b := by omega
  have g3 : c % 18446744073709551616 = c := by omega
  have g4 : d % 18446744073709551616 = d := by omega
  have g5 : (b + a / 4294967296) % 18446744073709551616 = b + a / 4294967296 := by omega
  have f3 := bAnd32 (x := b + a / 4294967296) (by omega) (by omega)
  simp [-binV_mul, -binV_add, -binV_and, -binV_shr, bMulU, bAddU, bShr32, f1, f2, f3, k_math_bits_Mul64_ic, k_math_bits_Mul64_rv, ← ea, ← eb, ← ec, ← ed, g1, g2, g3, g4, g5]
  omega

theorem R_spec_l3Product (x y : Int) (hx : 0 ≤ x) (hx1 : x < 18446744073709551616) (hy : 0 ≤ y) (hy1 : y < 18446744073709551616) : RUN T k_spec_l3Product [.v (.int .u64 x), .v (.int .u64 y)] = some ([.v (.int .u64 (x * y / 18446744073709551616)), .v (.int .u64 (x * y % 18446744073709551616))], []) := by
  refine RUN_W T_spec_l3Product rfl ?_
  obtain ⟨a, b, c, d, ea, eb, ec, ed, a0, a1, b0, b1, c0, c1, d0, d1, hp⟩ := parts hx hx1 hy hy1
  have f1 := bAnd32 hx hx1
  have f2 := bAnd32 hy hy1
  have g1 : a % 18446744073709551616 = a := by omega
  have g2 : b % 18446744073709551616 = b := by omega
  have g3 : c % 18446744073709551616 = c := by omega
  have g4 : d % 18446744073709551616 = d := by omega
  have g5 : (b + a / 4294967296) % 18446744073709551616 = b + a / 4294967296 := by omega
  have f3 := bAnd32 (x := b + a / 4294967296) (by omega) (by omega)
  have f4 := bAnd32 (x := a) (by omega) (by omega)
  simp [-binV_mul, -binV_add, -binV_and, -binV_shr, -binV_shl, bMulU, bAddU, bShr32, bShl32, f1, f2, f3, f4, k_spec_l3Product_ic, k_spec_l3Product_rv, ← ea, ← eb, ← ec, ← ed, g1, g2, g3, g4, g5]
  omega

/-- A number of 128 bits with a sign. -/
structure Wd where
  n : Bool
  h : Int
  l : Int
deriving DecidableEq

abbrev uv (x : Int) : PV := .v (.int .u64 x)

def wd (w : Wd) : List PV := [bv w.n, uv w.h, uv w.l]

def wfU (w : Wd) : Prop := 0 ≤ w.h ∧ w.h < 18446744073709551616 ∧ 0 ≤ w.l ∧ w.l < 18446744073709551616

def wok (w : Wd) : Bool := decide (w.h < 9223372036854775808) && (!w.n || decide (0 < w.h) || decide (0 < w.l))

def mag (w : Wd) : Int := w.h * 18446744073709551616 + w.l

def mkW (n : Bool) (m : Int) : Wd := ⟨n && decide (0 < m), m / 18446744073709551616, m % 18446744073709551616⟩

def zeroW : Wd := ⟨false, 0, 0⟩

theorem mkW_wf {n : Bool} {m : Int} (h0 : 0 ≤ m) (h1 : m < 340282366920938463463374607431768211456) : wfU (mkW n m) := by
  unfold wfU mkW; simp only; omega

theorem mkW_ok {n : Bool} {m : Int} (h0 : 0 ≤ m) : wok (mkW n m) = decide (m < 170141183460469231731687303715884105728) := by
  unfold wok mkW
  simp only
  by_cases h : m < 170141183460469231731687303715884105728
  · have e : m / 18446744073709551616 < 9223372036854775808 := by omega
    rw [decide_eq_true h, decide_eq_true e]
    by_cases hz : 0 < m
    · by_cases h2 : 0 < m / 18446744073709551616
      · simp [h2]
      · have : 0 < m % 18446744073709551616 := by omega
        simp [this]
    · simp [hz]
  · have e : ¬ m / 18446744073709551616 < 9223372036854775808 := by omega
    rw [decide_eq_false h, decide_eq_false e]; rfl

theorem R_impl_size (n : Int) (h : inI n) : RUN T k_impl_size [iv n] = some ([uv n.natAbs], []) := by
  refine RUN_W T_impl_size rfl ?_
  obtain ⟨h0, h1⟩ := h
  simp [k_impl_size_ic, k_impl_size_rv]
  refine Br_i (fun h => ?_) (fun h => ?_) <;> simp at h <;> simp [wu64] <;> omega

theorem R_spec_l3Abs (n : Int) (h : inI n) : RUN T k_spec_l3Abs [iv n] = some ([uv n.natAbs], []) := by
  refine RUN_W T_spec_l3Abs rfl ?_
  obtain ⟨h0, h1⟩ := h
  have e1 : n < 0 → IntKind.i64.wrap (n + 1) = n + 1 := fun h => w64 (by omega) (by omega)
  have e2 : n < 0 → IntKind.i64.wrap (0 - (n + 1)) = 0 - (n + 1) := fun h => w64 (by omega) (by omega)
  simp [k_spec_l3Abs_ic, k_spec_l3Abs_rv]
  refine Br_i (fun h => ?_) (fun h => ?_) <;> simp at h
  · have e1 := e1 h
    have e2 := e2 h
    simp at e2
    simp [e1, e2, wu64]; omega
  · simp [wu64]; omega

theorem R_impl_wideOf (n : Bool) (h l : Int) : RUN T k_impl_wideOf [bv n, uv h, uv l] = some ([.agg (wd ⟨n && (decide (0 < h) || decide (0 < l)), h, l⟩)], []) := by
  refine RUN_W T_impl_wideOf rfl ?_
  cases n with
  | false => simp [k_impl_wideOf_ic, k_impl_wideOf_rv, wd]
  | true =>
    by_cases h1 : 0 < h
    · simp [k_impl_wideOf_ic, k_impl_wideOf_rv, wd, h1]
    · simp [k_impl_wideOf_ic, k_impl_wideOf_rv, wd, h1]

theorem R_impl_WideOk (w : Wd) : RUN T k_impl_WideOk [.agg (wd w)] = some ([bv (wok w)], []) := by
  refine RUN_W T_impl_WideOk rfl ?_
  obtain ⟨n, h, l⟩ := w
  unfold wok
  by_cases h1 : h < 9223372036854775808
  · cases n with
    | false => simp [k_impl_WideOk_ic, k_impl_WideOk_rv, wd, h1]
    | true =>
      by_cases h2 : 0 < h
      · simp [k_impl_WideOk_ic, k_impl_WideOk_rv, wd, h1, h2]
      · simp [k_impl_WideOk_ic, k_impl_WideOk_rv, wd, h1, h2]
  · simp [k_impl_WideOk_ic, k_impl_WideOk_rv, wd, h1]

theorem R_spec_WideOk (w : Wd) : RUN T k_spec_WideOk [.agg (wd w)] = some ([bv (wok w)], []) := by
  refine RUN_W T_spec_WideOk rfl ?_
  obtain ⟨n, h, l⟩ := w
  unfold wok
  by_cases h1 : h < 9223372036854775808
  · cases n with
    | false => simp [k_spec_WideOk_ic, k_spec_WideOk_rv, wd, h1]
    | true =>
      by_cases h2 : 0 < h
      · simp [k_spec_WideOk_ic, k_spec_WideOk_rv, wd, h1, h2]
      · simp [k_spec_WideOk_ic, k_spec_WideOk_rv, wd, h1, h2]
  · simp [k_spec_WideOk_ic, k_spec_WideOk_rv, wd, h1]

theorem R_spec_l3Zero (w : Wd) : RUN T k_spec_l3Zero [.agg (wd w)] = some ([bv (decide (w.h = 0) && decide (w.l = 0))], []) := by
  refine RUN_W T_spec_l3Zero rfl ?_
  by_cases h1 : w.h = 0
  · simp [k_spec_l3Zero_ic, k_spec_l3Zero_rv, wd, h1]
  · simp [k_spec_l3Zero_ic, k_spec_l3Zero_rv, wd, h1]

def sgnI (a b : Int) : Int := if a < b then -1 else if b < a then 1 else 0

theorem R_cmp_isNaN_uint64 (x : Int) : RUN T k_cmp_isNaN_uint64_ [uv x] = some ([bv false], []) := by
  refine RUN_W T_cmp_isNaN_uint64_ rfl ?_
  simp [k_cmp_isNaN_uint64__ic, k_cmp_isNaN_uint64__rv]

theorem R_cmp_Compare_uint64 (x y : Int) : RUN T k_cmp_Compare_uint64_ [uv x, uv y] = some ([iv (sgnI x y)], []) := by
  refine RUN_W T_cmp_Compare_uint64_ rfl ?_
  have e1 := R_cmp_isNaN_uint64 x
  have e2 := R_cmp_isNaN_uint64 y
  unfold sgnI
  by_cases h1 : x < y
  · simp [k_cmp_Compare_uint64__ic, k_cmp_Compare_uint64__rv, e1, e2, h1]
  · by_cases h2 : y < x
    · simp [k_cmp_Compare_uint64__ic, k_cmp_Compare_uint64__rv, e1, e2, h1, h2]
    · simp [k_cmp_Compare_uint64__ic, k_cmp_Compare_uint64__rv, e1, e2, h1, h2]

theorem R_cmp_Or_int2 (x y : Int) : RUN T k_cmp_Or_int_ [.sl 1 [[iv x], [iv y]]] = some ([iv (if x = 0 then y else x)], []) := by
  refine RUN_W T_cmp_Or_int_ rfl ?_
  simp [k_cmp_Or_int__ic, k_cmp_Or_int__rv]
  refine W_loop (fun n st => ∃ i : Nat, i + n = 2 ∧ (1 ≤ i → x = 0) ∧ (2 ≤ i → y = 0) ∧ st.V 3 = iv 0 ∧ st.V 6 = .sl 1 [[iv x], [iv y]] ∧ st.V 7 = iv 2 ∧ st.V 8 = iv i) ?_ 2 _ ⟨0, by simp⟩
  rintro n st ⟨i, hi, hx, hy, v3, v6, v7, v8⟩
  simp [k_cmp_Or_int__b0, v7, v8]
  have h3 : i = 0 ∨ i = 1 ∨ i = 2 := by omega
  rcases h3 with rfl | rfl | rfl
  · have hw : IntKind.i64.wrap 1 = 1 := w64 (by omega) (by omega)
    by_cases h : x = 0
    · simp [v3, v6, v7, v8, h, hw]
      exact Rnd_n (n - 1) (by omega) ⟨1, by omega, fun _ => h, by simp, by simp [v3], by simp [v6, h], by simp [v7], by simp⟩
    · simp [v3, v6, v7, v8, h]
  · have hx := hx (by omega)
    have hw : IntKind.i64.wrap 2 = 2 := w64 (by omega) (by omega)
    by_cases h : y = 0
    · simp [v3, v6, v7, v8, h, hx, hw]
      exact Rnd_n (n - 1) (by omega) ⟨2, by omega, fun _ => hx, fun _ => h, by simp [v3], by simp [v6, h, hx], by simp [v7], by simp⟩
    · simp [v3, v6, v7, v8, h, hx]
  · have hx := hx (by omega)
    have hy := hy (by omega)
    simp [v3, hx, hy]

def ordW (a b : Wd) : Int := if sgnI a.h b.h = 0 then sgnI a.l b.l else sgnI a.h b.h

theorem ordW_mag {a b : Wd} (ha : wfU a) (hb : wfU b) : ordW a b = sgnI (mag a) (mag b) := by
  obtain ⟨_, _, _, _⟩ := ha
  obtain ⟨_, _, _, _⟩ := hb
  unfold ordW sgnI mag
  split <;> split <;> split <;> (try split) <;> (try split) <;> omega

theorem R_impl_compareSizes (a b : Wd) : RUN T k_impl_compareSizes [.agg (wd a), .agg (wd b)] = some ([iv (ordW a b)], []) := by
  refine RUN_W T_impl_compareSizes rfl ?_
  have e1 := R_cmp_Compare_uint64 a.h b.h
  have e2 := R_cmp_Compare_uint64 a.l b.l
  have e3 := R_cmp_Or_int2 (sgnI a.h b.h) (sgnI a.l b.l)
  simp [k_impl_compareSizes_ic, k_impl_compareSizes_rv, wd, e1, e2, e3, ordW]

theorem R_spec_l3Order (a b : Wd) : RUN T k_spec_l3Order [.agg (wd a), .agg (wd b)] = some ([iv (ordW a b)], []) := by
  refine RUN_W T_spec_l3Order rfl ?_
  unfold ordW sgnI
  by_cases h1 : a.h < b.h
  · simp [k_spec_l3Order_ic, k_spec_l3Order_rv, wd, h1]
  · by_cases h2 : b.h < a.h
    · have h3 : ¬ a.h = b.h := by omega
      simp [k_spec_l3Order_ic, k_spec_l3Order_rv, wd, h1, h2, h3]
    · have h3 : a.h = b.h := by omega
      by_cases h4 : a.l < b.l
      · simp [k_spec_l3Order_ic, k_spec_l3Order_rv, wd, h3, h4]
      · by_cases h5 : b.l < a.l
        · simp [k_spec_l3Order_ic, k_spec_l3Order_rv, wd, h3, h4, h5]
        · simp [k_spec_l3Order_ic, k_spec_l3Order_rv, wd, h3, h4, h5]

def mulW (a b : Int) : Wd := mkW (decide (a < 0) != decide (b < 0)) ((a.natAbs : Int) * b.natAbs)

theorem natAbs_b {a : Int} (h : inI a) : 0 ≤ (a.natAbs : Int) ∧ (a.natAbs : Int) ≤ 9223372036854775808 := by
  obtain ⟨h0, h1⟩ := h; omega

theorem mul_b {a b : Int} (ha : inI a) (hb : inI b) : 0 ≤ (a.natAbs : Int) * b.natAbs ∧ (a.natAbs : Int) * b.natAbs ≤ 85070591730234615865843651857942052864 := by
  obtain ⟨a0, a1⟩ := natAbs_b ha
  obtain ⟨b0, b1⟩ := natAbs_b hb
  exact ⟨Int.mul_nonneg a0 b0, Int.le_trans (Int.mul_le_mul a1 b1 b0 (by decide)) (by decide)⟩

theorem R_impl_MulWide (a b : Int) (ha : inI a) (hb : inI b) : RUN T k_impl_MulWide [iv a, iv b] = some ([.agg (wd (mulW a b))], []) := by
  refine RUN_W T_impl_MulWide rfl ?_
  obtain ⟨a0, a1⟩ := natAbs_b ha
  obtain ⟨b0, b1⟩ := natAbs_b hb
  have e1 := R_impl_size a ha
  have e2 := R_impl_size b hb
  have e3 := R_math_bits_Mul64 a.natAbs b.natAbs a0 (by omega) b0 (by omega)
  have e4 := R_impl_wideOf (decide (a < 0) != decide (b < 0)) ((a.natAbs : Int) * b.natAbs / 18446744073709551616) ((a.natAbs : Int) * b.natAbs % 18446744073709551616)
  obtain ⟨m0, m1⟩ := mul_b ha hb
  have e5 : (⟨(decide (a < 0) != decide (b < 0)) && (decide (0 < (a.natAbs : Int) * b.natAbs / 18446744073709551616) || decide (0 < (a.natAbs : Int) * b.natAbs % 18446744073709551616)), (a.natAbs : Int) * b.natAbs / 18446744073709551616, (a.natAbs : Int) * b.natAbs % 18446744073709551616⟩ : Wd) = mulW a b := by
    unfold mulW mkW
    congr 2
    generalize (a.natAbs : Int) * b.natAbs = m at *
    rw [Bool.eq_iff_iff]; simp; omega
  rw [e5] at e4
  generalize mulW a b = w at *
  obtain ⟨wn, wh, wl⟩ := w
  simp only [wd] at e4 ⊢
  by_cases sa : a < 0 <;> by_cases sb : b < 0 <;> simp [sa, sb] at e4 <;> simp [k_impl_MulWide_ic, k_impl_MulWide_rv, e1, e2, e3, sa, sb, e4]

theorem R_spec_MulWide (a b : Int) (ha : inI a) (hb : inI b) : RUN T k_spec_MulWide [iv a, iv b] = some ([.agg (wd (mulW a b))], []) := by
  refine RUN_W T_spec_MulWide rfl ?_
  obtain ⟨a0, a1⟩ := natAbs_b ha
  obtain ⟨b0, b1⟩ := natAbs_b hb
  have e1 := R_spec_l3Abs a ha
  have e2 := R_spec_l3Abs b hb
  have e3 := R_spec_l3Product a.natAbs b.natAbs a0 (by omega) b0 (by omega)
  have hpos : (0 < (a.natAbs : Int) * b.natAbs) ↔ (a ≠ 0 ∧ b ≠ 0) := by
    constructor
    · intro h
      refine ⟨?_, ?_⟩ <;> rintro rfl <;> simp at h
    · rintro ⟨h1, h2⟩
      exact Int.mul_pos (by omega) (by omega)
  have e5 : mulW a b = ⟨((decide (a < 0) != decide (b < 0)) && !decide (a = 0)) && !decide (b = 0), (a.natAbs : Int) * b.natAbs / 18446744073709551616, (a.natAbs : Int) * b.natAbs % 18446744073709551616⟩ := by
    unfold mulW mkW
    congr 1
    rw [Bool.eq_iff_iff]; simp [hpos, and_assoc]
  rw [e5]
  by_cases sa : a < 0 <;> by_cases sb : b < 0 <;> rcases Classical.propComplete (a = 0) with h0 | h0 <;> simp [k_spec_MulWide_ic, k_spec_MulWide_rv, e1, e2, e3, sa, sb, wd, h0]

/-- What a number is worth. -/
def valW (w : Wd) : Int := if w.n then -mag w else mag w

def sumW (a b : Wd) : Wd × Bool :=
  if wok a && wok b then
    if ((valW a + valW b).natAbs : Int) < 170141183460469231731687303715884105728 then (mkW (decide (valW a + valW b < 0)) (valW a + valW b).natAbs, true) else (zeroW, false)
  else (zeroW, false)

theorem sumW_wf (a b : Wd) : wfU (sumW a b).1 := by
  unfold sumW
  split
  · split
    · exact mkW_wf (by omega) (by omega)
    · exact ⟨by decide, by decide, by decide, by decide⟩
  · exact ⟨by decide, by decide, by decide, by decide⟩

theorem wok_mag {w : Wd} (h : wfU w) (hk : wok w = true) : 0 ≤ mag w ∧ mag w < 170141183460469231731687303715884105728 ∧ (w.n = true → 0 < mag w) := by
  obtain ⟨h0, h1, h2, h3⟩ := h
  unfold wok at hk
  simp only [Bool.and_eq_true, Bool.or_eq_true, Bool.not_eq_true', decide_eq_true_eq] at hk
  unfold mag
  obtain ⟨k1, k2⟩ := hk
  refine ⟨by omega, by omega, fun hn => ?_⟩
  rw [hn] at k2
  rcases k2 with (k2 | k2) | k2
  · cases k2
  · omega
  · omega

theorem add_facts (a b : Wd) (ha : wfU a) (hb : wfU b) (h : mag a + mag b < 340282366920938463463374607431768211456) : ∃ c d : Int,
    RUN T k_math_bits_Add64 [uv a.l, uv b.l, uv 0] = some ([uv ((mag a + mag b) % 18446744073709551616), uv c], []) ∧ RUN T k_math_bits_Add64 [uv a.h, uv b.h, uv c] = some ([uv ((mag a + mag b) / 18446744073709551616), uv d], []) := by
  obtain ⟨a0, a1, a2, a3⟩ := ha
  obtain ⟨b0, b1, b2, b3⟩ := hb
  have e1 := RUN_add64 T_math_bits_Add64 (x := a.l) (y := b.l) (c := 0) a2 b2 (by decide) (by decide)
  have e2 := RUN_add64 T_math_bits_Add64 (x := a.h) (y := b.h) (c := (a.l + b.l + 0) / 18446744073709551616) a0 b0 (by omega) (by omega)
  have f1 : (a.l + b.l + 0) % 18446744073709551616 = (mag a + mag b) % 18446744073709551616 := by unfold mag; omega
  have f2 : (a.h + b.h + (a.l + b.l + 0) / 18446744073709551616) % 18446744073709551616 = (mag a + mag b) / 18446744073709551616 := by unfold mag at *; omega
  rw [f1] at e1
  rw [f2] at e2
  exact ⟨_, _, e1, e2⟩

theorem sub_facts (a b : Wd) (ha : wfU a) (hb : wfU b) (h : mag b ≤ mag a) : ∃ c d : Int,
    RUN T k_math_bits_Sub64 [uv a.l, uv b.l, uv 0] = some ([uv ((mag a - mag b) % 18446744073709551616), uv c], []) ∧ RUN T k_math_bits_Sub64 [uv a.h, uv b.h, uv c] = some ([uv ((mag a - mag b) / 18446744073709551616), uv d], []) := by
  obtain ⟨a0, a1, a2, a3⟩ := ha
  obtain ⟨b0, b1, b2, b3⟩ := hb
  have e1 := RUN_sub64 T_math_bits_Sub64 (x := a.l) (y := b.l) (c := 0) a2 b2 a3 b3 (by decide) (by decide)
  have e2 := RUN_sub64 T_math_bits_Sub64 (x := a.h) (y := b.h) (c := if a.l < b.l + 0 then 1 else 0) a0 b0 a1 b1 (by split <;> omega) (by split <;> omega)
  have f1 : (a.l - b.l - 0) % 18446744073709551616 = (mag a - mag b) % 18446744073709551616 := by unfold mag; omega
  have f2 : (a.h - b.h - (if a.l < b.l + 0 then 1 else 0)) % 18446744073709551616 = (mag a - mag b) / 18446744073709551616 := by
    unfold mag at *
    split <;> omega
  rw [f1] at e1
  rw [f2] at e2
  exact ⟨_, _, e1, e2⟩

theorem wideOf_mk {n : Bool} {m : Int} (h : 0 ≤ m) : RUN T k_impl_wideOf [bv n, uv (m / 18446744073709551616), uv (m % 18446744073709551616)] = some ([.agg (wd (mkW n m))], []) := by
  rw [R_impl_wideOf]
  have : (⟨n && (decide (0 < m / 18446744073709551616) || decide (0 < m % 18446744073709551616)), m / 18446744073709551616, m % 18446744073709551616⟩ : Wd) = mkW n m := by
    unfold mkW
    congr 2
    rw [Bool.eq_iff_iff]; simp; omega
  rw [this]

theorem R_impl_AddWide (a b : Wd) (ha : wfU a) (hb : wfU b) : RUN T k_impl_AddWide [.agg (wd a), .agg (wd b)] = some ([.agg (wd (sumW a b).1), bv (sumW a b).2], []) := by
  refine RUN_W T_impl_AddWide rfl ?_
  have ea := R_impl_WideOk a
  have eb := R_impl_WideOk b
  cases ka : wok a with
  | false =>
    have es : sumW a b = (zeroW, false) := by unfold sumW; simp [ka]
    rw [es]; rw [ka] at ea
    simp only [wd] at ea
    simp [k_impl_AddWide_ic, k_impl_AddWide_rv, wd, ea, zeroW]
  | true =>
    cases kb : wok b with
    | false =>
      have es : sumW a b = (zeroW, false) := by unfold sumW; simp [kb]
      rw [es]; rw [ka] at ea; rw [kb] at eb
      simp only [wd] at ea eb
      simp [k_impl_AddWide_ic, k_impl_AddWide_rv, wd, ea, eb, zeroW]
    | true =>
      obtain ⟨ma0, ma1, ma2⟩ := wok_mag ha ka
      obtain ⟨mb0, mb1, mb2⟩ := wok_mag hb kb
      rw [ka] at ea; rw [kb] at eb
      by_cases hn : a.n = b.n
      · obtain ⟨c, d, f1, f2⟩ := add_facts a b ha hb (by omega)
        have f3 := wideOf_mk (n := a.n) (m := mag a + mag b) (by omega)
        have f4 := R_impl_WideOk (mkW a.n (mag a + mag b))
        rw [mkW_ok (by omega)] at f4
        have es : sumW a b = if mag a + mag b < 170141183460469231731687303715884105728 then (mkW a.n (mag a + mag b), true) else (zeroW, false) := by
          unfold sumW valW
          rw [ka, kb, ← hn]
          simp only [Bool.and_self, if_true]
          cases h : a.n with
          | true =>
            have e1 : (-mag a + -mag b).natAbs = mag a + mag b := by omega
            have e2 : -mag a + -mag b < 0 := by have := ma2 h; omega
            simp only [if_true, e1, decide_eq_true e2]
          | false =>
            have e1 : ((mag a + mag b).natAbs : Int) = mag a + mag b := by omega
            have e2 : ¬ mag a + mag b < 0 := by omega
            simp only [Bool.false_eq_true, if_false, e1, decide_eq_false e2]
        rw [es]
        generalize hm : mag a + mag b = m at *
        generalize mkW a.n m = w at *
        generalize m / 18446744073709551616 = hi at *
        generalize m % 18446744073709551616 = lo at *
        simp only [wd] at ea eb f3 f4 ⊢
        rw [hn] at ea f3
        by_cases hk : m < 170141183460469231731687303715884105728
        · rw [decide_eq_true hk] at f4
          rw [if_pos hk]
          simp [k_impl_AddWide_ic, k_impl_AddWide_rv, ea, eb, hn, f1, f2, f3, f4]
        · rw [decide_eq_false hk] at f4
          rw [if_neg hk]
          simp [k_impl_AddWide_ic, k_impl_AddWide_rv, ea, eb, hn, f1, f2, f3, f4, zeroW]
      · have ho := R_impl_compareSizes a b
        rw [ordW_mag ha hb] at ho
        have es : sumW a b = (mkW (if mag a < mag b then b.n else a.n) (if mag a < mag b then mag b - mag a else mag a - mag b), true) := by
          have gen : ∀ (n : Bool) (m : Int), ((valW a + valW b).natAbs : Int) = m → m < 170141183460469231731687303715884105728 → (decide (valW a + valW b < 0) && decide (0 < m)) = (n && decide (0 < m)) → sumW a b = (mkW n m, true) := by
            intro n m h1 h2 h3
            unfold sumW
            rw [ka, kb, h1]
            simp only [Bool.and_self, if_true, if_pos h2]
            unfold mkW
            rw [h3]
          unfold valW at gen
          cases h : a.n <;> cases h' : b.n <;> simp only [h, h'] at gen hn ⊢
          · exact (hn trivial).elim
          · by_cases hl : mag a < mag b
            · rw [if_pos hl, if_pos hl]
              exact gen _ _ (by simp; omega) (by omega) (by rw [Bool.eq_iff_iff]; simp; omega)
            · rw [if_neg hl, if_neg hl]
              exact gen _ _ (by simp; omega) (by omega) (by rw [Bool.eq_iff_iff]; simp; omega)
          · by_cases hl : mag a < mag b
            · rw [if_pos hl, if_pos hl]
              exact gen _ _ (by simp; omega) (by omega) (by rw [Bool.eq_iff_iff]; simp; omega)
            · rw [if_neg hl, if_neg hl]
              exact gen _ _ (by simp; omega) (by omega) (by rw [Bool.eq_iff_iff]; simp; omega)
          · exact (hn trivial).elim
        rw [es]
        have hnb : (a.n == b.n) = false := by cases h : a.n <;> cases h' : b.n <;> simp [h, h'] at hn ⊢
        by_cases hl : mag a < mag b
        · obtain ⟨c, d, f1, f2⟩ := sub_facts b a hb ha (by omega)
          have f3 := wideOf_mk (n := b.n) (m := mag b - mag a) (by omega)
          have hs : sgnI (mag a) (mag b) = -1 := by unfold sgnI; rw [if_pos hl]
          rw [hs] at ho
          rw [if_pos hl, if_pos hl]
          generalize mag b - mag a = m at *
          generalize mkW b.n m = w at *
          generalize m / 18446744073709551616 = hi at *
          generalize m % 18446744073709551616 = lo at *
          simp only [wd] at ea eb f3 ho ⊢
          simp [k_impl_AddWide_ic, k_impl_AddWide_rv, ea, eb, hnb, ho, f1, f2, f3]
        · obtain ⟨c, d, f1, f2⟩ := sub_facts a b ha hb (by omega)
          have f3 := wideOf_mk (n := a.n) (m := mag a - mag b) (by omega)
          have hs : ¬ sgnI (mag a) (mag b) < 0 := by unfold sgnI; rw [if_neg hl]; split <;> omega
          rw [if_neg hl, if_neg hl]
          generalize mag a - mag b = m at *
          generalize mkW a.n m = w at *
          generalize m / 18446744073709551616 = hi at *
          generalize m % 18446744073709551616 = lo at *
          generalize sgnI (mag a) (mag b) = sg at *
          simp only [wd] at ea eb f3 ho ⊢
          simp [k_impl_AddWide_ic, k_impl_AddWide_rv, ea, eb, hnb, ho, hs, f1, f2, f3]

theorem sumW_same {a b : Wd} (ha : wfU a) (hb : wfU b) (ka : wok a = true) (kb : wok b = true) (hn : a.n = b.n) : sumW a b = if mag a + mag b < 170141183460469231731687303715884105728 then (mkW a.n (mag a + mag b), true) else (zeroW, false) := by
  obtain ⟨ma0, ma1, ma2⟩ := wok_mag ha ka
  obtain ⟨mb0, mb1, mb2⟩ := wok_mag hb kb
  unfold sumW valW
  rw [ka, kb, ← hn]
  simp only [Bool.and_self, if_true]
  cases h : a.n with
  | true =>
    have e1 : (-mag a + -mag b).natAbs = mag a + mag b := by omega
    have e2 : -mag a + -mag b < 0 := by have := ma2 h; omega
    simp only [if_true, e1, decide_eq_true e2]
  | false =>
    have e1 : ((mag a + mag b).natAbs : Int) = mag a + mag b := by omega
    have e2 : ¬ mag a + mag b < 0 := by omega
    simp only [Bool.false_eq_true, if_false, e1, decide_eq_false e2]

theorem sumW_diff {a b : Wd} (ha : wfU a) (hb : wfU b) (ka : wok a = true) (kb : wok b = true) (hn : ¬ a.n = b.n) : sumW a b = (mkW (if mag a < mag b then b.n else a.n) (if mag a < mag b then mag b - mag a else mag a - mag b), true) := by
  obtain ⟨ma0, ma1, ma2⟩ := wok_mag ha ka
  obtain ⟨mb0, mb1, mb2⟩ := wok_mag hb kb
  have gen : ∀ (n : Bool) (m : Int), ((valW a + valW b).natAbs : Int) = m → m < 170141183460469231731687303715884105728 → (decide (valW a + valW b < 0) && decide (0 < m)) = (n && decide (0 < m)) → sumW a b = (mkW n m, true) := by
    intro n m h1 h2 h3
    unfold sumW
    rw [ka, kb, h1]
    simp only [Bool.and_self, if_true, if_pos h2]
    unfold mkW
    rw [h3]
  unfold valW at gen
  cases h : a.n <;> cases h' : b.n <;> simp only [h, h'] at gen hn ⊢
  · exact (hn trivial).elim
  · by_cases hl : mag a < mag b
    · rw [if_pos hl, if_pos hl]
      exact gen _ _ (by simp; omega) (by omega) (by rw [Bool.eq_iff_iff]; simp; omega)
    · rw [if_neg hl, if_neg hl]
      exact gen _ _ (by simp; omega) (by omega) (by rw [Bool.eq_iff_iff]; simp; omega)
  · by_cases hl : mag a < mag b
    · rw [if_pos hl, if_pos hl]
      exact gen _ _ (by simp; omega) (by omega) (by rw [Bool.eq_iff_iff]; simp; omega)
    · rw [if_neg hl, if_neg hl]
      exact gen _ _ (by simp; omega) (by omega) (by rw [Bool.eq_iff_iff]; simp; omega)
  · exact (hn trivial).elim

theorem add_u (a b : Wd) (ha : wfU a) (hb : wfU b) (h : mag a + mag b < 340282366920938463463374607431768211456) :
    IntKind.u64.wrap (a.l + b.l) = (mag a + mag b) % 18446744073709551616 ∧ ((mag a + mag b) % 18446744073709551616 < a.l → IntKind.u64.wrap (IntKind.u64.wrap (a.h + b.h) + 1) = (mag a + mag b) / 18446744073709551616) ∧ (¬ (mag a + mag b) % 18446744073709551616 < a.l → IntKind.u64.wrap (a.h + b.h) = (mag a + mag b) / 18446744073709551616) := by
  obtain ⟨a0, a1, a2, a3⟩ := ha
  obtain ⟨b0, b1, b2, b3⟩ := hb
  unfold mag at *
  refine ⟨?_, fun h => ?_, fun h => ?_⟩ <;> simp only [wu64] at * <;> omega

theorem sub_u (a b : Wd) (ha : wfU a) (hb : wfU b) (h : mag b ≤ mag a) :
    IntKind.u64.wrap (a.l - b.l) = (mag a - mag b) % 18446744073709551616 ∧ (a.l < b.l → IntKind.u64.wrap (IntKind.u64.wrap (a.h - b.h) - 1) = (mag a - mag b) / 18446744073709551616) ∧ (¬ a.l < b.l → IntKind.u64.wrap (a.h - b.h) = (mag a - mag b) / 18446744073709551616) := by
  obtain ⟨a0, a1, a2, a3⟩ := ha
  obtain ⟨b0, b1, b2, b3⟩ := hb
  unfold mag at *
  refine ⟨?_, fun h => ?_, fun h => ?_⟩ <;> simp only [wu64] at * <;> omega

theorem R_spec_AddWide (a b : Wd) (ha : wfU a) (hb : wfU b) : RUN T k_spec_AddWide [.agg (wd a), .agg (wd b)] = some ([.agg (wd (sumW a b).1), bv (sumW a b).2], []) := by
  refine RUN_W T_spec_AddWide rfl ?_
  have ea := R_spec_WideOk a
  have eb := R_spec_WideOk b
  cases ka : wok a with
  | false =>
    have es : sumW a b = (zeroW, false) := by unfold sumW; simp [ka]
    rw [es]; rw [ka] at ea
    simp only [wd] at ea
    simp [k_spec_AddWide_ic, k_spec_AddWide_rv, wd, ea, zeroW]
  | true =>
    cases kb : wok b with
    | false =>
      have es : sumW a b = (zeroW, false) := by unfold sumW; simp [kb]
      rw [es]; rw [ka] at ea; rw [kb] at eb
      simp only [wd] at ea eb
      simp [k_spec_AddWide_ic, k_spec_AddWide_rv, wd, ea, eb, zeroW]
    | true =>
      obtain ⟨ma0, ma1, ma2⟩ := wok_mag ha ka
      obtain ⟨mb0, mb1, mb2⟩ := wok_mag hb kb
      rw [ka] at ea; rw [kb] at eb
      by_cases hn : a.n = b.n
      · obtain ⟨f1, f2, f3⟩ := add_u a b ha hb (by omega)
        have f4 := R_spec_WideOk (mkW a.n (mag a + mag b))
        rw [mkW_ok (by omega)] at f4
        rw [sumW_same ha hb ka kb hn]
        have e6 : mkW a.n (mag a + mag b) = ⟨a.n, (mag a + mag b) / 18446744073709551616, (mag a + mag b) % 18446744073709551616⟩ := by
          unfold mkW
          congr 1
          cases h : a.n with
          | false => rfl
          | true => have := ma2 h; simp; omega
        rw [e6] at f4 ⊢
        generalize hm : mag a + mag b = m at *
        generalize m / 18446744073709551616 = hi at *
        generalize m % 18446744073709551616 = lo at *
        simp only [wd] at ea eb f4 ⊢
        rw [hn] at ea f4
        by_cases hc : lo < a.l
        · have f2 := f2 hc
          by_cases hk : m < 170141183460469231731687303715884105728
          · rw [decide_eq_true hk] at f4
            rw [if_pos hk]
            simp [k_spec_AddWide_ic, k_spec_AddWide_rv, ea, eb, hn, hc, f1, f2, f4]
          · rw [decide_eq_false hk] at f4
            rw [if_neg hk]
            simp [k_spec_AddWide_ic, k_spec_AddWide_rv, ea, eb, hn, hc, f1, f2, f4, zeroW]
        · have f3 := f3 hc
          by_cases hk : m < 170141183460469231731687303715884105728
          · rw [decide_eq_true hk] at f4
            rw [if_pos hk]
            simp [k_spec_AddWide_ic, k_spec_AddWide_rv, ea, eb, hn, hc, f1, f3, f4]
          · rw [decide_eq_false hk] at f4
            rw [if_neg hk]
            simp [k_spec_AddWide_ic, k_spec_AddWide_rv, ea, eb, hn, hc, f1, f3, f4, zeroW]
      · have ho := R_spec_l3Order a b
        rw [ordW_mag ha hb] at ho
        rw [sumW_diff ha hb ka kb hn]
        have hnb : (a.n == b.n) = false := by cases h : a.n <;> cases h' : b.n <;> simp [h, h'] at hn ⊢
        by_cases hl : mag a < mag b
        · obtain ⟨f1, f2, f3⟩ := sub_u b a hb ha (by omega)
          have hz := R_spec_l3Zero ⟨b.n, (mag b - mag a) / 18446744073709551616, (mag b - mag a) % 18446744073709551616⟩
          have hs : sgnI (mag a) (mag b) = -1 := by unfold sgnI; rw [if_pos hl]
          rw [hs] at ho
          rw [if_pos hl, if_pos hl]
          have e6 : mkW b.n (mag b - mag a) = ⟨b.n, (mag b - mag a) / 18446744073709551616, (mag b - mag a) % 18446744073709551616⟩ := by
            unfold mkW
            congr 1
            rw [decide_eq_true (show 0 < mag b - mag a by omega), Bool.and_true]
          have e7 : (decide ((mag b - mag a) / 18446744073709551616 = 0) && decide ((mag b - mag a) % 18446744073709551616 = 0)) = false := by
            rw [Bool.eq_false_iff]; simp; omega
          simp only at hz
          rw [e7] at hz
          rw [e6]
          clear e6 e7
          generalize mag b - mag a = m at *
          generalize m / 18446744073709551616 = hi at *
          generalize m % 18446744073709551616 = lo at *
          simp only [wd] at ea eb ho hz ⊢
          by_cases hc : b.l < a.l
          · have f2 := f2 hc
            simp [k_spec_AddWide_ic, k_spec_AddWide_rv, ea, eb, hnb, ho, hc, f1, f2, hz]
          · have f3 := f3 hc
            simp [k_spec_AddWide_ic, k_spec_AddWide_rv, ea, eb, hnb, ho, hc, f1, f3, hz]
        · obtain ⟨f1, f2, f3⟩ := sub_u a b ha hb (by omega)
          have hz := R_spec_l3Zero ⟨a.n, (mag a - mag b) / 18446744073709551616, (mag a - mag b) % 18446744073709551616⟩
          have hs : ¬ sgnI (mag a) (mag b) < 0 := by unfold sgnI; rw [if_neg hl]; split <;> omega
          rw [if_neg hl, if_neg hl]
          generalize sgnI (mag a) (mag b) = sg at *
          by_cases h0 : mag a - mag b = 0
          · have e6 : mkW a.n (mag a - mag b) = ⟨false, (mag a - mag b) / 18446744073709551616, (mag a - mag b) % 18446744073709551616⟩ := by
              unfold mkW
              congr 1
              simp [h0]
            have e7 : (decide ((mag a - mag b) / 18446744073709551616 = 0) && decide ((mag a - mag b) % 18446744073709551616 = 0)) = true := by
              simp; omega
            simp only at hz
            rw [e7] at hz
            rw [e6]
            clear e6 e7 h0
            generalize mag a - mag b = m at *
            generalize m / 18446744073709551616 = hi at *
            generalize m % 18446744073709551616 = lo at *
            simp only [wd] at ea eb ho hz ⊢
            by_cases hc : a.l < b.l
            · have f2 := f2 hc
              simp [k_spec_AddWide_ic, k_spec_AddWide_rv, ea, eb, hnb, ho, hs, hc, f1, f2, hz]
            · have f3 := f3 hc
              simp [k_spec_AddWide_ic, k_spec_AddWide_rv, ea, eb, hnb, ho, hs, hc, f1, f3, hz]
          · have e6 : mkW a.n (mag a - mag b) = ⟨a.n, (mag a - mag b) / 18446744073709551616, (mag a - mag b) % 18446744073709551616⟩ := by
              unfold mkW
              congr 1
              rw [decide_eq_true (show 0 < mag a - mag b by omega), Bool.and_true]
            have e7 : (decide ((mag a - mag b) / 18446744073709551616 = 0) && decide ((mag a - mag b) % 18446744073709551616 = 0)) = false := by
              rw [Bool.eq_false_iff]; simp; omega
            simp only at hz
            rw [e7] at hz
            rw [e6]
            clear e6 e7 h0
            generalize mag a - mag b = m at *
            generalize m / 18446744073709551616 = hi at *
            generalize m % 18446744073709551616 = lo at *
            simp only [wd] at ea eb ho hz ⊢
            by_cases hc : a.l < b.l
            · have f2 := f2 hc
              simp [k_spec_AddWide_ic, k_spec_AddWide_rv, ea, eb, hnb, ho, hs, hc, f1, f2, hz]
            · have f3 := f3 hc
              simp [k_spec_AddWide_ic, k_spec_AddWide_rv, ea, eb, hnb, ho, hs, hc, f1, f3, hz]

theorem R_laws_eqWide (a b : Wd) : RUN T k_laws_eqWide [.agg (wd a), .agg (wd b)] = some ([bv (decide (a = b))], []) := by
  refine RUN_W T_laws_eqWide rfl ?_
  obtain ⟨an, ah, al⟩ := a
  obtain ⟨bn, bh, bl⟩ := b
  cases h1 : an == bn with
  | false =>
    have : ¬ an = bn := by simpa using h1
    simp [k_laws_eqWide_ic, k_laws_eqWide_rv, wd, h1, this]
  | true =>
    have : an = bn := by simpa using h1
    by_cases h2 : ah = bh
    · by_cases h3 : al = bl
      · simp [k_laws_eqWide_ic, k_laws_eqWide_rv, wd, this, h2, h3]
      · simp [k_laws_eqWide_ic, k_laws_eqWide_rv, wd, this, h2, h3]
    · simp [k_laws_eqWide_ic, k_laws_eqWide_rv, wd, this, h2]

/-- The sum of the squares, from a sum on. -/
def lossG : List Int → Wd → Wd × Bool
  | [], w => (w, true)
  | x :: l, w => if (sumW w (mulW x x)).2 = true then lossG l (sumW w (mulW x x)).1 else (zeroW, false)

theorem mulW_wf {a b : Int} (ha : inI a) (hb : inI b) : wfU (mulW a b) := by
  obtain ⟨m0, m1⟩ := mul_b ha hb
  exact mkW_wf m0 (by omega)

theorem lossG_drop {l : List Int} {i : Nat} {x : Int} (h : l[i]? = some x) (w : Wd) : lossG (l.drop i) w = if (sumW w (mulW x x)).2 = true then lossG (l.drop (i + 1)) (sumW w (mulW x x)).1 else (zeroW, false) := by
  have hlt : i < l.length := by
    rcases Nat.lt_or_ge i l.length with h' | h'
    · exact h'
    · rw [List.getElem?_eq_none (by omega)] at h; cases h
  have : l.drop i = x :: l.drop (i + 1) := by
    rw [List.drop_eq_getElem_cons hlt]
    congr 1
    rw [List.getElem?_eq_getElem hlt] at h
    exact Option.some.inj h
  rw [this, lossG]

set_option maxHeartbeats 1000000 in
theorem R_spec_LossOf (v : List Int) (hv : ∀ x ∈ v, inI x) (hl : v.length ≤ 1048576) : RUN T k_spec_LossOf [.sl 1 (ints v)] = some ([.agg (wd (lossG v zeroW).1), bv (lossG v zeroW).2], []) := by
  refine RUN_W T_spec_LossOf rfl ?_
  simp [k_spec_LossOf_ic, k_spec_LossOf_rv]
  refine W_loop (fun n st => ∃ (i : Nat) (w : Wd), i + n = v.length ∧ wfU w ∧ lossG (v.drop i) w = lossG v zeroW ∧ st.V 0 = .sl 1 (ints v) ∧ st.V 2 = .ptr 0 none 0 0 0 ∧ st.V 4 = .ptr 1 none 0 0 0 ∧ st.V 5 = iv i ∧ 1 < st.nx ∧ st.S 0 = some (.box [bv false, uv 0, uv 0]) ∧ st.S 1 = some (.box (wd w))) ?_ v.length _ ⟨0, zeroW, by simp, ⟨by decide, by decide, by decide, by decide⟩, rfl, by simp, by simp, by simp, by simp, by simp, by simp, by simp [wd, zeroW]⟩
  rintro n st ⟨i, w, hi, hw, hg, v0, v2, v4, v5, hnx, hS, hS1⟩
  simp [k_spec_LossOf_b0, v0, v5]
  refine Br_i (fun h => ?_) (fun h => ?_)
  · simp at h
    obtain ⟨x, hx⟩ : ∃ x, v[i]? = some x := ⟨_, List.getElem?_eq_getElem h⟩
    have hx' := ints_get hx
    have hxi := hv x (List.mem_of_getElem? hx)
    have hws := wS h (by omega : v.length ≤ 9223372036854775807)
    have e1 := R_spec_MulWide x x hxi hxi
    have e2 := R_spec_AddWide w (mulW x x) hw (mulW_wf hxi hxi)
    have hwf := sumW_wf w (mulW x x)
    rw [lossG_drop hx] at hg
    obtain ⟨z1, z2, z3, z4⟩ := fr (show 0 < st.nx by omega)
    obtain ⟨y1, y2, y3, y4⟩ := fr hnx
    generalize sumW w (mulW x x) = r at *
    generalize mulW x x = m at *
    obtain ⟨r, rb⟩ := r
    simp only [wd] at e1 e2 hS1
    cases rb with
    | true =>
      rw [if_pos rfl] at hg
      simp [-getElem?_pos, v0, v2, v4, v5, hS, hS1, hx', e1, e2, z1, z2, z3, z4, y1, y2, y3, y4, hws, h]
      exact Rnd_n (n - 1) (by omega) ⟨i + 1, r, by omega, hwf, hg, by simp [v0], by simp [v2], by simp [v4], by simp, by simp; omega, by simp [z1, z2, z3, z4, y1, y2, y3, y4, hS], by simp [z1, z2, z3, z4, y1, y2, y3, y4, wd]⟩
    | false =>
      rw [if_neg (by simp)] at hg
      rw [← hg]
      simp [-getElem?_pos, v0, v2, v4, v5, hS, hS1, hx', e1, e2, z1, z2, z3, z4, y1, y2, y3, y4, h, wd, zeroW]
  · simp at h
    have e1 : i = v.length := by omega
    rw [e1, List.drop_length, lossG] at hg
    rw [← hg]
    simp only [wd] at hS1
    simp [-getElem?_pos, v0, v2, v4, hS, hS1, wd]

set_option maxHeartbeats 1000000 in
theorem R_impl_LossOf (v : List Int) (hv : ∀ x ∈ v, inI x) (hl : v.length ≤ 1048576) : RUN T k_impl_LossOf [.sl 1 (ints v)] = some ([.agg (wd (lossG v zeroW).1), bv (lossG v zeroW).2], []) := by
  refine RUN_W T_impl_LossOf rfl ?_
  simp [k_impl_LossOf_ic, k_impl_LossOf_rv]
  refine W_loop (fun n st => ∃ (i : Nat) (w : Wd), i + n = v.length ∧ wfU w ∧ lossG (v.drop i) w = lossG v zeroW ∧ st.V 10 = .sl 1 (ints v) ∧ st.V 2 = .ptr 0 none 0 0 0 ∧ st.V 4 = .ptr 1 none 0 0 0 ∧ st.V 12 = iv i ∧ st.V 11 = iv v.length ∧ 1 < st.nx ∧ st.S 0 = some (.box [bv false, uv 0, uv 0]) ∧ st.S 1 = some (.box (wd w))) ?_ v.length _ ⟨0, zeroW, by simp, ⟨by decide, by decide, by decide, by decide⟩, rfl, by simp, by simp, by simp, by simp, by simp, by simp, by simp, by simp [wd, zeroW]⟩
  rintro n st ⟨i, w, hi, hw, hg, v0, v2, v4, v5, v11, hnx, hS, hS1⟩
  simp [k_impl_LossOf_b0, v0, v5, v11]
  refine Br_i (fun h => ?_) (fun h => ?_)
  · simp at h
    obtain ⟨x, hx⟩ : ∃ x, v[i]? = some x := ⟨_, List.getElem?_eq_getElem h⟩
    have hx' := ints_get hx
    have hxi := hv x (List.mem_of_getElem? hx)
    have hws := wS h (by omega : v.length ≤ 9223372036854775807)
    have e1 := R_impl_MulWide x x hxi hxi
    have e2 := R_impl_AddWide w (mulW x x) hw (mulW_wf hxi hxi)
    have hwf := sumW_wf w (mulW x x)
    rw [lossG_drop hx] at hg
    obtain ⟨z1, z2, z3, z4⟩ := fr (show 0 < st.nx by omega)
    obtain ⟨y1, y2, y3, y4⟩ := fr hnx
    generalize sumW w (mulW x x) = r at *
    generalize mulW x x = m at *
    obtain ⟨r, rb⟩ := r
    simp only [wd] at e1 e2 hS1
    cases rb with
    | true =>
      rw [if_pos rfl] at hg
      simp [-getElem?_pos, v0, v2, v4, v5, v11, hS, hS1, hx', e1, e2, z1, z2, z3, z4, y1, y2, y3, y4, hws, h]
      exact Rnd_n (n - 1) (by omega) ⟨i + 1, r, by omega, hwf, hg, by simp [v0], by simp [v2], by simp [v4], by simp, by simp [v11], by simp; omega, by simp [z1, z2, z3, z4, y1, y2, y3, y4, hS], by simp [z1, z2, z3, z4, y1, y2, y3, y4, wd]⟩
    | false =>
      rw [if_neg (by simp)] at hg
      rw [← hg]
      simp [-getElem?_pos, v0, v2, v4, v5, v11, hS, hS1, hx', e1, e2, z1, z2, z3, z4, y1, y2, y3, y4, h, wd, zeroW]
  · simp at h
    have e1 : i = v.length := by omega
    rw [e1, List.drop_length, lossG] at hg
    rw [← hg]
    simp only [wd] at hS1
    simp [-getElem?_pos, v0, v2, v4, hS, hS1, wd]

/-- A table: the features' names, the label's name, the rows, the labels. -/
structure Ta where
  ns : List ByteArray
  nm : ByteArray
  rw : List (List Int)
  lb : List Int

abbrev taS (q : Bool) (t : Ta) : PV := .agg [.sl 1 (strs t.ns), .v (.string t.nm), .sl 1 (rws q t.rw), .sl 1 (ints t.lb)]

abbrev taO (t : Ta) : PV := .agg [.own 1 (strs t.ns), .v (.string t.nm), .own 1 (rws true t.rw), .own 1 (ints t.lb)]

structure TaL (n : Nat) (t : Ta) : Prop where
  ns : t.ns.length ≤ n
  ss : ∀ x ∈ t.ns, x.size ≤ n
  nm : t.nm.size ≤ n
  rw : t.rw.length ≤ n
  rr : ∀ l ∈ t.rw, l.length ≤ n
  lb : t.lb.length ≤ n

def totTa (t : Ta) : Nat := tots t.ns + t.nm.size + tot t.rw + t.lb.length

theorem TaL.of {t : Ta} (h : totTa t ≤ 1048576) : TaL 1048576 t := by
  have h1 : totTa t = tots t.ns + t.nm.size + tot t.rw + t.lb.length := rfl
  have h2 : tots t.ns = t.ns.length + szs t.ns := rfl
  have h3 : tot t.rw = t.rw.length + lens t.rw := rfl
  exact ⟨by omega, fun x hx => by have := szs_mem hx; omega, by omega, by omega, fun l hl => by have := lens_mem hl; omega, by omega⟩

theorem R_laws_szTable (q : Bool) (t : Ta) (left : Int) (h0 : 0 ≤ left) (h1 : left ≤ 1048576) (ht : TaL 9223372036854775807 t) : RUN T k_laws_szTable [taS q t, iv left] = some ([iv (if left - totTa t < 0 then -1 else left - totTa t)], []) := by
  refine RUN_W T_laws_szTable rfl ?_
  have htt : totTa t = tots t.ns + t.nm.size + tot t.rw + t.lb.length := rfl
  have hnm := ht.nm
  have e1 := R_laws_szStringS t.ns left h0 h1 ht.ns ht.ss
  by_cases d : left - tots t.ns < 0
  · rw [if_pos d] at e1
    rw [if_pos (by omega)]
    simp [k_laws_szTable_ic, k_laws_szTable_rv, e1]
  · rw [if_neg d] at e1
    have w1 := w64 (x := left - tots t.ns - t.nm.size) (by omega) (by omega)
    by_cases d1 : left - tots t.ns - t.nm.size < 0
    · rw [if_pos (by omega)]
      simp [k_laws_szTable_ic, k_laws_szTable_rv, e1, d, w1, d1]
    · have e2 := R_laws_szIntSS q t.rw (left - tots t.ns - t.nm.size) (by omega) (by omega) ht.rw ht.rr
      by_cases d2 : left - tots t.ns - t.nm.size - tot t.rw < 0
      · rw [if_pos d2] at e2
        rw [if_pos (by omega)]
        simp [k_laws_szTable_ic, k_laws_szTable_rv, e1, e2, d, w1, d1]
      · rw [if_neg d2] at e2
        have e3 := R_laws_szIntS (ints t.lb) (left - tots t.ns - t.nm.size - tot t.rw) (by omega) (by omega) (by simpa using ht.lb)
        rw [ints_len] at e3
        by_cases d3 : left - tots t.ns - t.nm.size - tot t.rw - t.lb.length < 0
        · rw [if_pos d3] at e3
          rw [if_pos (by omega)]
          simp [k_laws_szTable_ic, k_laws_szTable_rv, e1, e2, e3, d, w1, d1, d2]
        · rw [if_neg d3] at e3
          rw [if_neg (by omega)]
          simp [k_laws_szTable_ic, k_laws_szTable_rv, e1, e2, e3, d, w1, d1, d2, d3]
          omega

theorem R_laws_toTable (q : Bool) (t : Ta) (ht : TaL 1048576 t) : RUN T k_laws_toTable [taS q t] = some ([taO t], []) := by
  refine RUN_W T_laws_toTable rfl ?_
  simp [k_laws_toTable_ic, k_laws_toTable_rv, R_laws_toStringS t.ns ht.ns, R_laws_toIntSS q t.rw ht.rw ht.rr, R_laws_toIntS t.lb ht.lb]

theorem R_laws_eqTable (p q : Bool) (t : Ta) (ht : TaL 9223372036854775807 t) : RUN T k_laws_eqTable [taS p t, taS q t] = some ([bv true], []) := by
  refine RUN_W T_laws_eqTable rfl ?_
  simp [k_laws_eqTable_ic, k_laws_eqTable_rv, R_laws_eqStringS t.ns ht.ns, R_laws_eqIntSS p q t.rw ht.rw ht.rr, R_laws_eqIntS t.lb ht.lb]

/-- What is learned so far: the sums and the trees. -/
structure Sta where
  sm : List Int
  ts : List (List Nd)

abbrev stS (q : Bool) (s : Sta) : PV := .agg [.sl 1 (ints s.sm), .sl 1 (trs q s.ts)]

abbrev stO (s : Sta) : PV := .agg [.own 1 (ints s.sm), .own 1 (trs true s.ts)]

structure StaL (n : Nat) (s : Sta) : Prop where
  sm : s.sm.length ≤ n
  ts : s.ts.length ≤ n
  tl : ∀ l ∈ s.ts, l.length ≤ n

def totS (s : Sta) : Nat := s.sm.length + totT s.ts

theorem StaL.of {s : Sta} (h : totS s ≤ 1048576) : StaL 1048576 s := by
  have h1 : totS s = s.sm.length + totT s.ts := rfl
  have h2 : totT s.ts = s.ts.length + lenT s.ts := rfl
  exact ⟨by omega, by omega, fun l hl => by have := lenT_mem hl; omega⟩

theorem R_laws_szState (q : Bool) (s : Sta) (left : Int) (h0 : 0 ≤ left) (h1 : left ≤ 1048576) (hs : StaL 9223372036854775807 s) : RUN T k_laws_szState [stS q s, iv left] = some ([iv (if left - totS s < 0 then -1 else left - totS s)], []) := by
  refine RUN_W T_laws_szState rfl ?_
  have hst : totS s = s.sm.length + totT s.ts := rfl
  have e2 := R_laws_szIntS (ints s.sm) left (by omega) (by omega) (by simpa using hs.sm)
  rw [ints_len] at e2
  by_cases d2 : left - s.sm.length < 0
  · rw [if_pos d2] at e2
    rw [if_pos (by omega)]
    simp [k_laws_szState_ic, k_laws_szState_rv, e2]
  · rw [if_neg d2] at e2
    have e3 := R_laws_szTreeS q s.ts (left - s.sm.length) (by omega) (by omega) hs.ts hs.tl
    by_cases d3 : left - s.sm.length - totT s.ts < 0
    · rw [if_pos d3] at e3
      rw [if_pos (by omega)]
      simp [k_laws_szState_ic, k_laws_szState_rv, e2, e3, d2]
    · rw [if_neg d3] at e3
      rw [if_neg (by omega)]
      simp [k_laws_szState_ic, k_laws_szState_rv, e2, e3, d2, d3]
      omega

theorem R_laws_toState (q : Bool) (s : Sta) (hs : StaL 1048576 s) : RUN T k_laws_toState [stS q s] = some ([stO s], []) := by
  refine RUN_W T_laws_toState rfl ?_
  simp [k_laws_toState_ic, k_laws_toState_rv, R_laws_toIntS s.sm hs.sm, R_laws_toTreeS q s.ts hs.ts hs.tl]

theorem R_laws_eqState (p q : Bool) (s : Sta) (hs : StaL 9223372036854775807 s) : RUN T k_laws_eqState [stS p s, stS q s] = some ([bv true], []) := by
  refine RUN_W T_laws_eqState rfl ?_
  simp [k_laws_eqState_ic, k_laws_eqState_rv, R_laws_eqIntS s.sm hs.sm, R_laws_eqTreeS p q s.ts hs.ts hs.tl]

def lossS (t : Ta) (s : Sta) : Wd × Bool := if (resid t.lb s.sm).2 = true then lossG (resid t.lb s.sm).1 zeroW else (zeroW, false)

theorem resid_facts (l m : List Int) (hl : l.length ≤ 1048576) : (∀ x ∈ (resid l m).1, inI x) ∧ (resid l m).1.length ≤ 1048576 := by
  unfold resid
  split
  · rename_i e
    cases h : res l m with
    | none => exact ⟨by simp, by simp⟩
    | some r =>
      obtain ⟨h1, h2⟩ := res_spec e h
      refine ⟨fun x hx => ?_, by simp; omega⟩
      obtain ⟨i, hi⟩ := List.getElem?_of_mem hx
      simp only at hi
      have hlt : i < r.length := by
        rcases Nat.lt_or_ge i r.length with h | h
        · exact h
        · rw [List.getElem?_eq_none (by omega)] at hi; cases hi
      obtain ⟨a, ha⟩ : ∃ a, l[i]? = some a := ⟨_, List.getElem?_eq_getElem (by omega)⟩
      obtain ⟨b, hb⟩ : ∃ b, m[i]? = some b := ⟨_, List.getElem?_eq_getElem (by omega)⟩
      obtain ⟨e1, e2, e3⟩ := h2 i a b x ha hb hi
      exact ⟨by omega, by omega⟩
  · exact ⟨by simp, by simp⟩

theorem R_impl_StateLoss (q p : Bool) (t : Ta) (s : Sta) (ht : TaL 1048576 t) (hs : StaL 1048576 s) (h1 : ∀ x ∈ t.lb, inI x) (h2 : ∀ x ∈ s.sm, inI x) : RUN T k_impl_StateLoss [taS q t, stS p s] = some ([.agg (wd (lossS t s).1), bv (lossS t s).2], []) := by
  refine RUN_W T_impl_StateLoss rfl ?_
  have e1 := R_impl_Residuals t.lb s.sm ht.lb hs.sm h1 h2
  obtain ⟨f1, f2⟩ := resid_facts t.lb s.sm ht.lb
  have e2 := R_impl_LossOf (resid t.lb s.sm).1 f1 f2
  unfold lossS
  generalize resid t.lb s.sm = r at *
  obtain ⟨r, rb⟩ := r
  simp only at e1 e2 ⊢
  cases rb with
  | false => simp [-getElem?_pos, k_impl_StateLoss_ic, k_impl_StateLoss_rv, e1, wd, zeroW]
  | true =>
    generalize lossG r zeroW = g at *
    simp only [wd] at e2
    simp [-getElem?_pos, k_impl_StateLoss_ic, k_impl_StateLoss_rv, e1, e2, wd]

theorem R_spec_StateLoss (q p : Bool) (t : Ta) (s : Sta) (ht : TaL 1048576 t) (hs : StaL 1048576 s) (h1 : ∀ x ∈ t.lb, inI x) (h2 : ∀ x ∈ s.sm, inI x) : RUN T k_spec_StateLoss [taS q t, stS p s] = some ([.agg (wd (lossS t s).1), bv (lossS t s).2], []) := by
  refine RUN_W T_spec_StateLoss rfl ?_
  have e1 := R_spec_Residuals t.lb s.sm ht.lb hs.sm h1 h2
  obtain ⟨f1, f2⟩ := resid_facts t.lb s.sm ht.lb
  have e2 := R_spec_LossOf (resid t.lb s.sm).1 f1 f2
  unfold lossS
  generalize resid t.lb s.sm = r at *
  obtain ⟨r, rb⟩ := r
  simp only at e1 e2 ⊢
  cases rb with
  | false => simp [-getElem?_pos, k_spec_StateLoss_ic, k_spec_StateLoss_rv, e1, wd, zeroW]
  | true =>
    generalize lossG r zeroW = g at *
    simp only [wd] at e2
    simp [-getElem?_pos, k_spec_StateLoss_ic, k_spec_StateLoss_rv, e1, e2, wd]

set_option maxHeartbeats 2000000 in
set_option maxRecDepth 4000 in
theorem law_FnExactStateLoss (t : Ta) (s : Sta) (ht : TaL 9223372036854775807 t) (hs : StaL 9223372036854775807 s) (h1 : ∀ x ∈ t.lb, inI x) (h2 : ∀ x ∈ s.sm, inI x) : RUN T k_laws_FnExactStateLoss [taS false t, stS false s] = some ([bv true], []) := by
  refine RUN_W T_laws_FnExactStateLoss rfl ?_
  have s1 := R_laws_szTable false t 1048576 (by omega) (by omega) ht
  by_cases d1 : (1048576 : Int) - totTa t < 0
  · rw [if_pos d1] at s1
    simp only [taS] at s1
    simp [k_laws_FnExactStateLoss_ic, k_laws_FnExactStateLoss_rv, s1]
  rw [if_neg d1] at s1
  have s2 := R_laws_szState false s (1048576 - totTa t) (by omega) (by omega) hs
  by_cases d2 : (1048576 : Int) - totTa t - totS s < 0
  · rw [if_pos d2] at s2
    simp only [taS, stS] at s1 s2
    simp [k_laws_FnExactStateLoss_ic, k_laws_FnExactStateLoss_rv, s1, s2, d1]
  rw [if_neg d2] at s2
  have ht1 : TaL 1048576 t := TaL.of (by omega)
  have hs1 : StaL 1048576 s := StaL.of (by omega)
  have t1 := R_laws_toTable false t ht1
  have t2 := R_laws_toState false s hs1
  have a1 := R_spec_StateLoss true true t s ht1 hs1 h1 h2
  have a2 := R_impl_StateLoss true true t s ht1 hs1 h1 h2
  have q1 := R_laws_eqTable true true t ht
  have q2 := R_laws_eqState true true s hs
  have q3 := R_laws_eqWide (lossS t s).1 (lossS t s).1
  rw [decide_eq_true rfl] at q3
  generalize lossS t s = g at *
  obtain ⟨g, gb⟩ := g
  simp only [taS, taO, stS, stO, wd] at s1 s2 t1 t2 a1 a2 q1 q2 q3
  cases gb <;> simp [k_laws_FnExactStateLoss_ic, k_laws_FnExactStateLoss_rv, s1, s2, t1, t2, a1, a2, q1, q2, q3, d1, d2]

theorem shp_table {c : PV} (h : ShpA true [.sl [.str], .str, .sl [.sl [.int .i64]], .sl [.int .i64]] c) : ∃ t : Ta, c = taS false t ∧ TaL 9223372036854775807 t ∧ ∀ x ∈ t.lb, inI x := by
  obtain ⟨cs, rfl, h⟩ := h
  simp only [ShpL, Shp] at h
  obtain ⟨_, _, rfl, ⟨es, rfl, h1, h2⟩, _, _, rfl, ⟨nm, rfl, h5⟩, _, _, rfl, ⟨es2, rfl, h6, h7⟩, _, _, rfl, ⟨es', rfl, h3, h4⟩, rfl⟩ := h
  have h2' : ∀ cs ∈ es, ShpL [.str] cs := h2
  have h4' : ∀ cs ∈ es', ShpL [.int .i64] cs := h4
  have h7' : ∀ cs ∈ es2, ShpL [.sl [.int .i64]] cs := h7
  obtain ⟨ns, hn, hpn⟩ := rows_of (f := fun s => [PV.v (.string s)]) shp_strL h2'
  obtain ⟨lb, hx, hpx⟩ := rows_of (f := fun n : Int => [iv n]) shp_intL h4'
  obtain ⟨rw', hr, hpr⟩ := rows_of (f := fun l => [cel false l]) shp_intsL h7'
  subst hn
  subst hx
  subst hr
  simp [maxLen] at h1 h3 h6
  exact ⟨⟨ns, nm, rw', lb⟩, rfl, ⟨by simpa using h1, hpn, by simpa [maxLen] using h5, by simpa using h6, hpr, by simpa using h3⟩, hpx⟩

theorem shp_state {c : PV} (h : ShpA true [.sl [.int .i64], .sl [.sl tyNd]] c) : ∃ s : Sta, c = stS false s ∧ StaL 9223372036854775807 s ∧ ∀ x ∈ s.sm, inI x := by
  obtain ⟨cs, rfl, h⟩ := h
  simp only [ShpL, Shp] at h
  obtain ⟨_, _, rfl, ⟨es', rfl, h3, h4⟩, _, _, rfl, ⟨es2, rfl, h6, h7⟩, rfl⟩ := h
  have h4' : ∀ cs ∈ es', ShpL [.int .i64] cs := h4
  have h7' : ∀ cs ∈ es2, ShpL [.sl tyNd] cs := h7
  obtain ⟨sm, hx, hpx⟩ := rows_of (f := fun n : Int => [iv n]) shp_intL h4'
  obtain ⟨ts, ht, hpt⟩ := rows_of (f := fun t => [celT false t]) shp_treeL h7'
  subst hx
  subst ht
  simp [maxLen] at h3 h6
  exact ⟨⟨sm, ts⟩, rfl, ⟨by simpa using h3, by simpa using h6, hpt⟩, hpx⟩

end Go.Pe
