/- What each function answers by the evaluator, and the law; for each answer its own conditions stand ahead of it. -/
import Derived.Test.YtcpfnjbfkjkanaaK0
import Derived.Test.YtcpfnjbfkjkanaaEvB2
import Derived.IntWalk
set_option linter.all false
namespace Go.Pe
open Go
theorem w64 {x : Int} (h1 : -9223372036854775808 ≤ x) (h2 : x ≤ 9223372036854775807) : IntKind.i64.wrap x = x := IntWalk.i64_in x ⟨h1, h2⟩

@[simp] theorem w64s {x : Int} (h1 : -9223372036854775808 ≤ x) (h2 : x ≤ 9223372036854775807) : IntKind.i64.wrap x = x := w64 h1 h2

structure Nd where
  f : Int
  c : Int
  l : Int
  r : Int
  v : Int
deriving DecidableEq

def nd (n : Nd) : List PV := [iv n.f, iv n.c, iv n.l, iv n.r, iv n.v]

@[simp] theorem R_laws_toNode (a b c d e : Int) : RUN T k_laws_toNode [.agg [iv a, iv b, iv c, iv d, iv e]] = some ([.agg [iv a, iv b, iv c, iv d, iv e]], []) := by
  refine RUN_W T_laws_toNode rfl ?_
  simp [k_laws_toNode_ic, k_laws_toNode_rv]

@[simp] theorem R_laws_eqNode (a b c d e : Int) : RUN T k_laws_eqNode [.agg [iv a, iv b, iv c, iv d, iv e], .agg [iv a, iv b, iv c, iv d, iv e]] = some ([bv true], []) := by
  refine RUN_W T_laws_eqNode rfl ?_
  simp [k_laws_eqNode_ic, k_laws_eqNode_rv]

theorem R_laws_szNodeS (es : List (List PV)) (left : Int) (h0 : 0 ≤ left) (h1 : left ≤ 1048576) (hl : es.length ≤ 9223372036854775807) : RUN T k_laws_szNodeS [.sl 5 es, iv left] = some ([iv (if left - es.length < 0 then -1 else left - es.length)], []) := by
  refine RUN_W T_laws_szNodeS rfl ?_
  have e := w64 (x := left - es.length) (by omega) (by omega)
  simp [k_laws_szNodeS_ic, k_laws_szNodeS_rv, e]
  refine Br_i (fun h => ?_) (fun h => ?_) <;> simp at h <;> simp [h]
  omega

/-- The first place where something holds, -1 if there is none. -/
def fidx {α : Type} (p : α → Bool) (l : List α) : Int := match l.findIdx? p with
  | some i => (i : Int)
  | none => -1

/-- A node that has a node below it. -/
def above (k : Int) (n : Nd) : Bool := !decide (n.f = -1) && (decide (n.l = k) || decide (n.r = k))

def par (t : List Nd) (k : Int) : Int := fidx (above k) t

theorem wS {i n : Nat} (h : i < n) (hn : n ≤ 9223372036854775807) : IntKind.i64.wrap ((i : Int) + 1) = (i : Int) + 1 := w64 (by omega) (by omega)

theorem R_laws_szTree (es : List (List PV)) (left : Int) (h0 : 0 ≤ left) (h1 : left ≤ 1048576) (hl : es.length ≤ 9223372036854775807) : RUN T k_laws_szTree [.agg [.sl 5 es], iv left] = some ([iv (if left - es.length < 0 then -1 else left - es.length)], []) := by
  refine RUN_W T_laws_szTree rfl ?_
  have e := R_laws_szNodeS es left h0 h1 hl
  by_cases h : left - es.length < 0
  · simp only [h, if_true] at e ⊢
    simp [k_laws_szTree_ic, k_laws_szTree_rv, e]
    intro _; omega
  · simp only [h, if_false] at e ⊢
    simp [k_laws_szTree_ic, k_laws_szTree_rv, e]
    refine Br_i (fun b0 => ?_) (fun b0 => ?_) <;> (try simp at b0) <;> simp [-getElem?_pos, b0, ]
    omega

/-- A row that is filled from its beginning on. -/
def fil {α β : Type} (f : α → β) (z : β) (l : List α) (i : Nat) : List β := (l.take i).map f ++ List.replicate (l.length - i) z

theorem fil_set {α β : Type} {f : α → β} {l : List α} {z : β} {i : Nat} {x : α} (hx : l[i]? = some x) : (fil f z l i).set i (f x) = fil f z l (i + 1) := by
  unfold fil
  obtain ⟨h1, h2⟩ := List.getElem?_eq_some_iff.mp hx
  apply List.ext_getElem?
  intro j
  rw [List.getElem?_set]
  simp only [List.length_append, List.length_map, List.length_take, List.length_replicate]
  by_cases e : i = j
  · subst e
    rw [if_pos rfl, if_pos (by omega), List.getElem?_append_left (by simp; omega)]
    simp [List.getElem?_take, hx]
  · rw [if_neg e]
    by_cases hj : j < i
    · rw [List.getElem?_append_left (by simp; omega), List.getElem?_append_left (by simp; omega)]
      simp [List.getElem?_take, hj, show j < i + 1 by omega]
    · rw [List.getElem?_append_right (by simp; omega), List.getElem?_append_right (by simp; omega)]
      simp [List.getElem?_replicate]
      congr 1
      simp; omega

theorem fil_get {α β : Type} {f : α → β} {l : List α} {z : β} {i : Nat} (h : i < l.length) : (fil f z l i)[i]? = some z := by
  unfold fil
  rw [List.getElem?_append_right (by simp; omega)]
  simp [List.getElem?_replicate]; omega

theorem fil_len {α β : Type} {f : α → β} {l : List α} {z : β} {i : Nat} (h : i ≤ l.length) : (fil f z l i).length = l.length := by unfold fil; simp; omega

theorem fil_0 {α β : Type} {f : α → β} {l : List α} {z : β} : fil f z l 0 = List.replicate l.length z := by simp [fil]

theorem fil_all {α β : Type} {f : α → β} {l : List α} {z : β} {i : Nat} (h : i = l.length) : fil f z l i = l.map f := by subst h; simp [fil]

theorem R_laws_toNodeS (t : List Nd) (hl : t.length ≤ 1048576) : RUN T k_laws_toNodeS [.sl 5 (t.map nd)] = some ([.own 5 (t.map nd)], []) := by
  refine RUN_W T_laws_toNodeS rfl ?_
  have hr : roomFor 40 t.length = true := by simp [roomFor]; omega
  simp [k_laws_toNodeS_ic, k_laws_toNodeS_rv, hr]
  refine W_loop (fun n st => ∃ i : Nat, i + n = t.length ∧ st.V 0 = .sl 5 (t.map nd) ∧ st.V 3 = .ref 0 none 0 0 t.length ∧ st.V 4 = iv i ∧ st.ep = 0 ∧ st.S 0 = some (.row 5 (fil nd [iv 0, iv 0, iv 0, iv 0, iv 0] t i))) ?_ t.length _ ⟨0, by simp [fil_0]⟩
  rintro n st ⟨i, hi, h0, h3, h4, hep, hS⟩
  simp [k_laws_toNodeS_b0, h0, h3, h4, hS]
  refine Br_i (fun h => ?_) (fun h => ?_)
  · simp at h
    obtain ⟨x, hx2⟩ : ∃ x, t[i] = x := ⟨_, rfl⟩
    have hx : t[i]? = some x := by rw [← hx2]; exact List.getElem?_eq_getElem h
    have hw := wS h (by omega : t.length ≤ 9223372036854775807)
    have hg := fil_get (f := nd) (z := [iv 0, iv 0, iv 0, iv 0, iv 0]) h
    have hs := fil_set (f := nd) (z := [iv 0, iv 0, iv 0, iv 0, iv 0]) hx
    simp only [nd] at hs
    simp [-getElem?_pos, h0, h3, h4, hS, hep, h, hx, nd, hw, hg, hs, fil_len (Nat.le_of_lt h)]
    exact Rnd_n (n - 1) (by omega) ⟨i + 1, by omega, by simp [h0], by simp [h3], by simp, by simp, by simp⟩
  · simp at h
    have e := fil_all (f := nd) (z := [iv 0, iv 0, iv 0, iv 0, iv 0]) (by omega : i = t.length)
    simp [h3, hS, e]

theorem R_laws_toTree (t : List Nd) (hl : t.length ≤ 1048576) : RUN T k_laws_toTree [.agg [.sl 5 (t.map nd)]] = some ([.agg [.own 5 (t.map nd)]], []) := by
  refine RUN_W T_laws_toTree rfl ?_
  simp [k_laws_toTree_ic, k_laws_toTree_rv, R_laws_toNodeS t hl]

theorem R_laws_eqNodeS (t : List Nd) (hl : t.length ≤ 9223372036854775807) : RUN T k_laws_eqNodeS [.sl 5 (t.map nd), .sl 5 (t.map nd)] = some ([bv true], []) := by
  refine RUN_W T_laws_eqNodeS rfl ?_
  simp [k_laws_eqNodeS_ic, k_laws_eqNodeS_rv]
  refine W_loop (fun n st => ∃ i : Nat, i + n = t.length ∧ st.V 0 = .sl 5 (t.map nd) ∧ st.V 1 = .sl 5 (t.map nd) ∧ st.V 5 = iv i) ?_ t.length _ ⟨0, by simp⟩
  rintro n st ⟨i, hi, h0, h1, h5⟩
  simp [k_laws_eqNodeS_b0, h0, h1, h5]
  refine Br_i (fun h => ?_) (fun h => ?_)
  · simp at h
    obtain ⟨x, hx⟩ : ∃ x, t[i]? = some x := ⟨_, List.getElem?_eq_getElem h⟩
    have hw := wS h hl
    simp [-getElem?_pos, h0, h1, h5, h, hx, nd, hw]
    exact Rnd_n (n - 1) (by omega) ⟨i + 1, by omega, by simp [h0], by simp [h1], by simp⟩
  · simp

theorem R_laws_eqTree (t : List Nd) (hl : t.length ≤ 9223372036854775807) : RUN T k_laws_eqTree [.agg [.sl 5 (t.map nd)], .agg [.sl 5 (t.map nd)]] = some ([bv true], []) := by
  refine RUN_W T_laws_eqTree rfl ?_
  simp [k_laws_eqTree_ic, k_laws_eqTree_rv, R_laws_eqNodeS t hl]

def ints (l : List Int) : List (List PV) := l.map fun n => [iv n]

@[simp] theorem ints_len (l : List Int) : (ints l).length = l.length := by simp [ints]

@[simp] theorem ints_nil : ints [] = [] := rfl

/-- The nodes above a node, from it on, if they are fewer than a number. -/
def anc (t : List Nd) : Nat → Int → Option (List Int)
  | 0, _ => none
  | n + 1, k => if par t k < 0 then some [] else (anc t n (par t k)).map (par t k :: ·)

def way (t : List Nd) (k : Int) : List Int := if 0 ≤ k ∧ k ≤ t.length - 1 then match anc t 32 k with
    | some l => (k :: l).reverse
    | none => []
  else []

/-- The numbers from one on, so many. -/
def upto (k : Int) (n : Nat) : List Int := (List.range n).map fun (i : Nat) => k + (i : Int)

@[simp] theorem upto_len (k : Int) (n : Nat) : (upto k n).length = n := by simp [upto]

def inI (n : Int) : Prop := -9223372036854775808 ≤ n ∧ n ≤ 9223372036854775807

/-- The range of a feature's values along a way. -/
def box (t : List Nd) (f : Int) : List Int → Int → Int → Int × Int
  | a :: b :: r, lo, hi => match t[a.toNat]? with
    | none => (lo, hi)
    | some x => if x.f = f then (if x.l = b then box t f (b :: r) lo (min hi x.c) else if x.c = 9223372036854775807 then box t f (b :: r) lo hi else box t f (b :: r) (max lo (x.c + 1)) hi) else box t f (b :: r) lo hi
  | _, lo, hi => (lo, hi)

def wfN (n : Nd) : Prop := inI n.f ∧ inI n.c ∧ inI n.l ∧ inI n.r ∧ inI n.v

structure Cfg where
  ro : Int
  de : Int
  bi : Int
  la : Int
  rw : Int
  nu : Int
  dn : Int
  sg : List Int

def within (n a b : Int) : Bool := decide (a ≤ n) && decide (n ≤ b)

def cfgOk (c : Cfg) : Bool := within c.ro 1 8 && within c.de 0 4 && within c.bi 2 8 && within c.la 1 100 && within c.rw 1 20 && within c.dn 1 1000 && within c.nu 1 c.dn && decide ((c.sg.length : Int) ≤ 4) && c.sg.all fun n => within n (-1) 1

/-- The quotient, rounded down, and whether there is one. -/
def fdv (a b : Int) : Int × Bool := if b = 0 ∨ (b = -1 ∧ a = -9223372036854775808) then (0, false) else (a.fdiv b, true)

def leafV (v : Int) : Bool := within v (-1099511627776) 1099511627776

theorem eqP_5 (a b c d e a' b' c' d' e' : Int) : eqP [.i .i64, .i .i64, .i .i64, .i .i64, .i .i64] (.agg [iv a, iv b, iv c, iv d, iv e]) (.agg [iv a', iv b', iv c', iv d', iv e']) = some (decide (a = a' ∧ b = b' ∧ c = c' ∧ d = d' ∧ e = e')) := by
  simp only [eqP, eqCells, eqV_i, Option.bind_some]
  by_cases h1 : a = a' <;> by_cases h2 : b = b' <;> by_cases h3 : c = c' <;> by_cases h4 : d = d' <;> by_cases h5 : e = e' <;> simp [h1, h2, h3, h4, h5]

def decV (n : Int) : Bool := within n (-2147483647) 2147483647

/-- Two beside each other in a list. -/
def adj (p : Int → Int → Bool) : List Int → Bool
  | a :: b :: r => p a b || adj p (b :: r)
  | _ => false

/-- A row within rows: a slice's own, or one that is read. -/
def cel (q : Bool) (l : List Int) : PV := if q then .own 1 (ints l) else .sl 1 (ints l)

@[simp] theorem fz_cel (q : Bool) (l : List Int) : fz (cel q l) = .sl 1 (ints l) := by cases q <;> simp [cel]

def rws (q : Bool) (L : List (List Int)) : List (List PV) := L.map fun l => [cel q l]

@[simp] theorem rws_len (q : Bool) (L : List (List Int)) : (rws q L).length = L.length := by simp [rws]

def cutsB (l : List Int) : Bool := !adj (fun a b => decide (b ≤ a)) l && l.all decV && decide ((l.length : Int) ≤ 7)

def rowsIn : List (List Int) → Nat
  | [] => 0
  | l :: _ => l.length

theorem yv_gu {s : St} {d : Option Dst} {op : IOp} {g : Opd} {v : Bool} {x : PV} : (yv s ⟨d, op, some (g, v)⟩ = some x) = (Ob' (guardP v (g.get s)) fun t => Br t (WI (fun _ => []) (fun _ _ => none) op s (fun y _ => y = x)) (PV.v Go.undef = x)) := by
  simp only [yv, evG_some, WI, Ob', Br, Option.map_eq_some_iff, Option.bind_eq_some_iff, eq_iff_iff]
  constructor
  · rintro ⟨⟨y, s'⟩, ⟨t, h1, h2⟩, h3⟩
    refine ⟨t, h1, fun ht => ?_, fun ht => ?_⟩ <;> subst ht
    · exact ⟨y, s', by simpa using h2, h3⟩
    · simp at h2; obtain ⟨rfl, rfl⟩ := h2; exact h3
  · rintro ⟨t, h1, h2, h3⟩
    cases t with
    | true => obtain ⟨y, s', h4, h5⟩ := h2 rfl; exact ⟨(y, s'), ⟨true, h1, by simpa using h4⟩, h5⟩
    | false => exact ⟨_, ⟨false, h1, rfl⟩, h3 rfl⟩

@[simp] theorem chkTodo_g {s : St} {d : Option Dst} {op : IOp} {g : Opd} {v : Bool} {x : PV} {n : Nat} {r : List (IOper × PV × Nat)} : chkTodo s ((⟨d, op, some (g, v)⟩, x, n + 1) :: r) = ((Ob' (guardP v (g.get s)) fun t => Br t (WI (fun _ => []) (fun _ _ => none) op s (fun y _ => y = x)) (PV.v Go.undef = x)) ∧ chkTodo s r) := by
  simp only [chkTodo, yv_gu]

@[simp] theorem chkPast_g {V E : Nat → PV} {d : Option Dst} {op : IOp} {g : Opd} {v : Bool} {x : PV} {n : Nat} {s : St} {ms : List St} : chkPast V E ⟨d, op, some (g, v)⟩ x (n + 1) (s :: ms) = ((Ob' (guardP v (g.get { s with V := V, E := E })) fun t => Br t (WI (fun _ => []) (fun _ _ => none) op { s with V := V, E := E } (fun y _ => y = x)) (PV.v Go.undef = x)) ∧ chkPast V E ⟨d, op, some (g, v)⟩ x n ms) := by
  simp only [chkPast, yv_gu]

def featB (c v : List (List Int)) (f : Nat) : Bool := match c[f]?, v[f]? with
  | some a, some b => cutsB a && decide ((b.length : Int) = rowsIn v) && b.all fun x => within x 0 a.length
  | _, _ => true

def gridB (c v : List (List Int)) : Bool := within c.length 1 4 && decide ((v.length : Int) = c.length) && within (rowsIn v) 1 40 && (List.range c.length).all (featB c v)

theorem snoc_nat {P : Nat → Prop} {i : Nat} (h : ∀ j, j < i → P j) (hi : P i) : ∀ j, j < i + 1 → P j := by
  intro j hj
  by_cases e : j = i
  · subst e; exact hi
  · exact h j (by omega)

def labB (x : Int) : Bool := within x (-2199023255552) 2199023255552

def taskB (c v : List (List Int)) (lab : List Int) (g : Cfg) : Bool := gridB c v && cfgOk g && decide ((lab.length : Int) = rowsIn v) && lab.all labB

theorem wf64 {n : Int} (h : (Lit.int .i64 n).wf = true) : -9223372036854775808 ≤ n ∧ n ≤ 9223372036854775807 := bounds_i64 h

theorem rows_of {α : Type} {f : α → List PV} {p : α → Prop} {tys : List TY} (h : ∀ cs, ShpL tys cs → ∃ a, f a = cs ∧ p a) : ∀ {es : List (List PV)}, (∀ cs ∈ es, ShpL tys cs) → ∃ l : List α, l.map f = es ∧ ∀ a ∈ l, p a
  | [], _ => ⟨[], rfl, by simp⟩
  | e :: es, hs => by
    obtain ⟨a, ha, hp⟩ := h e (hs e (by simp))
    obtain ⟨l, hl, hq⟩ := rows_of h (es := es) (fun cs hc => hs cs (by simp [hc]))
    refine ⟨a :: l, by simp [ha, hl], fun b hb => ?_⟩
    rcases List.mem_cons.mp hb with e | e
    · subst e; exact hp
    · exact hq b e

abbrev tyNd : List TY := [.int .i64, .int .i64, .int .i64, .int .i64, .int .i64]

theorem shp_nd (cs : List PV) (h : ShpL tyNd cs) : ∃ n : Nd, nd n = cs ∧ wfN n := by
  simp only [ShpL, Shp] at h
  obtain ⟨_, _, rfl, ⟨a, rfl, h1⟩, _, _, rfl, ⟨b, rfl, h2⟩, _, _, rfl, ⟨c, rfl, h3⟩, _, _, rfl, ⟨d, rfl, h4⟩, _, _, rfl, ⟨e, rfl, h5⟩, rfl⟩ := h
  exact ⟨⟨a, b, c, d, e⟩, rfl, wf64 h1, wf64 h2, wf64 h3, wf64 h4, wf64 h5⟩

theorem shp_tree {c : PV} (h : ShpA true [.sl tyNd] c) : ∃ t : List Nd, c = .agg [.sl 5 (t.map nd)] ∧ t.length ≤ 9223372036854775807 ∧ ∀ n ∈ t, wfN n := by
  obtain ⟨cs, rfl, h⟩ := h
  simp only [ShpL, Shp] at h
  obtain ⟨_, _, rfl, ⟨es, rfl, h1, h2⟩, rfl⟩ := h
  obtain ⟨t, rfl, hp⟩ := rows_of shp_nd h2
  simp [maxLen] at h1
  exact ⟨t, rfl, by omega, hp⟩

theorem of_all {P : Program} {l : List TypeId} (h : (l.all fun t => P.readableRec t && decide (t < P.types.size)) = true) : ∀ t ∈ l, P.readableRec t = true ∧ t < P.types.size := by
  intro t ht
  have := List.all_eq_true.mp h t ht
  simpa using this

theorem args2 {p q : Bool × List TY} {pvs : List PV} (h : All2 (fun p c => ShpA p.1 p.2 c) [p, q] pvs) : ∃ a b, pvs = [a, b] ∧ ShpA p.1 p.2 a ∧ ShpA q.1 q.2 b := by
  cases h with
  | cons h1 t => cases t with
    | cons h2 t => cases t with
      | nil => exact ⟨_, _, rfl, h1, h2⟩

/-- The bytes that a source draws from. -/
def byts (B : List Int) : List (List PV) := B.map fun n => [.v (.int .u8 n)]

@[simp] theorem byts_len (B : List Int) : (byts B).length = B.length := by simp [byts]

/-- The end of a call of which something is told. -/
def FinG (rv : List RV) (io : Nat) (G : List PV × List PV → Prop) (_ : Dm rv) (_ : Dm G) (e : Ex) (s : St) : Prop := (e = .normal ∨ e = .ret) ∧ ∃ r, finishEv ⟨[], rv, .skip⟩ io s = some r ∧ G r

@[simp] theorem FinG_n {rv : List RV} {io : Nat} {G : List PV × List PV → Prop} {s : St} : FinG rv io G ⟨⟩ ⟨⟩ .normal s = ∃ r, finishEv ⟨[], rv, .skip⟩ io s = some r ∧ G r := by simp [FinG]

@[simp] theorem FinG_r {rv : List RV} {io : Nat} {G : List PV × List PV → Prop} {s : St} : FinG rv io G ⟨⟩ ⟨⟩ .ret s = ∃ r, finishEv ⟨[], rv, .skip⟩ io s = some r ∧ G r := by simp [FinG]

def adi (a b : Int) : Int × Bool := if -9223372036854775808 ≤ a + b ∧ a + b ≤ 9223372036854775807 then (a + b, true) else (0, false)

theorem nd_eq {x y : Nd} : x = y ↔ x.f = y.f ∧ x.c = y.c ∧ x.l = y.l ∧ x.r = y.r ∧ x.v = y.v := by
  cases x; cases y; simp

open Classical in
theorem R_spec_SameTree (t u : List Nd) (ht : t.length ≤ 9223372036854775807) (hu : u.length ≤ 9223372036854775807) : RUN T k_spec_SameTree [.agg [.sl 5 (t.map nd)], .agg [.sl 5 (u.map nd)]] = some ([bv (decide (t = u))], []) := by
  refine RUN_W T_spec_SameTree rfl ?_
  rcases Classical.propComplete ((t.length : Int) = u.length) with hl | hl
  case inr =>
    have : decide (t = u) = false := by simp; rintro rfl; simp at hl
    simp [-getElem?_pos, k_spec_SameTree_ic, k_spec_SameTree_rv, hl, this]
  simp [-getElem?_pos, k_spec_SameTree_ic, k_spec_SameTree_rv, hl]
  have hlen : t.length = u.length := by simp at hl; omega
  refine W_loop (fun n st => ∃ i : Nat, i + n = t.length ∧ (∀ j, j < i → t[j]? = u[j]?) ∧ st.V 2 = .ptr 0 none 0 0 0 ∧ st.V 3 = .ptr 1 none 0 0 0 ∧ st.V 5 = iv i ∧ st.S 0 = some (.box [.sl 5 (t.map nd)]) ∧ st.S 1 = some (.box [.sl 5 (u.map nd)])) ?_ t.length _ ⟨0, by simp⟩
  rintro n st ⟨i, hi, hj, v2, v3, v5, hS, hS1⟩
  simp [k_spec_SameTree_b0, v2, v3, v5, hS]
  refine Br_i (fun h => ?_) (fun h => ?_)
  · simp at h
    obtain ⟨x, hx⟩ : ∃ x, t[i]? = some x := ⟨_, List.getElem?_eq_getElem h⟩
    obtain ⟨y, hy⟩ : ∃ y, u[i]? = some y := ⟨_, List.getElem?_eq_getElem (by omega)⟩
    have hw := wS h ht
    have hiu : i < u.length := by omega
    rcases Classical.propComplete (x.f = y.f ∧ x.c = y.c ∧ x.l = y.l ∧ x.r = y.r ∧ x.v = y.v) with e | e
    · simp [-getElem?_pos, v2, v3, v5, hS, hS1, hx, hy, nd, h, hiu, hw, eqP_5, e]
      refine Rnd_n (n - 1) (by omega) ⟨i + 1, by omega, snoc_nat hj ?_, by simp [v2], by simp [v3], by simp, by simp [hS], by simp [hS1]⟩
      rw [hx, hy, nd_eq.mpr (of_eq_true e)]
    · have : decide (t = u) = false := by
        simp
        rintro rfl
        rw [hx] at hy
        cases hy
        simp at e
      simp [-getElem?_pos, v2, v3, v5, hS, hS1, hx, hy, nd, h, hiu, hw, eqP_5, e, this]
  · simp at h
    have : t = u := by
      apply List.ext_getElem?
      intro j
      by_cases c : j < i
      · exact hj j c
      · rw [List.getElem?_eq_none (by omega), List.getElem?_eq_none (by omega)]
    simp [this]

def sbi (a b : Int) : Int × Bool := if -9223372036854775808 ≤ a - b ∧ a - b ≤ 9223372036854775807 then (a - b, true) else (0, false)

def strs (l : List ByteArray) : List (List PV) := l.map fun s => [.v (.string s)]

@[simp] theorem strs_len (l : List ByteArray) : (strs l).length = l.length := by simp [strs]

def celT (q : Bool) (t : List Nd) : PV := if q then .own 5 (t.map nd) else .sl 5 (t.map nd)

@[simp] theorem fz_celT (q : Bool) (t : List Nd) : fz (celT q t) = .sl 5 (t.map nd) := by cases q <;> simp [celT]

def trs (q : Bool) (M : List (List Nd)) : List (List PV) := M.map fun t => [celT q t]

@[simp] theorem trs_len (q : Bool) (M : List (List Nd)) : (trs q M).length = M.length := by simp [trs]

theorem same_of {α : Type} {l m : List α} {i : Nat} (hl : l.length = m.length) (hi : l.length ≤ i) (h : ∀ j, j < i → l[j]? = m[j]?) : l = m := by
  apply List.ext_getElem?
  intro j
  by_cases c : j < i
  · exact h j c
  · rw [List.getElem?_eq_none (by omega), List.getElem?_eq_none (by omega)]

theorem same_no {α : Type} {l m : List α} {i : Nat} {x y : α} (hx : l[i]? = some x) (hy : m[i]? = some y) (h : ¬ x = y) : (l = m) = False := by
  apply eq_false
  rintro rfl
  rw [hx] at hy
  cases hy
  exact h rfl

theorem len_no {α : Type} {l m : List α} (h : ((l.length : Int) = m.length) = False) : (l = m) = False := by
  apply eq_false
  rintro rfl
  simp at h

open Classical in
theorem R_slices_Equal_Node (l m : List Nd) (hl : l.length ≤ 9223372036854775807) : RUN T k_slices_Equal___impl_Node_impl_Node_ [.sl 5 (l.map nd), .sl 5 (m.map nd)] = some ([bv (decide (l = m))], []) := by
  refine RUN_W T_slices_Equal___impl_Node_impl_Node_ rfl ?_
  rcases Classical.propComplete ((l.length : Int) = m.length) with hlm | hlm
  case inr =>
    simp [-getElem?_pos, k_slices_Equal___impl_Node_impl_Node__ic, k_slices_Equal___impl_Node_impl_Node__rv, hlm, len_no hlm]
  simp [-getElem?_pos, k_slices_Equal___impl_Node_impl_Node__ic, k_slices_Equal___impl_Node_impl_Node__rv, hlm]
  have hlen : l.length = m.length := by simp at hlm; omega
  refine W_loop (fun n st => ∃ i : Nat, i + n = l.length ∧ (∀ j, j < i → l[j]? = m[j]?) ∧ st.V 0 = .sl 5 (l.map nd) ∧ st.V 1 = .sl 5 (m.map nd) ∧ st.V 12 = iv l.length ∧ st.V 13 = iv i) ?_ l.length _ ⟨0, by simp [hlen]⟩
  rintro n st ⟨i, hi, hj, v0, v1, v12, v13⟩
  simp [k_slices_Equal___impl_Node_impl_Node__b0, v12, v13]
  refine Br_i (fun h => ?_) (fun h => ?_)
  · simp at h
    obtain ⟨x, hx⟩ : ∃ x, l[i]? = some x := ⟨_, List.getElem?_eq_getElem h⟩
    obtain ⟨y, hy⟩ : ∃ y, m[i]? = some y := ⟨_, List.getElem?_eq_getElem (by omega)⟩
    have hw := wS h hl
    have him : i < m.length := by omega
    rcases Classical.propComplete (x.f = y.f ∧ x.c = y.c ∧ x.l = y.l ∧ x.r = y.r ∧ x.v = y.v) with e | e
    · simp [-getElem?_pos, v0, v1, v12, v13, hx, hy, nd, h, him, hw, eqP_5, e]
      exact Rnd_n (n - 1) (by omega) ⟨i + 1, by omega, snoc_nat hj (by rw [hx, hy, nd_eq.mpr (of_eq_true e)]), by simp [v0], by simp [v1], by simp [v12], by simp⟩
    · have e2 : ¬ x = y := fun hh => by rw [nd_eq] at hh; simp [e] at hh
      simp [-getElem?_pos, v0, v1, v12, v13, hx, hy, nd, h, him, hw, eqP_5, e, same_no hx hy e2]
  · simp at h
    simp [same_of hlen h hj]

open Classical in
theorem R_impl_SameTree (l m : List Nd) (hl : l.length ≤ 9223372036854775807) : RUN T k_impl_SameTree [.agg [.sl 5 (l.map nd)], .agg [.sl 5 (m.map nd)]] = some ([bv (decide (l = m))], []) := by
  refine RUN_W T_impl_SameTree rfl ?_
  have h := R_slices_Equal_Node l m hl
  simp [-getElem?_pos, k_impl_SameTree_ic, k_impl_SameTree_rv, h]

def rwS (q : Bool) (l : List ByteArray) : PV := if q then .own 1 (strs l) else .sl 1 (strs l)

@[simp] theorem fz_rwS (q : Bool) (l : List ByteArray) : fz (rwS q l) = .sl 1 (strs l) := by cases q <;> simp [rwS]

def rwsS (q : Bool) (L : List (List ByteArray)) : List (List PV) := L.map fun l => [rwS q l]

@[simp] theorem rwsS_len (q : Bool) (L : List (List ByteArray)) : (rwsS q L).length = L.length := by simp [rwsS]

/-- The numbers below one that are meant. -/
def picks (p : Nat → Bool) (i : Nat) : List Int := ((List.range i).filter p).map fun (j : Nat) => (j : Int)

@[simp] theorem picks_0 (p : Nat → Bool) : picks p 0 = [] := rfl

/-- A number of 128 bits with a sign. -/
structure Wd where
  n : Bool
  h : Int
  l : Int
deriving DecidableEq

def wok (w : Wd) : Bool := decide (w.h < 9223372036854775808) && (!w.n || decide (0 < w.h) || decide (0 < w.l))

def mag (w : Wd) : Int := w.h * 18446744073709551616 + w.l

def mkW (n : Bool) (m : Int) : Wd := ⟨n && decide (0 < m), m / 18446744073709551616, m % 18446744073709551616⟩

def zeroW : Wd := ⟨false, 0, 0⟩

def sgnI (a b : Int) : Int := if a < b then -1 else if b < a then 1 else 0

def ordW (a b : Wd) : Int := if sgnI a.h b.h = 0 then sgnI a.l b.l else sgnI a.h b.h

def mulW (a b : Int) : Wd := mkW (decide (a < 0) != decide (b < 0)) ((a.natAbs : Int) * b.natAbs)

/-- What a number is worth. -/
def valW (w : Wd) : Int := if w.n then -mag w else mag w

def sumW (a b : Wd) : Wd × Bool :=
  if wok a && wok b then
    if ((valW a + valW b).natAbs : Int) < 170141183460469231731687303715884105728 then (mkW (decide (valW a + valW b < 0)) (valW a + valW b).natAbs, true) else (zeroW, false)
  else (zeroW, false)

def scaleW (w : Wd) (k : Int) : Wd × Bool := if wok w = true ∧ mag w * k.natAbs < 170141183460469231731687303715884105728 then (mkW (w.n != decide (k < 0)) (mag w * k.natAbs), true) else (zeroW, false)

def negW (w : Wd) : Bool := w.n && !(decide (w.h = 0) && decide (w.l = 0))

def cmpW (a b : Wd) : Int := if negW a = true then (if negW b = true then ordW b a else -1) else (if negW b = true then 1 else ordW a b)

/-- A tree in which the slot k has been parted. -/
def grown (t : List Nd) (k : Nat) (f c a b : Int) : List Nd := t.set k ⟨f, c, t.length, t.length + 1, 0⟩ ++ [⟨-1, 0, 0, 0, a⟩, ⟨-1, 0, 0, 0, b⟩]

/-- The place at which a number goes into a list, looked for from the end. -/
def pos (x : Int) (l : List Int) : Nat → Nat
  | 0 => 0
  | k + 1 => if x < l.getD k 0 then pos x l k else k + 1

def PosAt (x : Int) (l : List Int) (k P : Nat) : Prop := pos x l k = P

theorem PosAt.z {x : Int} {l : List Int} {P : Nat} (h : PosAt x l 0 P) : 0 = P := h

/-- A slot: how many, and their sum. -/
structure Sl where
  n : Int
  g : Int
deriving DecidableEq

def slc (x : Sl) : List PV := [iv x.n, iv x.g]

def slts (l : List Sl) : List (List PV) := l.map slc

@[simp] theorem slts_len (l : List Sl) : (slts l).length = l.length := by simp [slts]

def plusS (a b : Sl) : Sl × Bool := if ((adi a.n b.n).2 && (adi a.g b.g).2) = true then (⟨(adi a.n b.n).1, (adi a.g b.g).1⟩, true) else (⟨0, 0⟩, false)

def atI {α : Type} (l : List α) (i : Int) : Option α := if 0 ≤ i then l[i.toNat]? else none

def histG (b g : List Int) : List Int → List Sl → Option (List Sl)
  | [], h => some h
  | r :: rs, h => match atI b r, atI g r with
    | some x, some y => match atI h x with
      | some s => if (plusS s ⟨1, y⟩).2 = true then histG b g rs (h.set x.toNat (plusS s ⟨1, y⟩).1) else none
      | none => none
    | _, _ => none

def histR (b g rows : List Int) (k : Int) : List Sl × Bool := if within k 1 8 = true then match histG b g rows (List.replicate k.toNat ⟨0, 0⟩) with
    | some h => (h, true)
    | none => ([], false)
  else ([], false)

def celS (q : Bool) (l : List Sl) : PV := if q then .own 2 (slts l) else .sl 2 (slts l)

@[simp] theorem fz_celS (q : Bool) (l : List Sl) : fz (celS q l) = .sl 2 (slts l) := by cases q <;> simp [celS]

def rss (q : Bool) (H : List (List Sl)) : List (List PV) := H.map fun l => [celS q l]

@[simp] theorem rss_len (q : Bool) (H : List (List Sl)) : (rss q H).length = H.length := by simp [rss]

def nodeL (g rows : List Int) : List (List Int) → List (List Int) → Option (List (List Sl))
  | x :: c, y :: v => if (histR y g rows (x.length + 1)).2 = true then (nodeL g rows c v).map ((histR y g rows (x.length + 1)).1 :: ·) else none
  | _, _ => some []

def nodeR (c v : List (List Int)) (g rows : List Int) : List (List Sl) × Bool := if gridB c v = true then match nodeL g rows c v with
    | some h => (h, true)
    | none => ([], false)
  else ([], false)

/-- Slots that have been numbered. -/
def mkSl (k : Int) (n : Nat) : List Sl := (List.range n).map fun (i : Nat) => ⟨k + 2 * (i : Int), k + 2 * (i : Int) + 1⟩

@[simp] theorem mkSl_len (k : Int) (n : Nat) : (mkSl k n).length = n := by simp [mkSl]

/-- A fraction: a number of 128 bits over a small one. -/
structure Fr where
  w : Wd
  d : Int

def frB (f : Fr) : Bool := wok f.w && within f.d 1 1000000

def zeroF : Fr := ⟨zeroW, 0⟩

def fracV (w : Wd) (d : Int) : Fr × Bool := if frB ⟨w, d⟩ = true then (⟨w, d⟩, true) else (zeroF, false)

def crossV (a b : Fr) : Wd × Wd × Bool := if (frB a && frB b) = true then ((scaleW a.w b.d).1, (scaleW b.w a.d).1, (scaleW a.w b.d).2 && (scaleW b.w a.d).2) else (zeroW, zeroW, false)

def cmpF (a b : Fr) : Int × Bool := if (crossV a b).2.2 = true then (cmpW (crossV a b).1 (crossV a b).2.1, true) else (0, false)

def addF (a b : Fr) : Fr × Bool := if (crossV a b).2.2 = true then (if (sumW (crossV a b).1 (crossV a b).2.1).2 = true then fracV (sumW (crossV a b).1 (crossV a b).2.1).1 (a.d * b.d) else (zeroF, false)) else (zeroF, false)

/-- A candidate: feature, border, the two sides. -/
structure Cnd where
  f : Int
  b : Int
  a : Sl
  z : Sl
deriving DecidableEq

def cnd (c : Cnd) : List PV := [iv c.f, iv c.b, iv c.a.n, iv c.a.g, iv c.z.n, iv c.z.g]

/-- A bound on values. -/
structure Bd where
  lo : Int
  hi : Int

def bndB (b : Bd) : Bool := decide (b.lo ≤ b.hi) && leafV b.lo && leafV b.hi

def broV (x lo hi : Int) : Int := if x < lo then lo else if hi < x then hi else x

def cntB (n l : Int) : Bool := within n 0 40 && within l 1 100

def leafO (s : Sl) (l : Int) (b : Bd) : Int × Bool := if (cntB s.n l && bndB b) = true then (broV (fdv s.g (s.n + l)).1 b.lo b.hi, true) else (0, false)

def plainG (s : Sl) (l : Int) : Fr × Bool := if cntB s.n l = true then fracV (mulW s.g s.g) (s.n + l) else (zeroF, false)

def gainC (c : Cnd) (l : Int) : Fr × Bool := if ((plainG c.a l).2 && (plainG c.z l).2) = true then addF (plainG c.a l).1 (plainG c.z l).1 else (zeroF, false)

def sideV (c : Cfg) (b : Bd) (x : Cnd) : Int × Int × Bool := if ((leafO x.a c.la b).2 && (leafO x.z c.la b).2) = true then ((leafO x.a c.la b).1, (leafO x.z c.la b).1, true) else (0, 0, false)

def signV (c : Cfg) (f : Int) : Int := (atI c.sg f).getD 0

def agrV (s l r : Int) : Bool := if s = 1 then decide (l ≤ r) else if s = -1 then decide (r ≤ l) else true

def impV (x : Cnd) (l : Int) : Bool := (gainC x l).2 && ((plusS x.a x.z).2 && ((plainG (plusS x.a x.z).1 l).2 && ((cmpF (gainC x l).1 (plainG (plusS x.a x.z).1 l).1).2 && decide (0 < (cmpF (gainC x l).1 (plainG (plusS x.a x.z).1 l).1).1))))

def lesC (a b : Cnd) : Bool := decide (a.f < b.f) || (decide (a.f = b.f) && decide (a.b < b.b))

def betC (a b : Cnd) (l : Int) : Bool := (gainC a l).2 && ((gainC b l).2 && ((cmpF (gainC a l).1 (gainC b l).1).2 && (decide (0 < (cmpF (gainC a l).1 (gainC b l).1).1) || (decide ((cmpF (gainC a l).1 (gainC b l).1).1 = 0) && lesC a b))))

def mayB (c : Cfg) (b : Bd) (x : Cnd) : Bool := cfgOk c && ((sideV c b x).2.2 && (decide (c.rw ≤ x.a.n) && (decide (c.rw ≤ x.z.n) && (agrV (signV c x.f) (sideV c b x).1 (sideV c b x).2.1 && impV x c.la))))

def cnds (l : List Cnd) : List (List PV) := l.map cnd

@[simp] theorem cnds_len (l : List Cnd) : (cnds l).length = l.length := by simp [cnds]

def noB (c : Cfg) (b : Bd) (x y : Cnd) : Bool := !mayB c b y || !betC y x c.la

def isBest (c : Cfg) (b : Bd) (l : List Cnd) (x : Cnd) : Bool := mayB c b x && l.all (noB c b x)

def zeroC : Cnd := ⟨0, 0, ⟨0, 0⟩, ⟨0, 0⟩⟩

def bestR (c : Cfg) (b : Bd) (l : List Cnd) : Cnd × Bool := match l.find? (isBest c b l) with
  | some x => (x, true)
  | none => (zeroC, false)

def minusS (a b : Sl) : Sl × Bool := if ((sbi a.n b.n).2 && (sbi a.g b.g).2) = true then (⟨(sbi a.n b.n).1, (sbi a.g b.g).1⟩, true) else (⟨0, 0⟩, false)

def prefG (s : Sl) : List Sl → Option (List Sl)
  | [] => some []
  | x :: xs => if (plusS s x).2 = true then (prefG (plusS s x).1 xs).map ((plusS s x).1 :: ·) else none

def prefR (h : List Sl) : List Sl × Bool := match prefG ⟨0, 0⟩ h with
  | some l => (l, true)
  | none => ([], false)

/-- The candidates of one feature, behind those that are there. -/
def candB (f : Int) (all : Sl) (least : Int) : Int → List Sl → List Cnd → Option (List Cnd)
  | b, x :: y :: xs, acc => if (minusS all x).2 = true then candB f all least (b + 1) (y :: xs) (if least ≤ x.n ∧ least ≤ (minusS all x).1.n then acc ++ [⟨f, b, x, (minusS all x).1⟩] else acc) else none
  | _, _, acc => some acc

def lastS (l : List Sl) : Sl := l.getLast?.getD ⟨0, 0⟩

def candF (least : Int) : Int → List (List Sl) → List Cnd → Option (List Cnd)
  | _, [], acc => some acc
  | f, h :: hs, acc => if (prefR h).2 = true then match candB f (lastS (prefR h).1) least 0 (prefR h).1 acc with
    | some a => candF least (f + 1) hs a
    | none => none
    else none

def candR (H : List (List Sl)) (least : Int) : List Cnd := (candF least 0 H []).getD []

def partR (c v : List (List Int)) (g : List Int) (cfg : Cfg) (rows : List Int) (b : Bd) : Cnd × Bool := if taskB c v g cfg = true then (if (nodeR c v g rows).2 = true then bestR cfg b (candR (nodeR c v g rows).1 cfg.rw) else (zeroC, false)) else (zeroC, false)

/-- A node that is not grown yet. -/
structure Pnd where
  r : List Int
  b : Bd
  l : Int

def goes (c v : List (List Int)) (g : List Int) (cfg : Cfg) (x : Pnd) : Bool := decide (x.l < cfg.de) && (partR c v g cfg x.r x.b).2

def upl (n : Nat) : List Int := (List.range n).map fun (i : Nat) => (i : Int)

@[simp] theorem upl_len (n : Nat) : (upl n).length = n := by simp [upl]

@[simp] theorem upl_0 : upl 0 = [] := rfl

def pnd (x : Pnd) : List PV := [.own 1 (ints x.r), iv x.b.lo, iv x.b.hi, iv x.l]

def pnds (l : List Pnd) : List (List PV) := l.map pnd

@[simp] theorem pnds_len (l : List Pnd) : (pnds l).length = l.length := by simp [pnds]

theorem law_FnExactSameTree (t u : List Nd) (hl : t.length ≤ 9223372036854775807) (hu : u.length ≤ 9223372036854775807) : RUN T k_laws_FnExactSameTree [.agg [.sl 5 (t.map nd)], .agg [.sl 5 (u.map nd)]] = some ([bv true], []) := by
  have hs := R_laws_szTree (t.map nd) 1048576 (by omega) (by omega) (by simpa using hl)
  have hs2 := fun (h : ¬ (1048576 : Int) - t.length < 0) => R_laws_szTree (u.map nd) (1048576 - t.length) (by omega) (by omega) (by simpa using hu)
  have a1 := R_laws_eqTree t hl
  have a2 := R_laws_eqTree u hu
  have q1 := R_spec_SameTree t u hl hu
  have q2 := R_impl_SameTree t u hl
  have t1 := fun (h : t.length ≤ 1048576) => R_laws_toTree t h
  have t2 := fun (h : u.length ≤ 1048576) => R_laws_toTree u h
  simp only [List.length_map] at hs hs2
  generalize decide (t = u) = d at *
  refine RUN_W T_laws_FnExactSameTree rfl ?_
  by_cases h : (1048576 : Int) - t.length < 0
  · rw [if_pos h] at hs
    simp [k_laws_FnExactSameTree_ic, k_laws_FnExactSameTree_rv, hs]
  rw [if_neg h] at hs
  have hs2 := hs2 h
  by_cases h2 : (1048576 : Int) - t.length - u.length < 0
  · rw [if_pos h2] at hs2
    simp [k_laws_FnExactSameTree_ic, k_laws_FnExactSameTree_rv, hs, hs2, h]
  rw [if_neg h2] at hs2
  have t1 := t1 (by omega)
  have t2 := t2 (by omega)
  cases d <;> simp [k_laws_FnExactSameTree_ic, k_laws_FnExactSameTree_rv, hs, hs2, h, h2, t1, t2, a1, a2, q1, q2]

end Go.Pe
