/- What each function answers by the evaluator, and the law; for each answer its own conditions stand ahead of it. -/
import Derived.Test.YthjpnjnlhmkepaaK0
import Derived.Test.YthjpnjnlhmkepaaEvB2
import Derived.IntWalk
set_option linter.all false
namespace Go.Pe
open Go
theorem w64 {x : Int} (h1 : -9223372036854775808 ≤ x) (h2 : x ≤ 9223372036854775807) : IntKind.i64.wrap x = x := IntWalk.i64_in x ⟨h1, h2⟩

@[simp] theorem w64s {x : Int} (h1 : -9223372036854775808 ≤ x) (h2 : x ≤ 9223372036854775807) : IntKind.i64.wrap x = x := w64 h1 h2

structure Nd where
  f : Int
  c : Int
  l : Int
  r : Int
  v : Int
deriving DecidableEq

def nd (n : Nd) : List PV := [iv n.f, iv n.c, iv n.l, iv n.r, iv n.v]

theorem wS {i n : Nat} (h : i < n) (hn : n ≤ 9223372036854775807) : IntKind.i64.wrap ((i : Int) + 1) = (i : Int) + 1 := w64 (by omega) (by omega)

/-- A row that is filled from its beginning on. -/
def fil {α β : Type} (f : α → β) (z : β) (l : List α) (i : Nat) : List β := (l.take i).map f ++ List.replicate (l.length - i) z

theorem fil_set {α β : Type} {f : α → β} {l : List α} {z : β} {i : Nat} {x : α} (hx : l[i]? = some x) : (fil f z l i).set i (f x) = fil f z l (i + 1) := by
  unfold fil
  obtain ⟨h1, h2⟩ := List.getElem?_eq_some_iff.mp hx
  apply List.ext_getElem?
  intro j
  rw [List.getElem?_set]
  simp only [List.length_append, List.length_map, List.length_take, List.length_replicate]
  by_cases e : i = j
  · subst e
    rw [if_pos rfl, if_pos (by omega), List.getElem?_append_left (by simp; omega)]
    simp [List.getElem?_take, hx]
  · rw [if_neg e]
    by_cases hj : j < i
    · rw [List.getElem?_append_left (by simp; omega), List.getElem?_append_left (by simp; omega)]
      simp [List.getElem?_take, hj, show j < i + 1 by omega]
    · rw [List.getElem?_append_right (by simp; omega), List.getElem?_append_right (by simp; omega)]
      simp [List.getElem?_replicate]
      congr 1
      simp; omega

theorem fil_get {α β : Type} {f : α → β} {l : List α} {z : β} {i : Nat} (h : i < l.length) : (fil f z l i)[i]? = some z := by
  unfold fil
  rw [List.getElem?_append_right (by simp; omega)]
  simp [List.getElem?_replicate]; omega

theorem fil_len {α β : Type} {f : α → β} {l : List α} {z : β} {i : Nat} (h : i ≤ l.length) : (fil f z l i).length = l.length := by unfold fil; simp; omega

theorem fil_0 {α β : Type} {f : α → β} {l : List α} {z : β} : fil f z l 0 = List.replicate l.length z := by simp [fil]

theorem fil_all {α β : Type} {f : α → β} {l : List α} {z : β} {i : Nat} (h : i = l.length) : fil f z l i = l.map f := by subst h; simp [fil]

def ints (l : List Int) : List (List PV) := l.map fun n => [iv n]

@[simp] theorem ints_len (l : List Int) : (ints l).length = l.length := by simp [ints]

theorem ints_get {l : List Int} {i : Nat} {x : Int} (h : l[i]? = some x) : (ints l)[i]? = some [iv x] := by simp [ints, h]

@[simp] theorem ints_nil : ints [] = [] := rfl

theorem room8 {n : Nat} (h : n ≤ 17592186044416) : roomFor 8 n = true := by simp [roomFor]; omega

theorem R_laws_toIntS (l : List Int) (hl : l.length ≤ 1048576) : RUN T k_laws_toIntS [.sl 1 (ints l)] = some ([.own 1 (ints l)], []) := by
  refine RUN_W T_laws_toIntS rfl ?_
  have hr : roomFor 8 l.length = true := room8 (by omega)
  simp [k_laws_toIntS_ic, k_laws_toIntS_rv, hr]
  refine W_loop (fun n st => ∃ i : Nat, i + n = l.length ∧ st.V 0 = .sl 1 (ints l) ∧ st.V 3 = .ref 0 none 0 0 l.length ∧ st.V 4 = iv i ∧ st.ep = 0 ∧ st.S 0 = some (.row 1 (fil (fun n => [iv n]) [iv 0] l i))) ?_ l.length _ ⟨0, by simp [fil_0]⟩
  rintro n st ⟨i, hi, h0, h3, h4, hep, hS⟩
  simp [k_laws_toIntS_b0, h0, h3, h4, hS]
  refine Br_i (fun h => ?_) (fun h => ?_)
  · simp at h
    obtain ⟨x, hx⟩ : ∃ x, l[i]? = some x := ⟨_, List.getElem?_eq_getElem h⟩
    have hw := wS h (by omega : l.length ≤ 9223372036854775807)
    have hg := fil_get (f := fun n => [iv n]) (z := [iv 0]) h
    have hs := fil_set (f := fun n => [iv n]) (z := [iv 0]) hx
    have hx' := ints_get hx
    simp [-getElem?_pos, h0, h3, h4, hS, hep, h, hx', hw, hg, hs, fil_len (Nat.le_of_lt h)]
    exact Rnd_n (n - 1) (by omega) ⟨i + 1, by omega, by simp [h0], by simp [h3], by simp, by simp, by simp⟩
  · simp at h
    have e := fil_all (f := fun n => [iv n]) (z := [iv 0]) (by omega : i = l.length)
    simp [h3, hS, e, ints]

theorem R_laws_eqIntS (l : List Int) (hl : l.length ≤ 9223372036854775807) : RUN T k_laws_eqIntS [.sl 1 (ints l), .sl 1 (ints l)] = some ([bv true], []) := by
  refine RUN_W T_laws_eqIntS rfl ?_
  simp [k_laws_eqIntS_ic, k_laws_eqIntS_rv]
  refine W_loop (fun n st => ∃ i : Nat, i + n = l.length ∧ st.V 0 = .sl 1 (ints l) ∧ st.V 1 = .sl 1 (ints l) ∧ st.V 5 = iv i) ?_ l.length _ ⟨0, by simp⟩
  rintro n st ⟨i, hi, h0, h1, h5⟩
  simp [k_laws_eqIntS_b0, h0, h1, h5]
  refine Br_i (fun h => ?_) (fun h => ?_)
  · simp at h
    obtain ⟨x, hx⟩ : ∃ x, l[i]? = some x := ⟨_, List.getElem?_eq_getElem h⟩
    have hw := wS h hl
    have hx' := ints_get hx
    simp [-getElem?_pos, h0, h1, h5, h, hx', hw]
    exact Rnd_n (n - 1) (by omega) ⟨i + 1, by omega, by simp [h0], by simp [h1], by simp⟩
  · simp

/-- The numbers from one on, so many. -/
def upto (k : Int) (n : Nat) : List Int := (List.range n).map fun (i : Nat) => k + (i : Int)

@[simp] theorem upto_len (k : Int) (n : Nat) : (upto k n).length = n := by simp [upto]

@[simp] theorem R_spec_l1Max (a b : Int) : RUN T k_spec_l1Max [iv a, iv b] = some ([iv (max a b)], []) := by
  refine RUN_W T_spec_l1Max rfl ?_
  simp [k_spec_l1Max_ic, k_spec_l1Max_rv]
  refine Br_i (fun b0 => ?_) (fun b0 => ?_) <;> (try simp at b0) <;> simp [-getElem?_pos, b0, ]
  all_goals omega

def inI (n : Int) : Prop := -9223372036854775808 ≤ n ∧ n ≤ 9223372036854775807

structure Cfg where
  ro : Int
  de : Int
  bi : Int
  la : Int
  rw : Int
  nu : Int
  dn : Int
  sg : List Int

def within (n a b : Int) : Bool := decide (a ≤ n) && decide (n ≤ b)

def cfgOk (c : Cfg) : Bool := within c.ro 1 8 && within c.de 0 4 && within c.bi 2 8 && within c.la 1 100 && within c.rw 1 20 && within c.dn 1 1000 && within c.nu 1 c.dn && decide ((c.sg.length : Int) ≤ 4) && c.sg.all fun n => within n (-1) 1

def leafV (v : Int) : Bool := within v (-1099511627776) 1099511627776

/-- A value times the learning rate. -/
def shr (v : Int) (c : Cfg) : Int × Bool := if cfgOk c && leafV v then (( v * c.nu).fdiv c.dn, true) else (0, false)

/-- A row within rows: a slice's own, or one that is read. -/
def cel (q : Bool) (l : List Int) : PV := if q then .own 1 (ints l) else .sl 1 (ints l)

@[simp] theorem fz_cel (q : Bool) (l : List Int) : fz (cel q l) = .sl 1 (ints l) := by cases q <;> simp [cel]

def rws (q : Bool) (L : List (List Int)) : List (List PV) := L.map fun l => [cel q l]

@[simp] theorem rws_len (q : Bool) (L : List (List Int)) : (rws q L).length = L.length := by simp [rws]

theorem yv_gu {s : St} {d : Option Dst} {op : IOp} {g : Opd} {v : Bool} {x : PV} : (yv s ⟨d, op, some (g, v)⟩ = some x) = (Ob' (guardP v (g.get s)) fun t => Br t (WI (fun _ => []) (fun _ _ => none) op s (fun y _ => y = x)) (PV.v Go.undef = x)) := by
  simp only [yv, evG_some, WI, Ob', Br, Option.map_eq_some_iff, Option.bind_eq_some_iff, eq_iff_iff]
  constructor
  · rintro ⟨⟨y, s'⟩, ⟨t, h1, h2⟩, h3⟩
    refine ⟨t, h1, fun ht => ?_, fun ht => ?_⟩ <;> subst ht
    · exact ⟨y, s', by simpa using h2, h3⟩
    · simp at h2; obtain ⟨rfl, rfl⟩ := h2; exact h3
  · rintro ⟨t, h1, h2, h3⟩
    cases t with
    | true => obtain ⟨y, s', h4, h5⟩ := h2 rfl; exact ⟨(y, s'), ⟨true, h1, by simpa using h4⟩, h5⟩
    | false => exact ⟨_, ⟨false, h1, rfl⟩, h3 rfl⟩

@[simp] theorem chkTodo_g {s : St} {d : Option Dst} {op : IOp} {g : Opd} {v : Bool} {x : PV} {n : Nat} {r : List (IOper × PV × Nat)} : chkTodo s ((⟨d, op, some (g, v)⟩, x, n + 1) :: r) = ((Ob' (guardP v (g.get s)) fun t => Br t (WI (fun _ => []) (fun _ _ => none) op s (fun y _ => y = x)) (PV.v Go.undef = x)) ∧ chkTodo s r) := by
  simp only [chkTodo, yv_gu]

@[simp] theorem chkPast_g {V E : Nat → PV} {d : Option Dst} {op : IOp} {g : Opd} {v : Bool} {x : PV} {n : Nat} {s : St} {ms : List St} : chkPast V E ⟨d, op, some (g, v)⟩ x (n + 1) (s :: ms) = ((Ob' (guardP v (g.get { s with V := V, E := E })) fun t => Br t (WI (fun _ => []) (fun _ _ => none) op { s with V := V, E := E } (fun y _ => y = x)) (PV.v Go.undef = x)) ∧ chkPast V E ⟨d, op, some (g, v)⟩ x n ms) := by
  simp only [chkPast, yv_gu]

theorem wf64 {n : Int} (h : (Lit.int .i64 n).wf = true) : -9223372036854775808 ≤ n ∧ n ≤ 9223372036854775807 := bounds_i64 h

theorem rows_of {α : Type} {f : α → List PV} {p : α → Prop} {tys : List TY} (h : ∀ cs, ShpL tys cs → ∃ a, f a = cs ∧ p a) : ∀ {es : List (List PV)}, (∀ cs ∈ es, ShpL tys cs) → ∃ l : List α, l.map f = es ∧ ∀ a ∈ l, p a
  | [], _ => ⟨[], rfl, by simp⟩
  | e :: es, hs => by
    obtain ⟨a, ha, hp⟩ := h e (hs e (by simp))
    obtain ⟨l, hl, hq⟩ := rows_of h (es := es) (fun cs hc => hs cs (by simp [hc]))
    refine ⟨a :: l, by simp [ha, hl], fun b hb => ?_⟩
    rcases List.mem_cons.mp hb with e | e
    · subst e; exact hp
    · exact hq b e

theorem shp_intL (cs : List PV) (h : ShpL [.int .i64] cs) : ∃ n : Int, [iv n] = cs ∧ inI n := by
  simp only [ShpL, Shp] at h
  obtain ⟨_, _, rfl, ⟨a, rfl, h1⟩, rfl⟩ := h
  exact ⟨a, rfl, wf64 h1⟩

theorem shp_ints {c : PV} (h : ShpA false [.sl [.int .i64]] c) : ∃ l : List Int, c = .sl 1 (ints l) ∧ l.length ≤ 9223372036854775807 ∧ ∀ n ∈ l, inI n := by
  simp only [ShpA, Bool.false_eq_true, if_false, ShpL, Shp] at h
  obtain ⟨c', r, e, ⟨es, he, h1, h2⟩, hr⟩ := h
  simp only [List.cons.injEq] at e
  obtain ⟨l, hl, hp⟩ := rows_of (f := fun n : Int => [iv n]) (tys := [.int .i64]) shp_intL h2
  subst hl
  simp [maxLen] at h1
  exact ⟨l, e.1.trans he, by omega, hp⟩

theorem of_all {P : Program} {l : List TypeId} (h : (l.all fun t => P.readableRec t && decide (t < P.types.size)) = true) : ∀ t ∈ l, P.readableRec t = true ∧ t < P.types.size := by
  intro t ht
  have := List.all_eq_true.mp h t ht
  simpa using this

theorem args1 {p : Bool × List TY} {pvs : List PV} (h : All2 (fun p c => ShpA p.1 p.2 c) [p] pvs) : ∃ a, pvs = [a] ∧ ShpA p.1 p.2 a := by
  cases h with
  | cons h1 t => cases t with
    | nil => exact ⟨_, rfl, h1⟩

/-- The bytes that a source draws from. -/
def byts (B : List Int) : List (List PV) := B.map fun n => [.v (.int .u8 n)]

@[simp] theorem byts_len (B : List Int) : (byts B).length = B.length := by simp [byts]

/-- The end of a call of which something is told. -/
def FinG (rv : List RV) (io : Nat) (G : List PV × List PV → Prop) (_ : Dm rv) (_ : Dm G) (e : Ex) (s : St) : Prop := (e = .normal ∨ e = .ret) ∧ ∃ r, finishEv ⟨[], rv, .skip⟩ io s = some r ∧ G r

@[simp] theorem FinG_n {rv : List RV} {io : Nat} {G : List PV × List PV → Prop} {s : St} : FinG rv io G ⟨⟩ ⟨⟩ .normal s = ∃ r, finishEv ⟨[], rv, .skip⟩ io s = some r ∧ G r := by simp [FinG]

@[simp] theorem FinG_r {rv : List RV} {io : Nat} {G : List PV × List PV → Prop} {s : St} : FinG rv io G ⟨⟩ ⟨⟩ .ret s = ∃ r, finishEv ⟨[], rv, .skip⟩ io s = some r ∧ G r := by simp [FinG]

def strs (l : List ByteArray) : List (List PV) := l.map fun s => [.v (.string s)]

@[simp] theorem strs_len (l : List ByteArray) : (strs l).length = l.length := by simp [strs]

def celT (q : Bool) (t : List Nd) : PV := if q then .own 5 (t.map nd) else .sl 5 (t.map nd)

@[simp] theorem fz_celT (q : Bool) (t : List Nd) : fz (celT q t) = .sl 5 (t.map nd) := by cases q <;> simp [celT]

def trs (q : Bool) (M : List (List Nd)) : List (List PV) := M.map fun t => [celT q t]

@[simp] theorem trs_len (q : Bool) (M : List (List Nd)) : (trs q M).length = M.length := by simp [trs]

def rwS (q : Bool) (l : List ByteArray) : PV := if q then .own 1 (strs l) else .sl 1 (strs l)

@[simp] theorem fz_rwS (q : Bool) (l : List ByteArray) : fz (rwS q l) = .sl 1 (strs l) := by cases q <;> simp [rwS]

def rwsS (q : Bool) (L : List (List ByteArray)) : List (List PV) := L.map fun l => [rwS q l]

@[simp] theorem rwsS_len (q : Bool) (L : List (List ByteArray)) : (rwsS q L).length = L.length := by simp [rwsS]

/-- The numbers below one that are meant. -/
def picks (p : Nat → Bool) (i : Nat) : List Int := ((List.range i).filter p).map fun (j : Nat) => (j : Int)

@[simp] theorem picks_0 (p : Nat → Bool) : picks p 0 = [] := rfl

theorem wu64 (x : Int) : IntKind.u64.wrap x = x % 18446744073709551616 := IntKind.wrap_u64 x

theorem bMulU (a b : Int) : binV .mul (.int .u64 a) (.int .u64 b) = some (.int .u64 (a * b % 18446744073709551616)) := by rw [binV_mul, wu64]

theorem bAddU (a b : Int) : binV .add (.int .u64 a) (.int .u64 b) = some (.int .u64 ((a + b) % 18446744073709551616)) := by rw [binV_add, wu64]

theorem bShr32 (x : Int) : binV .shr (.int .u64 x) (.int .u64 32) = some (.int .u64 (x / 4294967296)) := by
  rw [binV_shr, if_pos (by decide)]
  have : (2 : Int) ^ min (32 : Int).toNat IntKind.u64.bits = 4294967296 := by decide
  rw [this, Int.fdiv_eq_ediv_of_nonneg _ (by decide)]

theorem bShl32 (x : Int) : binV .shl (.int .u64 x) (.int .u64 32) = some (.int .u64 (x * 4294967296 % 18446744073709551616)) := by
  rw [binV_shl, if_pos (by decide), wu64]
  have : (2 : Int) ^ min (32 : Int).toNat IntKind.u64.bits = 4294967296 := by decide
  rw [this]

theorem bAnd32 {x : Int} (h0 : 0 ≤ x) (h1 : x < 18446744073709551616) : binV .and (.int .u64 x) (.int .u64 4294967295) = some (.int .u64 (x % 4294967296)) := by
  rw [binV_and, wu64]
  have e : ((BitVec.ofInt IntKind.u64.bits x &&& BitVec.ofInt IntKind.u64.bits 4294967295).toNat : Int) = x % 4294967296 := by
    obtain ⟨n, rfl⟩ := Int.eq_ofNat_of_zero_le h0
    have hn : n < 2 ^ 64 := by omega
    have e2 : (BitVec.ofInt 64 (n : Int) &&& BitVec.ofInt 64 4294967295).toNat = n % 4294967296 := by
      rw [BitVec.toNat_and]
      have e3 : (BitVec.ofInt 64 (n : Int)).toNat = n := by
        rw [BitVec.ofInt_natCast, BitVec.toNat_ofNat, Nat.mod_eq_of_lt hn]
      have e4 : (BitVec.ofInt 64 4294967295).toNat = 2 ^ 32 - 1 := by decide
      rw [e3, e4, Nat.and_two_pow_sub_one_eq_mod]
    show (((BitVec.ofInt 64 (n : Int) &&& BitVec.ofInt 64 4294967295).toNat : Nat) : Int) = _
    rw [e2]; omega
  rw [e]; congr 2; omega

/-- The four part products of two numbers of 64 bits. -/
theorem parts {x y : Int} (hx : 0 ≤ x) (hx1 : x < 18446744073709551616) (hy : 0 ≤ y) (hy1 : y < 18446744073709551616) :
    ∃ a b c d : Int, a = x % 4294967296 * (y % 4294967296) ∧ b = x / 4294967296 * (y % 4294967296) ∧ c = x % 4294967296 * (y / 4294967296) ∧ d = x / 4294967296 * (y / 4294967296) ∧ 0 ≤ a ∧ a ≤ 18446744065119617025 ∧ 0 ≤ b ∧ b ≤ 18446744065119617025 ∧ 0 ≤ c ∧ c ≤ 18446744065119617025 ∧ 0 ≤ d ∧ d ≤ 18446744065119617025 ∧ x * y = d * 18446744073709551616 + (b + c) * 4294967296 + a := by
  have bd : ∀ u v : Int, 0 ≤ u → u ≤ 4294967295 → 0 ≤ v → v ≤ 4294967295 → 0 ≤ u * v ∧ u * v ≤ 18446744065119617025 := fun u v h1 h2 h3 h4 =>
    ⟨Int.mul_nonneg h1 h3, Int.le_trans (Int.mul_le_mul h2 h4 h3 (by decide)) (by decide)⟩
  have x0 : 0 ≤ x % 4294967296 ∧ x % 4294967296 ≤ 4294967295 := by omega
  have x1 : 0 ≤ x / 4294967296 ∧ x / 4294967296 ≤ 4294967295 := by omega
  have y0 : 0 ≤ y % 4294967296 ∧ y % 4294967296 ≤ 4294967295 := by omega
  have y1 : 0 ≤ y / 4294967296 ∧ y / 4294967296 ≤ 4294967295 := by omega
  refine ⟨_, _, _, _, rfl, rfl, rfl, rfl, (bd _ _ x0.1 x0.2 y0.1 y0.2).1, (bd _ _ x0.1 x0.2 y0.1 y0.2).2, (bd _ _ x1.1 x1.2 y0.1 y0.2).1, (bd _ _ x1.1 x1.2 y0.1 y0.2).2, (bd _ _ x0.1 x0.2 y1.1 y1.2).1, (bd _ _ x0.1 x0.2 y1.1 y1.2).2, (bd _ _ x1.1 x1.2 y1.1 y1.2).1, (bd _ _ x1.1 x1.2 y1.1 y1.2).2, ?_⟩
  have ex : x = x / 4294967296 * 4294967296 + x % 4294967296 := by omega
  have ey : y = y / 4294967296 * 4294967296 + y % 4294967296 := by omega
  generalize x / 4294967296 = p at *
  generalize x % 4294967296 = q at *
  generalize y / 4294967296 = r at *
  generalize y % 4294967296 = s at *
  rw [ex, ey, Int.add_mul, Int.mul_add, Int.mul_add]
  have e1 : p * 4294967296 * (r * 4294967296) = p * r * 18446744073709551616 := by
    rw [show (18446744073709551616 : Int) = 4294967296 * 4294967296 by decide, Int.mul_assoc, Int.mul_comm 4294967296 (r * 4294967296), Int.mul_assoc r, ← Int.mul_assoc p r]
  have e2 : p * 4294967296 * s = p * s * 4294967296 := by rw [Int.mul_assoc, Int.mul_comm 4294967296 s, ← Int.mul_assoc]
  have e3 : q * (r * 4294967296) = q * r * 4294967296 := by rw [← Int.mul_assoc]
  rw [e1, e2, e3, Int.add_mul]
  omega

theorem R_math_bits_Mul64 (x y : Int) (hx : 0 ≤ x) (hx1 : x < 18446744073709551616) (hy : 0 ≤ y) (hy1 : y < 18446744073709551616) : RUN T k_math_bits_Mul64 [.v (.int .u64 x), .v (.int .u64 y)] = some ([.v (.int .u64 (x * y / 18446744073709551616)), .v (.int .u64 (x * y % 18446744073709551616))], []) := by
  refine RUN_W T_math_bits_Mul64 rfl ?_
  obtain ⟨a, b, c, d, ea, eb, ec, ed, a0, a1, b0, b1, c0, c1, d0, d1, hp⟩ := parts hx hx1 hy hy1
  have f1 := bAnd32 hx hx1
  have f2 := bAnd32 hy hy1
  have g1 : a % 18446744073709551616 = a := by omega
  have g2 : b % 18446744073709551616 = b := by omega
  have g3 : c % 18446744073709551616 = c := by omega
  have g4 : d % 18446744073709551616 = d := by omega
  have g5 : (b + a / 4294967296) % 18446744073709551616 = b + a / 4294967296 := by omega
  have f3 := bAnd32 (x := b + a / 4294967296) (by omega) (by omega)
  simp [-binV_mul, -binV_add, -binV_and, -binV_shr, bMulU, bAddU, bShr32, f1, f2, f3, k_math_bits_Mul64_ic, k_math_bits_Mul64_rv, ← ea, ← eb, ← ec, ← ed, g1, g2, g3, g4, g5]
  omega

theorem R_spec_l3Product (x y : Int) (hx : 0 ≤ x) (hx1 : x < 18446744073709551616) (hy : 0 ≤ y) (hy1 : y < 18446744073709551616) : RUN T k_spec_l3Product [.v (.int .u64 x), .v (.int .u64 y)] = some ([.v (.int .u64 (x * y / 18446744073709551616)), .v (.int .u64 (x * y % 18446744073709551616))], []) := by
  refine RUN_W T_spec_l3Product rfl ?_
  obtain ⟨a, b, c, d, ea, eb, ec, ed, a0, a1, b0, b1, c0, c1, d0, d1, hp⟩ := parts hx hx1 hy hy1
  have f1 := bAnd32 hx hx1
  have f2 := bAnd32 hy hy1
  have g1 : a % 18446744073709551616 = a := by omega
  have g2 : b % 18446744073709551616 = b := by omega
  have g3 : c % 18446744073709551616 = c := by omega
  have g4 : d % 18446744073709551616 = d := by omega
  have g5 : (b + a / 4294967296) % 18446744073709551616 = b + a / 4294967296 := by omega
  have f3 := bAnd32 (x := b + a / 4294967296) (by omega) (by omega)
  have f4 := bAnd32 (x := a) (by omega) (by omega)
  simp [-binV_mul, -binV_add, -binV_and, -binV_shr, -binV_shl, bMulU, bAddU, bShr32, bShl32, f1, f2, f3, f4, k_spec_l3Product_ic, k_spec_l3Product_rv, ← ea, ← eb, ← ec, ← ed, g1, g2, g3, g4, g5]
  omega

/-- A number of 128 bits with a sign. -/
structure Wd where
  n : Bool
  h : Int
  l : Int
deriving DecidableEq

abbrev uv (x : Int) : PV := .v (.int .u64 x)

def wd (w : Wd) : List PV := [bv w.n, uv w.h, uv w.l]

def wfU (w : Wd) : Prop := 0 ≤ w.h ∧ w.h < 18446744073709551616 ∧ 0 ≤ w.l ∧ w.l < 18446744073709551616

def wok (w : Wd) : Bool := decide (w.h < 9223372036854775808) && (!w.n || decide (0 < w.h) || decide (0 < w.l))

def mag (w : Wd) : Int := w.h * 18446744073709551616 + w.l

def mkW (n : Bool) (m : Int) : Wd := ⟨n && decide (0 < m), m / 18446744073709551616, m % 18446744073709551616⟩

def zeroW : Wd := ⟨false, 0, 0⟩

theorem mkW_wf {n : Bool} {m : Int} (h0 : 0 ≤ m) (h1 : m < 340282366920938463463374607431768211456) : wfU (mkW n m) := by
  unfold wfU mkW; simp only; omega

theorem mkW_mag {n : Bool} {m : Int} : mag (mkW n m) = m := by unfold mag mkW; simp only; omega

theorem mkW_ok {n : Bool} {m : Int} (h0 : 0 ≤ m) : wok (mkW n m) = decide (m < 170141183460469231731687303715884105728) := by
  unfold wok mkW
  simp only
  by_cases h : m < 170141183460469231731687303715884105728
  · have e : m / 18446744073709551616 < 9223372036854775808 := by omega
    rw [decide_eq_true h, decide_eq_true e]
    by_cases hz : 0 < m
    · by_cases h2 : 0 < m / 18446744073709551616
      · simp [h2]
      · have : 0 < m % 18446744073709551616 := by omega
        simp [this]
    · simp [hz]
  · have e : ¬ m / 18446744073709551616 < 9223372036854775808 := by omega
    rw [decide_eq_false h, decide_eq_false e]; rfl

theorem R_impl_size (n : Int) (h : inI n) : RUN T k_impl_size [iv n] = some ([uv n.natAbs], []) := by
  refine RUN_W T_impl_size rfl ?_
  obtain ⟨h0, h1⟩ := h
  simp [k_impl_size_ic, k_impl_size_rv]
  refine Br_i (fun h => ?_) (fun h => ?_) <;> simp at h <;> simp [wu64] <;> omega

theorem R_spec_l3Abs (n : Int) (h : inI n) : RUN T k_spec_l3Abs [iv n] = some ([uv n.natAbs], []) := by
  refine RUN_W T_spec_l3Abs rfl ?_
  obtain ⟨h0, h1⟩ := h
  have e1 : n < 0 → IntKind.i64.wrap (n + 1) = n + 1 := fun h => w64 (by omega) (by omega)
  have e2 : n < 0 → IntKind.i64.wrap (0 - (n + 1)) = 0 - (n + 1) := fun h => w64 (by omega) (by omega)
  simp [k_spec_l3Abs_ic, k_spec_l3Abs_rv]
  refine Br_i (fun h => ?_) (fun h => ?_) <;> simp at h
  · have e1 := e1 h
    have e2 := e2 h
    simp at e2
    simp [e1, e2, wu64]; omega
  · simp [wu64]; omega

theorem R_impl_wideOf (n : Bool) (h l : Int) : RUN T k_impl_wideOf [bv n, uv h, uv l] = some ([.agg (wd ⟨n && (decide (0 < h) || decide (0 < l)), h, l⟩)], []) := by
  refine RUN_W T_impl_wideOf rfl ?_
  cases n with
  | false => simp [k_impl_wideOf_ic, k_impl_wideOf_rv, wd]
  | true =>
    by_cases h1 : 0 < h
    · simp [k_impl_wideOf_ic, k_impl_wideOf_rv, wd, h1]
    · simp [k_impl_wideOf_ic, k_impl_wideOf_rv, wd, h1]

theorem R_impl_WideOk (w : Wd) : RUN T k_impl_WideOk [.agg (wd w)] = some ([bv (wok w)], []) := by
  refine RUN_W T_impl_WideOk rfl ?_
  obtain ⟨n, h, l⟩ := w
  unfold wok
  by_cases h1 : h < 9223372036854775808
  · cases n with
    | false => simp [k_impl_WideOk_ic, k_impl_WideOk_rv, wd, h1]
    | true =>
      by_cases h2 : 0 < h
      · simp [k_impl_WideOk_ic, k_impl_WideOk_rv, wd, h1, h2]
      · simp [k_impl_WideOk_ic, k_impl_WideOk_rv, wd, h1, h2]
  · simp [k_impl_WideOk_ic, k_impl_WideOk_rv, wd, h1]

theorem R_spec_WideOk (w : Wd) : RUN T k_spec_WideOk [.agg (wd w)] = some ([bv (wok w)], []) := by
  refine RUN_W T_spec_WideOk rfl ?_
  obtain ⟨n, h, l⟩ := w
  unfold wok
  by_cases h1 : h < 9223372036854775808
  · cases n with
    | false => simp [k_spec_WideOk_ic, k_spec_WideOk_rv, wd, h1]
    | true =>
      by_cases h2 : 0 < h
      · simp [k_spec_WideOk_ic, k_spec_WideOk_rv, wd, h1, h2]
      · simp [k_spec_WideOk_ic, k_spec_WideOk_rv, wd, h1, h2]
  · simp [k_spec_WideOk_ic, k_spec_WideOk_rv, wd, h1]

theorem R_spec_l3Zero (w : Wd) : RUN T k_spec_l3Zero [.agg (wd w)] = some ([bv (decide (w.h = 0) && decide (w.l = 0))], []) := by
  refine RUN_W T_spec_l3Zero rfl ?_
  by_cases h1 : w.h = 0
  · simp [k_spec_l3Zero_ic, k_spec_l3Zero_rv, wd, h1]
  · simp [k_spec_l3Zero_ic, k_spec_l3Zero_rv, wd, h1]

def sgnI (a b : Int) : Int := if a < b then -1 else if b < a then 1 else 0

theorem R_cmp_isNaN_uint64 (x : Int) : RUN T k_cmp_isNaN_uint64_ [uv x] = some ([bv false], []) := by
  refine RUN_W T_cmp_isNaN_uint64_ rfl ?_
  simp [k_cmp_isNaN_uint64__ic, k_cmp_isNaN_uint64__rv]

theorem R_cmp_Compare_uint64 (x y : Int) : RUN T k_cmp_Compare_uint64_ [uv x, uv y] = some ([iv (sgnI x y)], []) := by
  refine RUN_W T_cmp_Compare_uint64_ rfl ?_
  have e1 := R_cmp_isNaN_uint64 x
  have e2 := R_cmp_isNaN_uint64 y
  unfold sgnI
  by_cases h1 : x < y
  · simp [k_cmp_Compare_uint64__ic, k_cmp_Compare_uint64__rv, e1, e2, h1]
  · by_cases h2 : y < x
    · simp [k_cmp_Compare_uint64__ic, k_cmp_Compare_uint64__rv, e1, e2, h1, h2]
    · simp [k_cmp_Compare_uint64__ic, k_cmp_Compare_uint64__rv, e1, e2, h1, h2]

theorem R_cmp_Or_int2 (x y : Int) : RUN T k_cmp_Or_int_ [.sl 1 [[iv x], [iv y]]] = some ([iv (if x = 0 then y else x)], []) := by
  refine RUN_W T_cmp_Or_int_ rfl ?_
  simp [k_cmp_Or_int__ic, k_cmp_Or_int__rv]
  refine W_loop (fun n st => ∃ i : Nat, i + n = 2 ∧ (1 ≤ i → x = 0) ∧ (2 ≤ i → y = 0) ∧ st.V 3 = iv 0 ∧ st.V 6 = .sl 1 [[iv x], [iv y]] ∧ st.V 7 = iv 2 ∧ st.V 8 = iv i) ?_ 2 _ ⟨0, by simp⟩
  rintro n st ⟨i, hi, hx, hy, v3, v6, v7, v8⟩
  simp [k_cmp_Or_int__b0, v7, v8]
  have h3 : i = 0 ∨ i = 1 ∨ i = 2 := by omega
  rcases h3 with rfl | rfl | rfl
  · have hw : IntKind.i64.wrap 1 = 1 := w64 (by omega) (by omega)
    by_cases h : x = 0
    · simp [v3, v6, v7, v8, h, hw]
      exact Rnd_n (n - 1) (by omega) ⟨1, by omega, fun _ => h, by simp, by simp [v3], by simp [v6, h], by simp [v7], by simp⟩
    · simp [v3, v6, v7, v8, h]
  · have hx := hx (by omega)
    have hw : IntKind.i64.wrap 2 = 2 := w64 (by omega) (by omega)
    by_cases h : y = 0
    · simp [v3, v6, v7, v8, h, hx, hw]
      exact Rnd_n (n - 1) (by omega) ⟨2, by omega, fun _ => hx, fun _ => h, by simp [v3], by simp [v6, h, hx], by simp [v7], by simp⟩
    · simp [v3, v6, v7, v8, h, hx]
  · have hx := hx (by omega)
    have hy := hy (by omega)
    simp [v3, hx, hy]

def ordW (a b : Wd) : Int := if sgnI a.h b.h = 0 then sgnI a.l b.l else sgnI a.h b.h

theorem ordW_mag {a b : Wd} (ha : wfU a) (hb : wfU b) : ordW a b = sgnI (mag a) (mag b) := by
  obtain ⟨_, _, _, _⟩ := ha
  obtain ⟨_, _, _, _⟩ := hb
  unfold ordW sgnI mag
  split <;> split <;> split <;> (try split) <;> (try split) <;> omega

theorem R_impl_compareSizes (a b : Wd) : RUN T k_impl_compareSizes [.agg (wd a), .agg (wd b)] = some ([iv (ordW a b)], []) := by
  refine RUN_W T_impl_compareSizes rfl ?_
  have e1 := R_cmp_Compare_uint64 a.h b.h
  have e2 := R_cmp_Compare_uint64 a.l b.l
  have e3 := R_cmp_Or_int2 (sgnI a.h b.h) (sgnI a.l b.l)
  simp [k_impl_compareSizes_ic, k_impl_compareSizes_rv, wd, e1, e2, e3, ordW]

theorem R_spec_l3Order (a b : Wd) : RUN T k_spec_l3Order [.agg (wd a), .agg (wd b)] = some ([iv (ordW a b)], []) := by
  refine RUN_W T_spec_l3Order rfl ?_
  unfold ordW sgnI
  by_cases h1 : a.h < b.h
  · simp [k_spec_l3Order_ic, k_spec_l3Order_rv, wd, h1]
  · by_cases h2 : b.h < a.h
    · have h3 : ¬ a.h = b.h := by omega
      simp [k_spec_l3Order_ic, k_spec_l3Order_rv, wd, h1, h2, h3]
    · have h3 : a.h = b.h := by omega
      by_cases h4 : a.l < b.l
      · simp [k_spec_l3Order_ic, k_spec_l3Order_rv, wd, h3, h4]
      · by_cases h5 : b.l < a.l
        · simp [k_spec_l3Order_ic, k_spec_l3Order_rv, wd, h3, h4, h5]
        · simp [k_spec_l3Order_ic, k_spec_l3Order_rv, wd, h3, h4, h5]

theorem natAbs_b {a : Int} (h : inI a) : 0 ≤ (a.natAbs : Int) ∧ (a.natAbs : Int) ≤ 9223372036854775808 := by
  obtain ⟨h0, h1⟩ := h; omega

/-- What a number is worth. -/
def valW (w : Wd) : Int := if w.n then -mag w else mag w

def sumW (a b : Wd) : Wd × Bool :=
  if wok a && wok b then
    if ((valW a + valW b).natAbs : Int) < 170141183460469231731687303715884105728 then (mkW (decide (valW a + valW b < 0)) (valW a + valW b).natAbs, true) else (zeroW, false)
  else (zeroW, false)

theorem wok_mag {w : Wd} (h : wfU w) (hk : wok w = true) : 0 ≤ mag w ∧ mag w < 170141183460469231731687303715884105728 ∧ (w.n = true → 0 < mag w) := by
  obtain ⟨h0, h1, h2, h3⟩ := h
  unfold wok at hk
  simp only [Bool.and_eq_true, Bool.or_eq_true, Bool.not_eq_true', decide_eq_true_eq] at hk
  unfold mag
  obtain ⟨k1, k2⟩ := hk
  refine ⟨by omega, by omega, fun hn => ?_⟩
  rw [hn] at k2
  rcases k2 with (k2 | k2) | k2
  · cases k2
  · omega
  · omega

theorem add_facts (a b : Wd) (ha : wfU a) (hb : wfU b) (h : mag a + mag b < 340282366920938463463374607431768211456) : ∃ c d : Int,
    RUN T k_math_bits_Add64 [uv a.l, uv b.l, uv 0] = some ([uv ((mag a + mag b) % 18446744073709551616), uv c], []) ∧ RUN T k_math_bits_Add64 [uv a.h, uv b.h, uv c] = some ([uv ((mag a + mag b) / 18446744073709551616), uv d], []) := by
  obtain ⟨a0, a1, a2, a3⟩ := ha
  obtain ⟨b0, b1, b2, b3⟩ := hb
  have e1 := RUN_add64 T_math_bits_Add64 (x := a.l) (y := b.l) (c := 0) a2 b2 (by decide) (by decide)
  have e2 := RUN_add64 T_math_bits_Add64 (x := a.h) (y := b.h) (c := (a.l + b.l + 0) / 18446744073709551616) a0 b0 (by omega) (by omega)
  have f1 : (a.l + b.l + 0) % 18446744073709551616 = (mag a + mag b) % 18446744073709551616 := by unfold mag; omega
  have f2 : (a.h + b.h + (a.l + b.l + 0) / 18446744073709551616) % 18446744073709551616 = (mag a + mag b) / 18446744073709551616 := by unfold mag at *; omega
  rw [f1] at e1
  rw [f2] at e2
  exact ⟨_, _, e1, e2⟩

theorem sub_facts (a b : Wd) (ha : wfU a) (hb : wfU b) (h : mag b ≤ mag a) : ∃ c d : Int,
    RUN T k_math_bits_Sub64 [uv a.l, uv b.l, uv 0] = some ([uv ((mag a - mag b) % 18446744073709551616), uv c], []) ∧ RUN T k_math_bits_Sub64 [uv a.h, uv b.h, uv c] = some ([uv ((mag a - mag b) / 18446744073709551616), uv d], []) := by
  obtain ⟨a0, a1, a2, a3⟩ := ha
  obtain ⟨b0, b1, b2, b3⟩ := hb
  have e1 := RUN_sub64 T_math_bits_Sub64 (x := a.l) (y := b.l) (c := 0) a2 b2 a3 b3 (by decide) (by decide)
  have e2 := RUN_sub64 T_math_bits_Sub64 (x := a.h) (y := b.h) (c := if a.l < b.l + 0 then 1 else 0) a0 b0 a1 b1 (by split <;> omega) (by split <;> omega)
  have f1 : (a.l - b.l - 0) % 18446744073709551616 = (mag a - mag b) % 18446744073709551616 := by unfold mag; omega
  have f2 : (a.h - b.h - (if a.l < b.l + 0 then 1 else 0)) % 18446744073709551616 = (mag a - mag b) / 18446744073709551616 := by
    unfold mag at *
    split <;> omega
  rw [f1] at e1
  rw [f2] at e2
  exact ⟨_, _, e1, e2⟩

theorem wideOf_mk {n : Bool} {m : Int} (h : 0 ≤ m) : RUN T k_impl_wideOf [bv n, uv (m / 18446744073709551616), uv (m % 18446744073709551616)] = some ([.agg (wd (mkW n m))], []) := by
  rw [R_impl_wideOf]
  have : (⟨n && (decide (0 < m / 18446744073709551616) || decide (0 < m % 18446744073709551616)), m / 18446744073709551616, m % 18446744073709551616⟩ : Wd) = mkW n m := by
    unfold mkW
    congr 2
    rw [Bool.eq_iff_iff]; simp; omega
  rw [this]

theorem R_impl_AddWide (a b : Wd) (ha : wfU a) (hb : wfU b) : RUN T k_impl_AddWide [.agg (wd a), .agg (wd b)] = some ([.agg (wd (sumW a b).1), bv (sumW a b).2], []) := by
  refine RUN_W T_impl_AddWide rfl ?_
  have ea := R_impl_WideOk a
  have eb := R_impl_WideOk b
  cases ka : wok a with
  | false =>
    have es : sumW a b = (zeroW, false) := by unfold sumW; simp [ka]
    rw [es]; rw [ka] at ea
    simp only [wd] at ea
    simp [k_impl_AddWide_ic, k_impl_AddWide_rv, wd, ea, zeroW]
  | true =>
    cases kb : wok b with
    | false =>
      have es : sumW a b = (zeroW, false) := by unfold sumW; simp [kb]
      rw [es]; rw [ka] at ea; rw [kb] at eb
      simp only [wd] at ea eb
      simp [k_impl_AddWide_ic, k_impl_AddWide_rv, wd, ea, eb, zeroW]
    | true =>
      obtain ⟨ma0, ma1, ma2⟩ := wok_mag ha ka
      obtain ⟨mb0, mb1, mb2⟩ := wok_mag hb kb
      rw [ka] at ea; rw [kb] at eb
      by_cases hn : a.n = b.n
      · obtain ⟨c, d, f1, f2⟩ := add_facts a b ha hb (by omega)
        have f3 := wideOf_mk (n := a.n) (m := mag a + mag b) (by omega)
        have f4 := R_impl_WideOk (mkW a.n (mag a + mag b))
        rw [mkW_ok (by omega)] at f4
        have es : sumW a b = if mag a + mag b < 170141183460469231731687303715884105728 then (mkW a.n (mag a + mag b), true) else (zeroW, false) := by
          unfold sumW valW
          rw [ka, kb, ← hn]
          simp only [Bool.and_self, if_true]
          cases h : a.n with
          | true =>
            have e1 : (-mag a + -mag b).natAbs = mag a + mag b := by omega
            have e2 : -mag a + -mag b < 0 := by have := ma2 h; omega
            simp only [if_true, e1, decide_eq_true e2]
          | false =>
            have e1 : ((mag a + mag b).natAbs : Int) = mag a + mag b := by omega
            have e2 : ¬ mag a + mag b < 0 := by omega
            simp only [Bool.false_eq_true, if_false, e1, decide_eq_false e2]
        rw [es]
        generalize hm : mag a + mag b = m at *
        generalize mkW a.n m = w at *
        generalize m / 18446744073709551616 = hi at *
        generalize m % 18446744073709551616 = lo at *
        simp only [wd] at ea eb f3 f4 ⊢
        rw [hn] at ea f3
        by_cases hk : m < 170141183460469231731687303715884105728
        · rw [decide_eq_true hk] at f4
          rw [if_pos hk]
          simp [k_impl_AddWide_ic, k_impl_AddWide_rv, ea, eb, hn, f1, f2, f3, f4]
        · rw [decide_eq_false hk] at f4
          rw [if_neg hk]
          simp [k_impl_AddWide_ic, k_impl_AddWide_rv, ea, eb, hn, f1, f2, f3, f4, zeroW]
      · have ho := R_impl_compareSizes a b
        rw [ordW_mag ha hb] at ho
        have es : sumW a b = (mkW (if mag a < mag b then b.n else a.n) (if mag a < mag b then mag b - mag a else mag a - mag b), true) := by
          have gen : ∀ (n : Bool) (m : Int), ((valW a + valW b).natAbs : Int) = m → m < 170141183460469231731687303715884105728 → (decide (valW a + valW b < 0) && decide (0 < m)) = (n && decide (0 < m)) → sumW a b = (mkW n m, true) := by
            intro n m h1 h2 h3
            unfold sumW
            rw [ka, kb, h1]
            simp only [Bool.and_self, if_true, if_pos h2]
            unfold mkW
            rw [h3]
          unfold valW at gen
          cases h : a.n <;> cases h' : b.n <;> simp only [h, h'] at gen hn ⊢
          · exact (hn trivial).elim
          · by_cases hl : mag a < mag b
            · rw [if_pos hl, if_pos hl]
              exact gen _ _ (by simp; omega) (by omega) (by rw [Bool.eq_iff_iff]; simp; omega)
            · rw [if_neg hl, if_neg hl]
              exact gen _ _ (by simp; omega) (by omega) (by rw [Bool.eq_iff_iff]; simp; omega)
          · by_cases hl : mag a < mag b
            · rw [if_pos hl, if_pos hl]
              exact gen _ _ (by simp; omega) (by omega) (by rw [Bool.eq_iff_iff]; simp; omega)
            · rw [if_neg hl, if_neg hl]
              exact gen _ _ (by simp; omega) (by omega) (by rw [Bool.eq_iff_iff]; simp; omega)
          · exact (hn trivial).elim
        rw [es]
        have hnb : (a.n == b.n) = false := by cases h : a.n <;> cases h' : b.n <;> simp [h, h'] at hn ⊢
        by_cases hl : mag a < mag b
        · obtain ⟨c, d, f1, f2⟩ := sub_facts b a hb ha (by omega)
          have f3 := wideOf_mk (n := b.n) (m := mag b - mag a) (by omega)
          have hs : sgnI (mag a) (mag b) = -1 := by unfold sgnI; rw [if_pos hl]
          rw [hs] at ho
          rw [if_pos hl, if_pos hl]
          generalize mag b - mag a = m at *
          generalize mkW b.n m = w at *
          generalize m / 18446744073709551616 = hi at *
          generalize m % 18446744073709551616 = lo at *
          simp only [wd] at ea eb f3 ho ⊢
          simp [k_impl_AddWide_ic, k_impl_AddWide_rv, ea, eb, hnb, ho, f1, f2, f3]
        · obtain ⟨c, d, f1, f2⟩ := sub_facts a b ha hb (by omega)
          have f3 := wideOf_mk (n := a.n) (m := mag a - mag b) (by omega)
          have hs : ¬ sgnI (mag a) (mag b) < 0 := by unfold sgnI; rw [if_neg hl]; split <;> omega
          rw [if_neg hl, if_neg hl]
          generalize mag a - mag b = m at *
          generalize mkW a.n m = w at *
          generalize m / 18446744073709551616 = hi at *
          generalize m % 18446744073709551616 = lo at *
          generalize sgnI (mag a) (mag b) = sg at *
          simp only [wd] at ea eb f3 ho ⊢
          simp [k_impl_AddWide_ic, k_impl_AddWide_rv, ea, eb, hnb, ho, hs, f1, f2, f3]

theorem sumW_same {a b : Wd} (ha : wfU a) (hb : wfU b) (ka : wok a = true) (kb : wok b = true) (hn : a.n = b.n) : sumW a b = if mag a + mag b < 170141183460469231731687303715884105728 then (mkW a.n (mag a + mag b), true) else (zeroW, false) := by
  obtain ⟨ma0, ma1, ma2⟩ := wok_mag ha ka
  obtain ⟨mb0, mb1, mb2⟩ := wok_mag hb kb
  unfold sumW valW
  rw [ka, kb, ← hn]
  simp only [Bool.and_self, if_true]
  cases h : a.n with
  | true =>
    have e1 : (-mag a + -mag b).natAbs = mag a + mag b := by omega
    have e2 : -mag a + -mag b < 0 := by have := ma2 h; omega
    simp only [if_true, e1, decide_eq_true e2]
  | false =>
    have e1 : ((mag a + mag b).natAbs : Int) = mag a + mag b := by omega
    have e2 : ¬ mag a + mag b < 0 := by omega
    simp only [Bool.false_eq_true, if_false, e1, decide_eq_false e2]

theorem sumW_diff {a b : Wd} (ha : wfU a) (hb : wfU b) (ka : wok a = true) (kb : wok b = true) (hn : ¬ a.n = b.n) : sumW a b = (mkW (if mag a < mag b then b.n else a.n) (if mag a < mag b then mag b - mag a else mag a - mag b), true) := by
  obtain ⟨ma0, ma1, ma2⟩ := wok_mag ha ka
  obtain ⟨mb0, mb1, mb2⟩ := wok_mag hb kb
  have gen : ∀ (n : Bool) (m : Int), ((valW a + valW b).natAbs : Int) = m → m < 170141183460469231731687303715884105728 → (decide (valW a + valW b < 0) && decide (0 < m)) = (n && decide (0 < m)) → sumW a b = (mkW n m, true) := by
    intro n m h1 h2 h3
    unfold sumW
    rw [ka, kb, h1]
    simp only [Bool.and_self, if_true, if_pos h2]
    unfold mkW
    rw [h3]
  unfold valW at gen
  cases h : a.n <;> cases h' : b.n <;> simp only [h, h'] at gen hn ⊢
  · exact (hn trivial).elim
  · by_cases hl : mag a < mag b
    · rw [if_pos hl, if_pos hl]
      exact gen _ _ (by simp; omega) (by omega) (by rw [Bool.eq_iff_iff]; simp; omega)
    · rw [if_neg hl, if_neg hl]
      exact gen _ _ (by simp; omega) (by omega) (by rw [Bool.eq_iff_iff]; simp; omega)
  · by_cases hl : mag a < mag b
    · rw [if_pos hl, if_pos hl]
      exact gen _ _ (by simp; omega) (by omega) (by rw [Bool.eq_iff_iff]; simp; omega)
    · rw [if_neg hl, if_neg hl]
      exact gen _ _ (by simp; omega) (by omega) (by rw [Bool.eq_iff_iff]; simp; omega)
  · exact (hn trivial).elim

theorem add_u (a b : Wd) (ha : wfU a) (hb : wfU b) (h : mag a + mag b < 340282366920938463463374607431768211456) :
    IntKind.u64.wrap (a.l + b.l) = (mag a + mag b) % 18446744073709551616 ∧ ((mag a + mag b) % 18446744073709551616 < a.l → IntKind.u64.wrap (IntKind.u64.wrap (a.h + b.h) + 1) = (mag a + mag b) / 18446744073709551616) ∧ (¬ (mag a + mag b) % 18446744073709551616 < a.l → IntKind.u64.wrap (a.h + b.h) = (mag a + mag b) / 18446744073709551616) := by
  obtain ⟨a0, a1, a2, a3⟩ := ha
  obtain ⟨b0, b1, b2, b3⟩ := hb
  unfold mag at *
  refine ⟨?_, fun h => ?_, fun h => ?_⟩ <;> simp only [wu64] at * <;> omega

theorem sub_u (a b : Wd) (ha : wfU a) (hb : wfU b) (h : mag b ≤ mag a) :
    IntKind.u64.wrap (a.l - b.l) = (mag a - mag b) % 18446744073709551616 ∧ (a.l < b.l → IntKind.u64.wrap (IntKind.u64.wrap (a.h - b.h) - 1) = (mag a - mag b) / 18446744073709551616) ∧ (¬ a.l < b.l → IntKind.u64.wrap (a.h - b.h) = (mag a - mag b) / 18446744073709551616) := by
  obtain ⟨a0, a1, a2, a3⟩ := ha
  obtain ⟨b0, b1, b2, b3⟩ := hb
  unfold mag at *
  refine ⟨?_, fun h => ?_, fun h => ?_⟩ <;> simp only [wu64] at * <;> omega

theorem R_spec_AddWide (a b : Wd) (ha : wfU a) (hb : wfU b) : RUN T k_spec_AddWide [.agg (wd a), .agg (wd b)] = some ([.agg (wd (sumW a b).1), bv (sumW a b).2], []) := by
  refine RUN_W T_spec_AddWide rfl ?_
  have ea := R_spec_WideOk a
  have eb := R_spec_WideOk b
  cases ka : wok a with
  | false =>
    have es : sumW a b = (zeroW, false) := by unfold sumW; simp [ka]
    rw [es]; rw [ka] at ea
    simp only [wd] at ea
    simp [k_spec_AddWide_ic, k_spec_AddWide_rv, wd, ea, zeroW]
  | true =>
    cases kb : wok b with
    | false =>
      have es : sumW a b = (zeroW, false) := by unfold sumW; simp [kb]
      rw [es]; rw [ka] at ea; rw [kb] at eb
      simp only [wd] at ea eb
      simp [k_spec_AddWide_ic, k_spec_AddWide_rv, wd, ea, eb, zeroW]
    | true =>
      obtain ⟨ma0, ma1, ma2⟩ := wok_mag ha ka
      obtain ⟨mb0, mb1, mb2⟩ := wok_mag hb kb
      rw [ka] at ea; rw [kb] at eb
      by_cases hn : a.n = b.n
      · obtain ⟨f1, f2, f3⟩ := add_u a b ha hb (by omega)
        have f4 := R_spec_WideOk (mkW a.n (mag a + mag b))
        rw [mkW_ok (by omega)] at f4
        rw [sumW_same ha hb ka kb hn]
        have e6 : mkW a.n (mag a + mag b) = ⟨a.n, (mag a + mag b) / 18446744073709551616, (mag a + mag b) % 18446744073709551616⟩ := by
          unfold mkW
          congr 1
          cases h : a.n with
          | false => rfl
          | true => have := ma2 h; simp; omega
        rw [e6] at f4 ⊢
        generalize hm : mag a + mag b = m at *
        generalize m / 18446744073709551616 = hi at *
        generalize m % 18446744073709551616 = lo at *
        simp only [wd] at ea eb f4 ⊢
        rw [hn] at ea f4
        by_cases hc : lo < a.l
        · have f2 := f2 hc
          by_cases hk : m < 170141183460469231731687303715884105728
          · rw [decide_eq_true hk] at f4
            rw [if_pos hk]
            simp [k_spec_AddWide_ic, k_spec_AddWide_rv, ea, eb, hn, hc, f1, f2, f4]
          · rw [decide_eq_false hk] at f4
            rw [if_neg hk]
            simp [k_spec_AddWide_ic, k_spec_AddWide_rv, ea, eb, hn, hc, f1, f2, f4, zeroW]
        · have f3 := f3 hc
          by_cases hk : m < 170141183460469231731687303715884105728
          · rw [decide_eq_true hk] at f4
            rw [if_pos hk]
            simp [k_spec_AddWide_ic, k_spec_AddWide_rv, ea, eb, hn, hc, f1, f3, f4]
          · rw [decide_eq_false hk] at f4
            rw [if_neg hk]
            simp [k_spec_AddWide_ic, k_spec_AddWide_rv, ea, eb, hn, hc, f1, f3, f4, zeroW]
      · have ho := R_spec_l3Order a b
        rw [ordW_mag ha hb] at ho
        rw [sumW_diff ha hb ka kb hn]
        have hnb : (a.n == b.n) = false := by cases h : a.n <;> cases h' : b.n <;> simp [h, h'] at hn ⊢
        by_cases hl : mag a < mag b
        · obtain ⟨f1, f2, f3⟩ := sub_u b a hb ha (by omega)
          have hz := R_spec_l3Zero ⟨b.n, (mag b - mag a) / 18446744073709551616, (mag b - mag a) % 18446744073709551616⟩
          have hs : sgnI (mag a) (mag b) = -1 := by unfold sgnI; rw [if_pos hl]
          rw [hs] at ho
          rw [if_pos hl, if_pos hl]
          have e6 : mkW b.n (mag b - mag a) = ⟨b.n, (mag b - mag a) / 18446744073709551616, (mag b - mag a) % 18446744073709551616⟩ := by
            unfold mkW
            congr 1
            rw [decide_eq_true (show 0 < mag b - mag a by omega), Bool.and_true]
          have e7 : (decide ((mag b - mag a) / 18446744073709551616 = 0) && decide ((mag b - mag a) % 18446744073709551616 = 0)) = false := by
            rw [Bool.eq_false_iff]; simp; omega
          simp only at hz
          rw [e7] at hz
          rw [e6]
          clear e6 e7
          generalize mag b - mag a = m at *
          generalize m / 18446744073709551616 = hi at *
          generalize m % 18446744073709551616 = lo at *
          simp only [wd] at ea eb ho hz ⊢
          by_cases hc : b.l < a.l
          · have f2 := f2 hc
            simp [k_spec_AddWide_ic, k_spec_AddWide_rv, ea, eb, hnb, ho, hc, f1, f2, hz]
          · have f3 := f3 hc
            simp [k_spec_AddWide_ic, k_spec_AddWide_rv, ea, eb, hnb, ho, hc, f1, f3, hz]
        · obtain ⟨f1, f2, f3⟩ := sub_u a b ha hb (by omega)
          have hz := R_spec_l3Zero ⟨a.n, (mag a - mag b) / 18446744073709551616, (mag a - mag b) % 18446744073709551616⟩
          have hs : ¬ sgnI (mag a) (mag b) < 0 := by unfold sgnI; rw [if_neg hl]; split <;> omega
          rw [if_neg hl, if_neg hl]
          generalize sgnI (mag a) (mag b) = sg at *
          by_cases h0 : mag a - mag b = 0
          · have e6 : mkW a.n (mag a - mag b) = ⟨false, (mag a - mag b) / 18446744073709551616, (mag a - mag b) % 18446744073709551616⟩ := by
              unfold mkW
              congr 1
              simp [h0]
            have e7 : (decide ((mag a - mag b) / 18446744073709551616 = 0) && decide ((mag a - mag b) % 18446744073709551616 = 0)) = true := by
              simp; omega
            simp only at hz
            rw [e7] at hz
            rw [e6]
            clear e6 e7 h0
            generalize mag a - mag b = m at *
            generalize m / 18446744073709551616 = hi at *
            generalize m % 18446744073709551616 = lo at *
            simp only [wd] at ea eb ho hz ⊢
            by_cases hc : a.l < b.l
            · have f2 := f2 hc
              simp [k_spec_AddWide_ic, k_spec_AddWide_rv, ea, eb, hnb, ho, hs, hc, f1, f2, hz]
            · have f3 := f3 hc
              simp [k_spec_AddWide_ic, k_spec_AddWide_rv, ea, eb, hnb, ho, hs, hc, f1, f3, hz]
          · have e6 : mkW a.n (mag a - mag b) = ⟨a.n, (mag a - mag b) / 18446744073709551616, (mag a - mag b) % 18446744073709551616⟩ := by
              unfold mkW
              congr 1
              rw [decide_eq_true (show 0 < mag a - mag b by omega), Bool.and_true]
            have e7 : (decide ((mag a - mag b) / 18446744073709551616 = 0) && decide ((mag a - mag b) % 18446744073709551616 = 0)) = false := by
              rw [Bool.eq_false_iff]; simp; omega
            simp only at hz
            rw [e7] at hz
            rw [e6]
            clear e6 e7 h0
            generalize mag a - mag b = m at *
            generalize m / 18446744073709551616 = hi at *
            generalize m % 18446744073709551616 = lo at *
            simp only [wd] at ea eb ho hz ⊢
            by_cases hc : a.l < b.l
            · have f2 := f2 hc
              simp [k_spec_AddWide_ic, k_spec_AddWide_rv, ea, eb, hnb, ho, hs, hc, f1, f2, hz]
            · have f3 := f3 hc
              simp [k_spec_AddWide_ic, k_spec_AddWide_rv, ea, eb, hnb, ho, hs, hc, f1, f3, hz]

theorem R_laws_eqWide (a b : Wd) : RUN T k_laws_eqWide [.agg (wd a), .agg (wd b)] = some ([bv (decide (a = b))], []) := by
  refine RUN_W T_laws_eqWide rfl ?_
  obtain ⟨an, ah, al⟩ := a
  obtain ⟨bn, bh, bl⟩ := b
  cases h1 : an == bn with
  | false =>
    have : ¬ an = bn := by simpa using h1
    simp [k_laws_eqWide_ic, k_laws_eqWide_rv, wd, h1, this]
  | true =>
    have : an = bn := by simpa using h1
    by_cases h2 : ah = bh
    · by_cases h3 : al = bl
      · simp [k_laws_eqWide_ic, k_laws_eqWide_rv, wd, this, h2, h3]
      · simp [k_laws_eqWide_ic, k_laws_eqWide_rv, wd, this, h2, h3]
    · simp [k_laws_eqWide_ic, k_laws_eqWide_rv, wd, this, h2]

def wideV (n : Int) : Wd := mkW (decide (n < 0)) n.natAbs

theorem wideV_eq {n : Int} (h : inI n) : wideV n = ⟨decide (n < 0), 0, n.natAbs⟩ := by
  obtain ⟨h0, h1⟩ := h
  unfold wideV mkW
  congr 1
  · rw [Bool.eq_iff_iff]; simp; omega
  · omega
  · omega

theorem wideV_wf {n : Int} (h : inI n) : wfU (wideV n) := by
  obtain ⟨h0, h1⟩ := h
  exact mkW_wf (by omega) (by omega)

theorem R_impl_WideOf (n : Int) (h : inI n) : RUN T k_impl_WideOf [iv n] = some ([.agg (wd (wideV n))], []) := by
  refine RUN_W T_impl_WideOf rfl ?_
  have e1 := R_impl_size n h
  have e2 := R_impl_wideOf (decide (n < 0)) 0 n.natAbs
  rw [wideV_eq h]
  have e3 : (decide (n < 0) && (decide (0 < (0 : Int)) || decide (0 < (n.natAbs : Int)))) = decide (n < 0) := by
    rw [Bool.eq_iff_iff]; simp; omega
  rw [e3] at e2
  simp only [wd] at e2 ⊢
  simp [k_impl_WideOf_ic, k_impl_WideOf_rv, e1, e2]

theorem R_spec_WideOf (n : Int) (h : inI n) : RUN T k_spec_WideOf [iv n] = some ([.agg (wd (wideV n))], []) := by
  refine RUN_W T_spec_WideOf rfl ?_
  have e1 := R_spec_l3Abs n h
  rw [wideV_eq h]
  simp [k_spec_WideOf_ic, k_spec_WideOf_rv, e1, wd]

/-- The largest of the sizes. -/
def maxA : List Int → Int → Int
  | [], a => a
  | x :: l, a => maxA l (max a x.natAbs)

def mostL (l : List Int) : Int := min (maxA l 0) 9223372036854775807

theorem drop_cons' {l : List Int} {i : Nat} {x : Int} (h : l[i]? = some x) : l.drop i = x :: l.drop (i + 1) := by
  have hlt : i < l.length := by
    rcases Nat.lt_or_ge i l.length with h' | h'
    · exact h'
    · rw [List.getElem?_eq_none (by omega)] at h; cases h
  rw [List.drop_eq_getElem_cons hlt]
  congr 1
  rw [List.getElem?_eq_getElem hlt] at h
  exact Option.some.inj h

theorem maxA_ge (l : List Int) : ∀ a, a ≤ maxA l a := by
  induction l with
  | nil => intro a; exact Int.le_refl _
  | cons x l ih => intro a; have := ih (max a x.natAbs); simp only [maxA]; omega

theorem mostL_b (l : List Int) : 0 ≤ mostL l ∧ mostL l ≤ 9223372036854775807 := by
  have := maxA_ge l 0
  unfold mostL; omega

theorem R_impl_MostOf (v : List Int) (hv : ∀ x ∈ v, inI x) (hl : v.length ≤ 9223372036854775807) : RUN T k_impl_MostOf [.sl 1 (ints v)] = some ([iv (mostL v)], []) := by
  refine RUN_W T_impl_MostOf rfl ?_
  simp [k_impl_MostOf_ic, k_impl_MostOf_rv]
  refine W_loop (fun n st => ∃ (i : Nat) (a : Int), i + n = v.length ∧ maxA (v.drop i) a = maxA v 0 ∧ st.V 3 = uv a ∧ st.V 6 = .sl 1 (ints v) ∧ st.V 7 = iv v.length ∧ st.V 8 = iv i) ?_ v.length _ ⟨0, 0, by simp⟩
  rintro n st ⟨i, a, hi, hm, v3, v6, v7, v8⟩
  simp [k_impl_MostOf_b0, v7, v8]
  refine Br_i (fun h => ?_) (fun h => ?_)
  · simp at h
    obtain ⟨x, hx⟩ : ∃ x, v[i]? = some x := ⟨_, List.getElem?_eq_getElem h⟩
    have hx' := ints_get hx
    have hxi := hv x (List.mem_of_getElem? hx)
    have hws := wS h hl
    have e1 := R_impl_size x hxi
    rw [drop_cons' hx, maxA] at hm
    simp [-getElem?_pos, v3, v6, v7, v8, hx', e1, hws]
    exact Rnd_n (n - 1) (by omega) ⟨i + 1, max a x.natAbs, by omega, hm, by simp, by simp [v6], by simp [v7], by simp⟩
  · simp at h
    have e1 : i = v.length := by omega
    rw [e1, List.drop_length, maxA] at hm
    obtain ⟨b0, b1⟩ := mostL_b v
    unfold mostL at *
    have hw : IntKind.i64.wrap (min a 9223372036854775807) = min a 9223372036854775807 := w64 (by omega) (by omega)
    rw [hm] at hw
    simp [v3, hw, hm]

theorem R_spec_MostOf (v : List Int) (hv : ∀ x ∈ v, inI x) (hl : v.length ≤ 9223372036854775807) : RUN T k_spec_MostOf [.sl 1 (ints v)] = some ([iv (mostL v)], []) := by
  refine RUN_W T_spec_MostOf rfl ?_
  simp [k_spec_MostOf_ic, k_spec_MostOf_rv]
  refine W_loop (fun n st => ∃ (i : Nat) (a : Int), i + n = v.length ∧ maxA (v.drop i) a = maxA v 0 ∧ a ≤ 9223372036854775807 ∧ st.V 3 = iv a ∧ st.V 0 = .sl 1 (ints v) ∧ st.V 4 = iv i) ?_ v.length _ ⟨0, 0, by simp⟩
  rintro n st ⟨i, a, hi, hm, ha, v3, v0, v4⟩
  simp [k_spec_MostOf_b0, v0, v4]
  refine Br_i (fun h => ?_) (fun h => ?_)
  · simp at h
    obtain ⟨x, hx⟩ : ∃ x, v[i]? = some x := ⟨_, List.getElem?_eq_getElem h⟩
    have hx' := ints_get hx
    have hxi := hv x (List.mem_of_getElem? hx)
    have hws := wS h hl
    rw [drop_cons' hx, maxA] at hm
    obtain ⟨x0, x1⟩ := hxi
    by_cases hmin : x = -9223372036854775808
    · have := maxA_ge (v.drop (i + 1)) (max a x.natAbs)
      have e : mostL v = 9223372036854775807 := by unfold mostL; omega
      simp [-getElem?_pos, v3, v0, v4, hx', hmin, e, h]
    · by_cases hneg : x < 0
      · have hw : IntKind.i64.wrap (-x) = -x := w64 (by omega) (by omega)
        have e2 : max a (-x) = max a (x.natAbs : Int) := by omega
        simp [-getElem?_pos, v3, v0, v4, hx', hmin, hneg, hws, h, hw, e2]
        exact Rnd_n (n - 1) (by omega) ⟨i + 1, max a x.natAbs, by omega, hm, by omega, by simp, by simp [v0], by simp⟩
      · have e2 : max a x = max a (x.natAbs : Int) := by omega
        simp [-getElem?_pos, v3, v0, v4, hx', hmin, hneg, hws, h, e2]
        exact Rnd_n (n - 1) (by omega) ⟨i + 1, max a x.natAbs, by omega, hm, by omega, by simp, by simp [v0], by simp⟩
  · simp at h
    have e1 : i = v.length := by omega
    rw [e1, List.drop_length, maxA] at hm
    have e : mostL v = a := by unfold mostL; omega
    simp [v3, e]

def scaleW (w : Wd) (k : Int) : Wd × Bool := if wok w = true ∧ mag w * k.natAbs < 170141183460469231731687303715884105728 then (mkW (w.n != decide (k < 0)) (mag w * k.natAbs), true) else (zeroW, false)

theorem scale_facts (w : Wd) (k : Int) (hw : wfU w) (hk : inI k) : ∃ p q : Int, w.h * k.natAbs = p ∧ w.l * k.natAbs = q ∧ 0 ≤ p ∧ 0 ≤ q ∧ q ≤ 170141183460469231722463931679029329920 ∧ mag w * k.natAbs = p * 18446744073709551616 + q := by
  obtain ⟨a0, a1, a2, a3⟩ := hw
  obtain ⟨k0, k1⟩ := natAbs_b hk
  refine ⟨_, _, rfl, rfl, Int.mul_nonneg a0 k0, Int.mul_nonneg a2 k0, Int.le_trans (Int.mul_le_mul (show w.l ≤ 18446744073709551615 by omega) k1 k0 (by decide)) (by decide), ?_⟩
  unfold mag
  rw [Int.add_mul, Int.mul_assoc, Int.mul_comm 18446744073709551616, ← Int.mul_assoc]

theorem scale_key (w : Wd) (k : Int) (ka : wok w = true) (p q : Int) (p0 : 0 ≤ p) (q0 : 0 ≤ q) (q1 : q ≤ 170141183460469231722463931679029329920) (hP : mag w * k.natAbs = p * 18446744073709551616 + q) :
    (scaleW w k = (zeroW, false) ∧ (0 < p / 18446744073709551616 ∨ 0 < (p % 18446744073709551616 + q / 18446744073709551616) / 18446744073709551616 ∨ wok ⟨(w.n != decide (k < 0)) && (decide (0 < (p % 18446744073709551616 + q / 18446744073709551616) % 18446744073709551616) || decide (0 < q % 18446744073709551616)), (p % 18446744073709551616 + q / 18446744073709551616) % 18446744073709551616, q % 18446744073709551616⟩ = false)) ∨
    (scaleW w k = (⟨(w.n != decide (k < 0)) && (decide (0 < (p % 18446744073709551616 + q / 18446744073709551616) % 18446744073709551616) || decide (0 < q % 18446744073709551616)), (p % 18446744073709551616 + q / 18446744073709551616) % 18446744073709551616, q % 18446744073709551616⟩, true) ∧ ¬ 0 < p / 18446744073709551616 ∧ ¬ 0 < (p % 18446744073709551616 + q / 18446744073709551616) / 18446744073709551616 ∧ wok ⟨(w.n != decide (k < 0)) && (decide (0 < (p % 18446744073709551616 + q / 18446744073709551616) % 18446744073709551616) || decide (0 < q % 18446744073709551616)), (p % 18446744073709551616 + q / 18446744073709551616) % 18446744073709551616, q % 18446744073709551616⟩ = true) := by
  by_cases hk : p * 18446744073709551616 + q < 170141183460469231731687303715884105728
  · right
    have e : (⟨(w.n != decide (k < 0)) && (decide (0 < (p % 18446744073709551616 + q / 18446744073709551616) % 18446744073709551616) || decide (0 < q % 18446744073709551616)), (p % 18446744073709551616 + q / 18446744073709551616) % 18446744073709551616, q % 18446744073709551616⟩ : Wd) = mkW (w.n != decide (k < 0)) (p * 18446744073709551616 + q) := by
      unfold mkW
      congr 1
      · congr 1
        rw [Bool.eq_iff_iff]; simp; omega
      · omega
      · omega
    rw [e, mkW_ok (by omega)]
    refine ⟨?_, by omega, by omega, decide_eq_true hk⟩
    unfold scaleW
    rw [hP, if_pos ⟨ka, hk⟩]
  · left
    refine ⟨?_, ?_⟩
    · unfold scaleW
      rw [hP, if_neg (fun h => hk h.2)]
    · by_cases h1 : 0 < p / 18446744073709551616
      · exact .inl h1
      · by_cases h2 : 0 < (p % 18446744073709551616 + q / 18446744073709551616) / 18446744073709551616
        · exact .inr (.inl h2)
        · refine .inr (.inr ?_)
          unfold wok
          rw [decide_eq_false (show ¬ (p % 18446744073709551616 + q / 18446744073709551616) % 18446744073709551616 < 9223372036854775808 by omega)]
          rfl

set_option maxHeartbeats 1000000 in
theorem R_impl_ScaleWide (w : Wd) (k : Int) (hw : wfU w) (hk : inI k) : RUN T k_impl_ScaleWide [.agg (wd w), iv k] = some ([.agg (wd (scaleW w k).1), bv (scaleW w k).2], []) := by
  refine RUN_W T_impl_ScaleWide rfl ?_
  have ea := R_impl_WideOk w
  cases ka : wok w with
  | false =>
    have es : scaleW w k = (zeroW, false) := by unfold scaleW; simp [ka]
    rw [es]; rw [ka] at ea
    simp only [wd] at ea
    simp [k_impl_ScaleWide_ic, k_impl_ScaleWide_rv, wd, ea, zeroW]
  | true =>
    rw [ka] at ea
    obtain ⟨a0, a1, a2, a3⟩ := hw
    obtain ⟨k0, k1⟩ := natAbs_b hk
    have e1 := R_impl_size k hk
    have e2 := R_math_bits_Mul64 w.h k.natAbs a0 a1 k0 (by omega)
    have e3 := R_math_bits_Mul64 w.l k.natAbs a2 a3 k0 (by omega)
    obtain ⟨p, q, hp, hq, p0, q0, q1, hP⟩ := scale_facts w k ⟨a0, a1, a2, a3⟩ hk
    rw [hp] at e2
    rw [hq] at e3
    have e4 := RUN_add64 T_math_bits_Add64 (x := p % 18446744073709551616) (y := q / 18446744073709551616) (c := 0) (by omega) (by omega) (by decide) (by decide)
    rw [Int.add_zero] at e4
    have e5 := R_impl_wideOf (w.n != decide (k < 0)) ((p % 18446744073709551616 + q / 18446744073709551616) % 18446744073709551616) (q % 18446744073709551616)
    have e6 := R_impl_WideOk ⟨(w.n != decide (k < 0)) && (decide (0 < (p % 18446744073709551616 + q / 18446744073709551616) % 18446744073709551616) || decide (0 < q % 18446744073709551616)), (p % 18446744073709551616 + q / 18446744073709551616) % 18446744073709551616, q % 18446744073709551616⟩
    have key := scale_key w k ka p q p0 q0 q1 hP
    generalize ((w.n != decide (k < 0)) && (decide (0 < (p % 18446744073709551616 + q / 18446744073709551616) % 18446744073709551616) || decide (0 < q % 18446744073709551616))) = sn at *
    generalize p / 18446744073709551616 = P1 at *
    generalize p % 18446744073709551616 = P2 at *
    generalize q / 18446744073709551616 = Q1 at *
    generalize q % 18446744073709551616 = Q2 at *
    generalize (P2 + Q1) / 18446744073709551616 = S1 at *
    generalize (P2 + Q1) % 18446744073709551616 = S2 at *
    generalize scaleW w k = r at *
    generalize wok ⟨sn, S2, Q2⟩ = o at *
    obtain ⟨wn, wh, wl⟩ := w
    simp only [wd] at ea e5 e6 ⊢
    simp only at e2 e3
    rcases key with ⟨rfl, c | c | rfl⟩ | ⟨rfl, c1, c2, rfl⟩
    · cases wn <;> by_cases sb : k < 0 <;> simp [sb] at e5 <;> simp [k_impl_ScaleWide_ic, k_impl_ScaleWide_rv, ea, e1, e2, e3, e4, e5, sb, c, zeroW]
    · by_cases c' : 0 < P1
      · cases wn <;> by_cases sb : k < 0 <;> simp [sb] at e5 <;> simp [k_impl_ScaleWide_ic, k_impl_ScaleWide_rv, ea, e1, e2, e3, e4, e5, sb, c', zeroW]
      · cases wn <;> by_cases sb : k < 0 <;> simp [sb] at e5 <;> simp [k_impl_ScaleWide_ic, k_impl_ScaleWide_rv, ea, e1, e2, e3, e4, e5, sb, c', c, zeroW]
    · by_cases c' : 0 < P1
      · cases wn <;> by_cases sb : k < 0 <;> simp [sb] at e5 <;> simp [k_impl_ScaleWide_ic, k_impl_ScaleWide_rv, ea, e1, e2, e3, e4, e5, sb, c', zeroW]
      · by_cases c : 0 < S1
        · cases wn <;> by_cases sb : k < 0 <;> simp [sb] at e5 <;> simp [k_impl_ScaleWide_ic, k_impl_ScaleWide_rv, ea, e1, e2, e3, e4, e5, sb, c', c, zeroW]
        · cases wn <;> by_cases sb : k < 0 <;> simp [sb] at e5 <;> simp [k_impl_ScaleWide_ic, k_impl_ScaleWide_rv, ea, e1, e2, e3, e4, e5, e6, sb, c', c, zeroW]
    · cases wn <;> by_cases sb : k < 0 <;> simp [sb] at e5 <;> simp [k_impl_ScaleWide_ic, k_impl_ScaleWide_rv, ea, e1, e2, e3, e4, e5, e6, sb, c1, c2]

set_option maxHeartbeats 1000000 in
theorem R_spec_ScaleWide (w : Wd) (k : Int) (hw : wfU w) (hk : inI k) : RUN T k_spec_ScaleWide [.agg (wd w), iv k] = some ([.agg (wd (scaleW w k).1), bv (scaleW w k).2], []) := by
  refine RUN_W T_spec_ScaleWide rfl ?_
  have ea := R_spec_WideOk w
  cases ka : wok w with
  | false =>
    have es : scaleW w k = (zeroW, false) := by unfold scaleW; simp [ka]
    rw [es]; rw [ka] at ea
    simp only [wd] at ea
    simp [k_spec_ScaleWide_ic, k_spec_ScaleWide_rv, wd, ea, zeroW]
  | true =>
    rw [ka] at ea
    obtain ⟨a0, a1, a2, a3⟩ := hw
    obtain ⟨k0, k1⟩ := natAbs_b hk
    have e1 := R_spec_l3Abs k hk
    have e2 := R_spec_l3Product w.h k.natAbs a0 a1 k0 (by omega)
    have e3 := R_spec_l3Product w.l k.natAbs a2 a3 k0 (by omega)
    obtain ⟨p, q, hp, hq, p0, q0, q1, hP⟩ := scale_facts w k ⟨a0, a1, a2, a3⟩ hk
    rw [hp] at e2
    rw [hq] at e3
    have e4 := R_spec_l3Zero ⟨w.n != decide (k < 0), (p % 18446744073709551616 + q / 18446744073709551616) % 18446744073709551616, q % 18446744073709551616⟩
    have e5 : (decide (0 < (p % 18446744073709551616 + q / 18446744073709551616) % 18446744073709551616) || decide (0 < q % 18446744073709551616)) = !(decide ((p % 18446744073709551616 + q / 18446744073709551616) % 18446744073709551616 = 0) && decide (q % 18446744073709551616 = 0)) := by
      rw [Bool.eq_iff_iff]; simp; omega
    have e6 := R_spec_WideOk ⟨(w.n != decide (k < 0)) && (decide (0 < (p % 18446744073709551616 + q / 18446744073709551616) % 18446744073709551616) || decide (0 < q % 18446744073709551616)), (p % 18446744073709551616 + q / 18446744073709551616) % 18446744073709551616, q % 18446744073709551616⟩
    have e7 : 0 < (p % 18446744073709551616 + q / 18446744073709551616) / 18446744073709551616 ↔ (p % 18446744073709551616 + q / 18446744073709551616) % 18446744073709551616 < p % 18446744073709551616 := by omega
    have e8 := wu64 (p % 18446744073709551616 + q / 18446744073709551616)
    have key := scale_key w k ka p q p0 q0 q1 hP
    rw [e7] at key
    rw [e5] at key e6
    clear e7 e5
    simp only at e4
    generalize (decide ((p % 18446744073709551616 + q / 18446744073709551616) % 18446744073709551616 = 0) && decide (q % 18446744073709551616 = 0)) = z at *
    generalize p / 18446744073709551616 = P1 at *
    generalize p % 18446744073709551616 = P2 at *
    generalize q / 18446744073709551616 = Q1 at *
    generalize q % 18446744073709551616 = Q2 at *
    generalize (P2 + Q1) % 18446744073709551616 = S2 at *
    generalize scaleW w k = r at *
    generalize hsn : ((w.n != decide (k < 0)) && !z) = sn at *
    generalize wok ⟨sn, S2, Q2⟩ = o at *
    obtain ⟨wn, wh, wl⟩ := w
    simp only [wd] at ea e4 e6 ⊢
    simp only at e2 e3 hsn
    rcases key with ⟨rfl, c | c | rfl⟩ | ⟨rfl, c1, c2, rfl⟩
    · cases wn <;> by_cases sb : k < 0 <;> cases z <;> simp [sb] at e4 <;> simp [k_spec_ScaleWide_ic, k_spec_ScaleWide_rv, ea, e1, e2, e3, e4, e8, sb, c, zeroW]
    · by_cases c' : 0 < P1
      · cases wn <;> by_cases sb : k < 0 <;> cases z <;> simp [sb] at e4 <;> simp [k_spec_ScaleWide_ic, k_spec_ScaleWide_rv, ea, e1, e2, e3, e4, e8, sb, c', zeroW]
      · cases wn <;> by_cases sb : k < 0 <;> cases z <;> simp [sb] at e4 <;> simp [k_spec_ScaleWide_ic, k_spec_ScaleWide_rv, ea, e1, e2, e3, e4, e8, sb, c', c, zeroW]
    · by_cases c' : 0 < P1
      · cases wn <;> by_cases sb : k < 0 <;> cases z <;> simp [sb] at e4 <;> simp [k_spec_ScaleWide_ic, k_spec_ScaleWide_rv, ea, e1, e2, e3, e4, e8, sb, c', zeroW]
      · by_cases c : S2 < P2
        · cases wn <;> by_cases sb : k < 0 <;> cases z <;> simp [sb] at e4 <;> simp [k_spec_ScaleWide_ic, k_spec_ScaleWide_rv, ea, e1, e2, e3, e4, e8, sb, c', c, zeroW]
        · cases wn <;> by_cases sb : k < 0 <;> cases z <;> simp [sb] at e4 hsn <;> subst hsn <;> simp [k_spec_ScaleWide_ic, k_spec_ScaleWide_rv, ea, e1, e2, e3, e4, e6, e8, sb, c', c, zeroW]
    · cases wn <;> by_cases sb : k < 0 <;> cases z <;> simp [sb] at e4 hsn <;> subst hsn <;> simp [k_spec_ScaleWide_ic, k_spec_ScaleWide_rv, ea, e1, e2, e3, e4, e6, e8, sb, c1, c2]

def topW (v : List Int) : Wd := mkW false (mostL v + 1)

theorem topW_wf (v : List Int) : wfU (topW v) := mkW_wf (by have := mostL_b v; omega) (by have := mostL_b v; omega)

def roomW (v : List Int) : Wd × Bool := scaleW (topW v) (4 * v.length)

theorem topW_eq (v : List Int) : sumW (wideV (mostL v)) (wideV 1) = (topW v, true) := by
  obtain ⟨b0, b1⟩ := mostL_b v
  have e1 : wok (wideV (mostL v)) = true := by
    unfold wideV; rw [mkW_ok (by omega)]; exact decide_eq_true (by omega)
  have e2 : wok (wideV 1) = true := by decide
  have e3 : valW (wideV (mostL v)) = mostL v := by
    unfold valW wideV
    rw [mkW_mag]
    have : (mkW (decide (mostL v < 0)) (mostL v).natAbs).n = false := by unfold mkW; rw [decide_eq_false (show ¬ mostL v < 0 by omega)]; rfl
    rw [this]; simp; omega
  have e4 : valW (wideV 1) = 1 := by decide
  unfold sumW
  rw [e1, e2, e3, e4]
  have e5 : ((mostL v + 1).natAbs : Int) = mostL v + 1 := by omega
  rw [e5, if_pos (show mostL v + 1 < 170141183460469231731687303715884105728 by omega), decide_eq_false (show ¬ mostL v + 1 < 0 by omega)]
  rfl

theorem R_impl_LossRoom (v : List Int) (hv : ∀ x ∈ v, inI x) (hl : v.length ≤ 1048576) : RUN T k_impl_LossRoom [.sl 1 (ints v)] = some ([.agg (wd (roomW v).1), bv (roomW v).2], []) := by
  refine RUN_W T_impl_LossRoom rfl ?_
  obtain ⟨b0, b1⟩ := mostL_b v
  have e1 := R_impl_MostOf v hv (by omega)
  have e2 := R_impl_WideOf (mostL v) ⟨by omega, by omega⟩
  have e3 := R_impl_WideOf 1 ⟨by omega, by omega⟩
  have e4 := R_impl_AddWide (wideV (mostL v)) (wideV 1) (wideV_wf ⟨by omega, by omega⟩) (wideV_wf ⟨by omega, by omega⟩)
  have e5 := R_impl_ScaleWide (topW v) (4 * v.length) (topW_wf v) ⟨by omega, by omega⟩
  have hw : IntKind.i64.wrap (4 * v.length) = 4 * v.length := w64 (by omega) (by omega)
  unfold roomW
  rw [topW_eq] at e4
  generalize topW v = t at *
  generalize wideV (mostL v) = w1 at *
  generalize wideV 1 = w2 at *
  generalize scaleW t (4 * v.length) = r at *
  clear b0 b1
  simp only [wd] at e2 e3 e4 e5 ⊢
  simp [k_impl_LossRoom_ic, k_impl_LossRoom_rv, e1, e2, e3, e4, e5, hw]

theorem R_spec_LossRoom (v : List Int) (hv : ∀ x ∈ v, inI x) (hl : v.length ≤ 1048576) : RUN T k_spec_LossRoom [.sl 1 (ints v)] = some ([.agg (wd (roomW v).1), bv (roomW v).2], []) := by
  refine RUN_W T_spec_LossRoom rfl ?_
  obtain ⟨b0, b1⟩ := mostL_b v
  have e1 := R_spec_MostOf v hv (by omega)
  have e2 := R_spec_WideOf (mostL v) ⟨by omega, by omega⟩
  have e3 := R_spec_WideOf 1 ⟨by omega, by omega⟩
  have e4 := R_spec_AddWide (wideV (mostL v)) (wideV 1) (wideV_wf ⟨by omega, by omega⟩) (wideV_wf ⟨by omega, by omega⟩)
  have e5 := R_spec_ScaleWide (topW v) (4 * v.length) (topW_wf v) ⟨by omega, by omega⟩
  have hw : IntKind.i64.wrap (4 * v.length) = 4 * v.length := w64 (by omega) (by omega)
  unfold roomW
  rw [topW_eq] at e4
  generalize topW v = t at *
  generalize wideV (mostL v) = w1 at *
  generalize wideV 1 = w2 at *
  generalize scaleW t (4 * v.length) = r at *
  clear b0 b1
  simp only [wd] at e2 e3 e4 e5 ⊢
  simp [k_spec_LossRoom_ic, k_spec_LossRoom_rv, e1, e2, e3, e4, e5, hw]

theorem law_FnExactLossRoom (v : List Int) (hv : ∀ x ∈ v, inI x) : RUN T k_laws_FnExactLossRoom [.sl 1 (ints v)] = some ([bv true], []) := by
  refine RUN_W T_laws_FnExactLossRoom rfl ?_
  simp [k_laws_FnExactLossRoom_ic, k_laws_FnExactLossRoom_rv]
  refine Br_i (fun h => ?_) (fun h => ?_) <;> simp at h
  · simp
  · have hl : v.length ≤ 1048576 := by omega
    have e1 := R_spec_LossRoom v hv hl
    have e2 := R_impl_LossRoom v hv hl
    have e3 := R_laws_eqWide (roomW v).1 (roomW v).1
    rw [decide_eq_true rfl] at e3
    have e4 := R_laws_toIntS v (by omega)
    have e5 := R_laws_eqIntS v (by omega)
    generalize roomW v = r at *
    obtain ⟨r, rb⟩ := r
    simp only [wd] at e1 e2 e3
    cases rb <;> simp [e1, e2, e3, e4, e5]

end Go.Pe
