/- What each function answers by the evaluator, and the law; for each answer its own conditions stand ahead of it. -/
import Derived.Test.YthjpnjnlhmkepaaK0
import Derived.Test.YthjpnjnlhmkepaaEvB1
import Derived.IntWalk
set_option linter.all false
namespace Go.Pe
open Go
theorem w64 {x : Int} (h1 : -9223372036854775808 ≤ x) (h2 : x ≤ 9223372036854775807) : IntKind.i64.wrap x = x := IntWalk.i64_in x ⟨h1, h2⟩

@[simp] theorem w64s {x : Int} (h1 : -9223372036854775808 ≤ x) (h2 : x ≤ 9223372036854775807) : IntKind.i64.wrap x = x := w64 h1 h2

structure Nd where
  f : Int
  c : Int
  l : Int
  r : Int
  v : Int
deriving DecidableEq

/-- The first place where something holds, -1 if there is none. -/
def fidx {α : Type} (p : α → Bool) (l : List α) : Int := match l.findIdx? p with
  | some i => (i : Int)
  | none => -1

/-- A node that has a node below it. -/
def above (k : Int) (n : Nd) : Bool := !decide (n.f = -1) && (decide (n.l = k) || decide (n.r = k))

def par (t : List Nd) (k : Int) : Int := fidx (above k) t

theorem wS {i n : Nat} (h : i < n) (hn : n ≤ 9223372036854775807) : IntKind.i64.wrap ((i : Int) + 1) = (i : Int) + 1 := w64 (by omega) (by omega)

def ints (l : List Int) : List (List PV) := l.map fun n => [iv n]

@[simp] theorem ints_len (l : List Int) : (ints l).length = l.length := by simp [ints]

theorem ints_get {l : List Int} {i : Nat} {x : Int} (h : l[i]? = some x) : (ints l)[i]? = some [iv x] := by simp [ints, h]

@[simp] theorem ints_nil : ints [] = [] := rfl

theorem ints_snoc (l : List Int) (x : Int) : ints l ++ [[iv x]] = ints (l ++ [x]) := by simp [ints]

/-- The nodes above a node, from it on, if they are fewer than a number. -/
def anc (t : List Nd) : Nat → Int → Option (List Int)
  | 0, _ => none
  | n + 1, k => if par t k < 0 then some [] else (anc t n (par t k)).map (par t k :: ·)

def way (t : List Nd) (k : Int) : List Int := if 0 ≤ k ∧ k ≤ t.length - 1 then match anc t 32 k with
    | some l => (k :: l).reverse
    | none => []
  else []

theorem room8 {n : Nat} (h : n ≤ 17592186044416) : roomFor 8 n = true := by simp [roomFor]; omega

/-- The numbers from one on, so many. -/
def upto (k : Int) (n : Nat) : List Int := (List.range n).map fun (i : Nat) => k + (i : Int)

@[simp] theorem upto_len (k : Int) (n : Nat) : (upto k n).length = n := by simp [upto]

theorem drop_cons {α : Type} {l : List α} {i : Nat} {x : α} (h : l[i]? = some x) : l.drop i = x :: l.drop (i + 1) := by
  obtain ⟨h1, h2⟩ := List.getElem?_eq_some_iff.mp h
  rw [List.drop_eq_getElem_cons h1, h2]

def inI (n : Int) : Prop := -9223372036854775808 ≤ n ∧ n ≤ 9223372036854775807

/-- The range of a feature's values along a way. -/
def box (t : List Nd) (f : Int) : List Int → Int → Int → Int × Int
  | a :: b :: r, lo, hi => match t[a.toNat]? with
    | none => (lo, hi)
    | some x => if x.f = f then (if x.l = b then box t f (b :: r) lo (min hi x.c) else if x.c = 9223372036854775807 then box t f (b :: r) lo hi else box t f (b :: r) (max lo (x.c + 1)) hi) else box t f (b :: r) lo hi
  | _, lo, hi => (lo, hi)

def within (n a b : Int) : Bool := decide (a ≤ n) && decide (n ≤ b)

/-- A row within rows: a slice's own, or one that is read. -/
def cel (q : Bool) (l : List Int) : PV := if q then .own 1 (ints l) else .sl 1 (ints l)

@[simp] theorem fz_cel (q : Bool) (l : List Int) : fz (cel q l) = .sl 1 (ints l) := by cases q <;> simp [cel]

def rws (q : Bool) (L : List (List Int)) : List (List PV) := L.map fun l => [cel q l]

@[simp] theorem rws_len (q : Bool) (L : List (List Int)) : (rws q L).length = L.length := by simp [rws]

theorem yv_gu {s : St} {d : Option Dst} {op : IOp} {g : Opd} {v : Bool} {x : PV} : (yv s ⟨d, op, some (g, v)⟩ = some x) = (Ob' (guardP v (g.get s)) fun t => Br t (WI (fun _ => []) (fun _ _ => none) op s (fun y _ => y = x)) (PV.v Go.undef = x)) := by
  simp only [yv, evG_some, WI, Ob', Br, Option.map_eq_some_iff, Option.bind_eq_some_iff, eq_iff_iff]
  constructor
  · rintro ⟨⟨y, s'⟩, ⟨t, h1, h2⟩, h3⟩
    refine ⟨t, h1, fun ht => ?_, fun ht => ?_⟩ <;> subst ht
    · exact ⟨y, s', by simpa using h2, h3⟩
    · simp at h2; obtain ⟨rfl, rfl⟩ := h2; exact h3
  · rintro ⟨t, h1, h2, h3⟩
    cases t with
    | true => obtain ⟨y, s', h4, h5⟩ := h2 rfl; exact ⟨(y, s'), ⟨true, h1, by simpa using h4⟩, h5⟩
    | false => exact ⟨_, ⟨false, h1, rfl⟩, h3 rfl⟩

@[simp] theorem chkTodo_g {s : St} {d : Option Dst} {op : IOp} {g : Opd} {v : Bool} {x : PV} {n : Nat} {r : List (IOper × PV × Nat)} : chkTodo s ((⟨d, op, some (g, v)⟩, x, n + 1) :: r) = ((Ob' (guardP v (g.get s)) fun t => Br t (WI (fun _ => []) (fun _ _ => none) op s (fun y _ => y = x)) (PV.v Go.undef = x)) ∧ chkTodo s r) := by
  simp only [chkTodo, yv_gu]

@[simp] theorem chkPast_g {V E : Nat → PV} {d : Option Dst} {op : IOp} {g : Opd} {v : Bool} {x : PV} {n : Nat} {s : St} {ms : List St} : chkPast V E ⟨d, op, some (g, v)⟩ x (n + 1) (s :: ms) = ((Ob' (guardP v (g.get { s with V := V, E := E })) fun t => Br t (WI (fun _ => []) (fun _ _ => none) op { s with V := V, E := E } (fun y _ => y = x)) (PV.v Go.undef = x)) ∧ chkPast V E ⟨d, op, some (g, v)⟩ x n ms) := by
  simp only [chkPast, yv_gu]

theorem rows_of {α : Type} {f : α → List PV} {p : α → Prop} {tys : List TY} (h : ∀ cs, ShpL tys cs → ∃ a, f a = cs ∧ p a) : ∀ {es : List (List PV)}, (∀ cs ∈ es, ShpL tys cs) → ∃ l : List α, l.map f = es ∧ ∀ a ∈ l, p a
  | [], _ => ⟨[], rfl, by simp⟩
  | e :: es, hs => by
    obtain ⟨a, ha, hp⟩ := h e (hs e (by simp))
    obtain ⟨l, hl, hq⟩ := rows_of h (es := es) (fun cs hc => hs cs (by simp [hc]))
    refine ⟨a :: l, by simp [ha, hl], fun b hb => ?_⟩
    rcases List.mem_cons.mp hb with e | e
    · subst e; exact hp
    · exact hq b e

theorem of_all {P : Program} {l : List TypeId} (h : (l.all fun t => P.readableRec t && decide (t < P.types.size)) = true) : ∀ t ∈ l, P.readableRec t = true ∧ t < P.types.size := by
  intro t ht
  have := List.all_eq_true.mp h t ht
  simpa using this

theorem args1 {p : Bool × List TY} {pvs : List PV} (h : All2 (fun p c => ShpA p.1 p.2 c) [p] pvs) : ∃ a, pvs = [a] ∧ ShpA p.1 p.2 a := by
  cases h with
  | cons h1 t => cases t with
    | nil => exact ⟨_, rfl, h1⟩

/-- The bytes that a source draws from. -/
def byts (B : List Int) : List (List PV) := B.map fun n => [.v (.int .u8 n)]

@[simp] theorem byts_len (B : List Int) : (byts B).length = B.length := by simp [byts]

theorem byts_get {B : List Int} {i : Nat} {x : Int} (h : B[i]? = some x) : (byts B)[i]? = some [.v (.int .u8 x)] := by simp [byts, h]

/-- The end of a call of which something is told. -/
def FinG (rv : List RV) (io : Nat) (G : List PV × List PV → Prop) (_ : Dm rv) (_ : Dm G) (e : Ex) (s : St) : Prop := (e = .normal ∨ e = .ret) ∧ ∃ r, finishEv ⟨[], rv, .skip⟩ io s = some r ∧ G r

@[simp] theorem FinG_n {rv : List RV} {io : Nat} {G : List PV × List PV → Prop} {s : St} : FinG rv io G ⟨⟩ ⟨⟩ .normal s = ∃ r, finishEv ⟨[], rv, .skip⟩ io s = some r ∧ G r := by simp [FinG]

@[simp] theorem FinG_r {rv : List RV} {io : Nat} {G : List PV × List PV → Prop} {s : St} : FinG rv io G ⟨⟩ ⟨⟩ .ret s = ∃ r, finishEv ⟨[], rv, .skip⟩ io s = some r ∧ G r := by simp [FinG]

theorem RUN_G {T : Table} {f : Nat} {ms : List Bool} {rv : List RV} {ic : IC} {G : List PV × List PV → Prop} (hT : T f = some (.code ⟨ms, rv, ic⟩)) {args : List PV} {st : St} (hi : initEv args = some st) (h : W (modesOf T) (RUN T) ic st (FinG rv st.nx G ⟨⟩ ⟨⟩)) : ∃ r, RUN T f args = some r ∧ G r := by
  unfold W at h
  obtain ⟨e, s, h1, h2, r, h3, hG⟩ := h
  refine ⟨r, RUN_code hT ?_, hG⟩
  unfold callL
  rw [hi]
  simp only [Option.bind_some, h1]
  rcases h2 with rfl | rfl <;> exact h3
attribute [irreducible] FinG

theorem and255 (X : Nat) : 0 ≤ IntKind.i64.wrap ((X &&& 255 % 2 ^ IntKind.i64.bits : Nat) : Int) ∧ IntKind.i64.wrap ((X &&& 255 % 2 ^ IntKind.i64.bits : Nat) : Int) ≤ 255 := by
  have h : X &&& 255 % 2 ^ IntKind.i64.bits ≤ 255 := Nat.le_trans Nat.and_le_right (by decide)
  rw [w64 (by omega) (by omega)]
  omega

/-- What a drawing function may answer: a value with a property, and the source further on. -/
def Draw (B : List Int) (P : PV → Prop) (r : List PV × List PV) : Prop := ∃ (v : PV) (p : Nat) (s : Int), P v ∧ p ≤ B.length ∧ r = ([v], [.bx [.sl 1 (byts B), iv p, iv s]])

def PB (v : PV) : Prop := ∃ b, v = bv b

def PM (l : List Int) (v : PV) : Prop := ∃ n, v = iv n ∧ n ∈ l

def PI (v : PV) : Prop := ∃ n, v = iv n ∧ inI n

def PN (n : Int) (v : PV) : Prop := ∃ m, v = iv m ∧ 0 ≤ m ∧ (0 < n → m < n)

theorem R_spec_l1Byte (B : List Int) (p : Nat) (s : Int) (hp : p ≤ B.length) (hB : B.length ≤ 9223372036854775807) : ∃ r, RUN T k_spec_l1Byte [.bx [.sl 1 (byts B), iv p, iv s]] = some r ∧ Draw B (fun v => ∃ n, v = iv n ∧ 0 ≤ n ∧ n ≤ 255) r := by
  refine RUN_G T_spec_l1Byte rfl ?_
  by_cases h : p < B.length
  · obtain ⟨x, hx⟩ : ∃ x, B[p]? = some x := ⟨_, List.getElem?_eq_getElem h⟩
    have hx' := byts_get hx
    have hw := wS h hB
    simp [-getElem?_pos, k_spec_l1Byte_ic, k_spec_l1Byte_rv, h, hx', hw]
    exact ⟨_, p + 1, _, ⟨_, rfl, (and255 _).1, (and255 _).2⟩, h, rfl⟩
  · have h' : ¬ ((p : Int) < B.length) := by omega
    simp [-getElem?_pos, k_spec_l1Byte_ic, k_spec_l1Byte_rv, h, h']
    exact ⟨_, p, _, ⟨_, rfl, (and255 _).1, (and255 _).2⟩, hp, rfl⟩

theorem R_spec_l1Below (B : List Int) (p : Nat) (s : Int) (hp : p ≤ B.length) (hB : B.length ≤ 9223372036854775807) (n : Int) (hn : n ≤ 9223372036854775807) : ∃ r, RUN T k_spec_l1Below [.bx [.sl 1 (byts B), iv p, iv s], iv n] = some r ∧ Draw B (PN n) r := by
  refine RUN_G T_spec_l1Below rfl ?_
  obtain ⟨r1, h1, v1, p1, s1, ⟨a1, rfl, a10, a11⟩, hp1, rfl⟩ := R_spec_l1Byte B p s hp hB
  by_cases c1 : n ≤ 0
  · simp [-getElem?_pos, k_spec_l1Below_ic, k_spec_l1Below_rv, c1]
    exact ⟨_, p, s, ⟨0, rfl, by omega, by omega⟩, hp, rfl⟩
  have c0 : ¬ (n = 0) := by omega
  by_cases c2 : n ≤ 256
  · simp [-getElem?_pos, k_spec_l1Below_ic, k_spec_l1Below_rv, c0, c1, c2, h1]
    refine ⟨_, p1, s1, ⟨_, rfl, ?_, fun _ => ?_⟩, hp1, rfl⟩
    · exact Int.tmod_nonneg _ a10
    · exact Int.tmod_lt_of_pos _ (by omega)
  obtain ⟨r2, h2, v2, p2, s2, ⟨a2, rfl, a20, a21⟩, hp2, rfl⟩ := R_spec_l1Byte B p1 s1 hp1 hB
  obtain ⟨r3, h3, v3, p3, s3, ⟨a3, rfl, a30, a31⟩, hp3, rfl⟩ := R_spec_l1Byte B p2 s2 hp2 hB
  obtain ⟨r4, h4, v4, p4, s4, ⟨a4, rfl, a40, a41⟩, hp4, rfl⟩ := R_spec_l1Byte B p3 s3 hp3 hB
  have w1 := w64 (x := a1 * 16777216) (by omega) (by omega)
  have w2 := w64 (x := a2 * 65536) (by omega) (by omega)
  have w3 := w64 (x := a1 * 16777216 + a2 * 65536) (by omega) (by omega)
  have w4 := w64 (x := a3 * 256) (by omega) (by omega)
  have w5 := w64 (x := a1 * 16777216 + a2 * 65536 + a3 * 256) (by omega) (by omega)
  have w6 := w64 (x := a1 * 16777216 + a2 * 65536 + a3 * 256 + a4) (by omega) (by omega)
  simp [-getElem?_pos, k_spec_l1Below_ic, k_spec_l1Below_rv, c0, c1, c2, h1, h2, h3, h4, w1, w2, w3, w4, w5, w6]
  refine ⟨_, p4, s4, ⟨_, rfl, ?_, fun _ => ?_⟩, hp4, rfl⟩
  · exact Int.tmod_nonneg _ (by omega)
  · exact Int.tmod_lt_of_pos _ (by omega)

theorem R_spec_l1Once (B : List Int) (p : Nat) (s : Int) (hp : p ≤ B.length) (hB : B.length ≤ 9223372036854775807) (n : Int) (hn : n ≤ 9223372036854775807) : ∃ r, RUN T k_spec_l1Once [.bx [.sl 1 (byts B), iv p, iv s], iv n] = some r ∧ Draw B PB r := by
  refine RUN_G T_spec_l1Once rfl ?_
  obtain ⟨r1, h1, v1, p1, s1, ⟨a1, rfl, a10, a11⟩, hp1, rfl⟩ := R_spec_l1Below B p s hp hB n hn
  simp [-getElem?_pos, k_spec_l1Once_ic, k_spec_l1Once_rv, h1]
  exact ⟨_, p1, s1, ⟨_, rfl⟩, hp1, rfl⟩

/-- The same where a list is handed over and back. -/
def Draw2 (B : List Int) (l : List Int) (P : PV → Prop) (r : List PV × List PV) : Prop := ∃ (v : PV) (p : Nat) (s : Int), P v ∧ p ≤ B.length ∧ r = ([v], [.bx [.sl 1 (byts B), iv p, iv s], .own 1 (ints l)])

theorem R_spec_l1PickInt (B : List Int) (p : Nat) (s : Int) (hp : p ≤ B.length) (hB : B.length ≤ 9223372036854775807) (l : List Int) (hl : 0 < l.length ∧ l.length ≤ 9223372036854775807) : ∃ r, RUN T k_spec_l1PickInt [.bx [.sl 1 (byts B), iv p, iv s], .own 1 (ints l)] = some r ∧ Draw2 B l (PM l) r := by
  refine RUN_G T_spec_l1PickInt rfl ?_
  obtain ⟨r1, h1, v1, p1, s1, ⟨a1, rfl, a10, a11⟩, hp1, rfl⟩ := R_spec_l1Below B p s hp hB l.length (by omega)
  obtain ⟨i, rfl⟩ : ∃ i : Nat, a1 = i := ⟨a1.toNat, by omega⟩
  have hi : i < l.length := by have := a11 (by omega); omega
  obtain ⟨x, hx⟩ : ∃ x, l[i]? = some x := ⟨_, List.getElem?_eq_getElem hi⟩
  have hx' := ints_get hx
  simp [-getElem?_pos, k_spec_l1PickInt_ic, k_spec_l1PickInt_rv, h1, hx', hi]
  exact ⟨_, p1, s1, ⟨x, rfl, List.mem_of_getElem? hx⟩, hp1, rfl⟩

theorem inI_wrap (x : Int) : inI (IntKind.i64.wrap x) := by
  unfold inI IntKind.wrap
  simp [IntKind.bits, IntKind.signed]
  omega

theorem R_spec_l1Whole (B : List Int) (p : Nat) (s : Int) (hp : p ≤ B.length) (hB : B.length ≤ 9223372036854775807) : ∃ r, RUN T k_spec_l1Whole [.bx [.sl 1 (byts B), iv p, iv s]] = some r ∧ Draw B PI r := by
  refine RUN_G T_spec_l1Whole rfl ?_
  obtain ⟨r1, h1, v1, p1, s1, ⟨a1, rfl, a10, a11⟩, hp1, rfl⟩ := R_spec_l1Below B p s hp hB 4 (by omega)
  by_cases c0 : a1 = 0
  · obtain ⟨r2, h2, v2, p2, s2, ⟨a2, rfl, hm⟩, hp2, rfl⟩ := R_spec_l1PickInt B p1 s1 hp1 hB [0, 1, -1, 9, 10, 999, 1000, 2147483647, -2147483648, 3037000499, 3037000500, 9223372036854775807, -9223372036854775807, -9223372036854775808] (by simp)
    simp only [ints, List.map] at h2
    simp [-getElem?_pos, k_spec_l1Whole_ic, k_spec_l1Whole_rv, h1, c0, h2]
    refine ⟨_, p2, s2, ⟨a2, rfl, ?_⟩, hp2, rfl⟩
    simp at hm
    unfold inI
    omega
  by_cases c1 : a1 = 1
  · simp [-getElem?_pos, k_spec_l1Whole_ic, k_spec_l1Whole_rv, h1, c0, c1]
    refine W_loop (fun n st => ∃ (i p : Nat) (x s : Int), i + n = 8 ∧ p ≤ B.length ∧ inI x ∧ st.V 0 = .ptr 0 none 0 0 0 ∧ st.V 3 = iv x ∧ st.V 4 = iv i ∧ 0 < st.nx ∧ st.ep = 0 ∧ st.S 0 = some (.box [.sl 1 (byts B), iv p, iv s])) ?_ 8 _ ⟨0, p1, 0, s1, by omega, hp1, by unfold inI; omega, by simp⟩
    clear h1
    rintro n st ⟨i, p, x, s, hi, hp, hx, v0, v3, v4, hnx, hep, hS⟩
    simp [k_spec_l1Whole_b0, v4]
    refine Br_i (fun h => ?_) (fun h => ?_)
    · simp at h
      obtain ⟨r2, h2, v2, p2, s2, ⟨a2, rfl, a20, a21⟩, hp2, rfl⟩ := R_spec_l1Byte B p s hp hB
      have w := w64 (x := (i : Int) + 1) (by omega) (by omega)
      simp [-getElem?_pos, v0, v3, v4, hep, hS, h2, w]
      exact Rnd_n (n - 1) (by omega) ⟨i + 1, p2, _, s2, by omega, hp2, inI_wrap _, by simp [v0], by simp; rfl, by simp, by simp [hnx], by simp [hep], by simp⟩
    · simp [-getElem?_pos, v3, v0, hS]
      exact ⟨_, p, s, ⟨x, rfl, hx⟩, hp, rfl⟩
  by_cases c2 : a1 = 2
  · obtain ⟨r2, h2, v2, p2, s2, ⟨a2, rfl, a20, a21⟩, hp2, rfl⟩ := R_spec_l1Below B p1 s1 hp1 hB 1000000 (by omega)
    have a22 := a21 (by omega)
    have w := w64 (x := a2 - 500000) (by omega) (by omega)
    simp [-getElem?_pos, k_spec_l1Whole_ic, k_spec_l1Whole_rv, h1, c0, c1, c2, h2, w]
    exact ⟨_, p2, s2, ⟨_, rfl, by unfold inI; omega⟩, hp2, rfl⟩
  · obtain ⟨r2, h2, v2, p2, s2, ⟨a2, rfl, a20, a21⟩, hp2, rfl⟩ := R_spec_l1Below B p1 s1 hp1 hB 41 (by omega)
    have a22 := a21 (by omega)
    have w := w64 (x := a2 - 20) (by omega) (by omega)
    simp [-getElem?_pos, k_spec_l1Whole_ic, k_spec_l1Whole_rv, h1, c0, c1, c2, h2, w]
    exact ⟨_, p2, s2, ⟨_, rfl, by unfold inI; omega⟩, hp2, rfl⟩

def PO (q : Int → Prop) (k : Nat) (v : PV) : Prop := ∃ l : List Int, v = .own 1 (ints l) ∧ l.length ≤ k ∧ ∀ n ∈ l, q n

theorem R_spec_l1New (B : List Int) (hB : B.length ≤ 9223372036854775807) : ∃ r, RUN T k_spec_l1New [.sl 1 (byts B)] = some r ∧ ∃ s : Int, r = ([.bx [.sl 1 (byts B), iv (0 : Nat), iv s]], []) := by
  refine RUN_G T_spec_l1New rfl ?_
  simp [-getElem?_pos, k_spec_l1New_ic, k_spec_l1New_rv]
  refine W_loop (fun n st => ∃ (i : Nat) (x : Int), i + n = B.length ∧ st.V 0 = .sl 1 (byts B) ∧ st.V 3 = iv x ∧ st.V 4 = iv i) ?_ B.length _ ⟨0, _, by omega, by simp, by simp; rfl, by simp⟩
  rintro n st ⟨i, x, hi, v0, v3, v4⟩
  by_cases h : i < B.length
  · obtain ⟨b, hx⟩ : ∃ b, B[i]? = some b := ⟨_, List.getElem?_eq_getElem h⟩
    have hx' := byts_get hx
    have hw := wS h hB
    by_cases h2 : (i : Int) < 4000
    · have h2' := eq_true h2
      simp [-getElem?_pos, k_spec_l1New_b0, v0, v3, v4, h, h2', hx', hw]
      exact Rnd_n (n - 1) (by omega) ⟨i + 1, _, by omega, by simp [v0], by simp; rfl, by simp⟩
    · have h2' := eq_false h2
      simp [-getElem?_pos, k_spec_l1New_b0, v0, v3, v4, h, h2']
  · simp [-getElem?_pos, k_spec_l1New_b0, v0, v3, v4, h]

theorem R_spec_l10List (B : List Int) (p : Nat) (s : Int) (hp : p ≤ B.length) (hB : B.length ≤ 9223372036854775807) : ∃ r, RUN T k_spec_l10List [.bx [.sl 1 (byts B), iv p, iv s]] = some r ∧ Draw B (PO inI 64) r := by
  refine RUN_G T_spec_l10List rfl ?_
  obtain ⟨r1, h1, v1, p1, s1, ⟨a1, rfl, a10, a11⟩, hp1, rfl⟩ := R_spec_l1Below B p s hp hB 10 (by omega)
  have a12 := a11 (by omega)
  obtain ⟨r2, h2, v2, p2, s2, ⟨a2, rfl⟩, hp2, rfl⟩ := R_spec_l1Once B p1 s1 hp1 hB 12 (by omega)
  have key : ∀ (k : Int) (st : St) (p : Nat) (s : Int), 0 ≤ k → k ≤ 64 → p ≤ B.length → st.V 0 = .ptr 0 none 0 0 0 → st.V 3 = .ref 1 none 0 0 0 → st.V 4 = iv k → st.V 5 = iv (0 : Nat) → 1 < st.nx → st.ep = 0 → st.S 0 = some (.box [.sl 1 (byts B), iv p, iv s]) → st.S 1 = some (.row 1 []) →
      W (modesOf T) (RUN T) (.loop k_spec_l10List_b0) st (Bl 0 (Nx (fun s => W (modesOf T) (RUN T) (.seq (.reg [⟨some (.E 33), .mv (.V 3), none⟩, ⟨some (.V 2), .mv (.E 33), none⟩]) .ret) s (FinG k_spec_l10List_rv 1 (Draw B (PO inI 64)) ⟨⟩ ⟨⟩)) (FinG k_spec_l10List_rv 1 (Draw B (PO inI 64)) ⟨⟩ ⟨⟩) ⟨⟩ ⟨⟩) ⟨⟩) := by
    intro k st p s hk0 hk hp v0 v3 v4 v5 hnx hep hS h1
    obtain ⟨kn, rfl⟩ : ∃ n : Nat, k = n := ⟨k.toNat, by omega⟩
    refine W_loop (fun n st => ∃ (i p o e : Nat) (s : Int) (m : List Int), i + n = kn ∧ m.length = i ∧ (∀ n ∈ m, inI n) ∧ p ≤ B.length ∧ st.V 0 = .ptr 0 none 0 0 0 ∧ st.V 3 = .ref o none e 0 m.length ∧ st.V 4 = iv kn ∧ st.V 5 = iv i ∧ 0 < o ∧ o < st.nx ∧ st.ep = 0 ∧ st.S 0 = some (.box [.sl 1 (byts B), iv p, iv s]) ∧ st.S o = some (.row 1 (ints m))) ?_ kn _ ⟨0, p, 1, 0, s, [], by omega, rfl, by simp, hp, v0, v3, v4, v5, by omega, hnx, hep, hS, h1⟩
    clear v0 v3 v4 v5 hnx hep hS h1 hp
    rintro n st ⟨i, p, o, e, s, m, hi, hm, hmi, hp, v0, v3, v4, v5, ho, hox, hep, hS, hSo⟩
    simp [k_spec_l10List_b0, v4, v5]
    refine Br_i (fun h => ?_) (fun h => ?_)
    · simp at h
      have z1 := fr hox
      have z2 := fr ho
      have z3 := fr (by omega : 0 < st.nx)
      have hw := w64 (x := (i : Int) + 1) (by omega) (by omega)
      have hr8 := room8 (n := m.length + 1) (by omega)
      obtain ⟨r1, h1, v1, p1, s1, ⟨a1, rfl⟩, hp1, rfl⟩ := R_spec_l1Once B p s hp hB 12 (by omega)
      cases a1 with
      | true =>
        obtain ⟨r2, h2, v2, p2, s2, ⟨x, rfl, hx⟩, hp2, rfl⟩ := R_spec_l1Whole B p1 s1 hp1 hB
        simp [-getElem?_pos, v0, v3, v4, v5, hep, hS, hSo, z1, z2, z3, h1, h2, hr8, ints_snoc, hw]
        refine Rnd_n (n - 1) (by omega) ⟨i + 1, p2, st.nx + 1, 0, s2, m ++ [x], by omega, by simp [hm], ?_, hp2, by simp [v0], by simp, by simp [v4], by simp, ?_, ?_, by simp [hep], by simp [z1, z2, z3], by simp⟩
        · intro y hy; rcases List.mem_append.mp hy with h | h
          · exact hmi y h
          · simp at h; subst h; exact hx
        · omega
        · simp
      | false =>
        obtain ⟨r2, h2, v2, p2, s2, ⟨x, rfl, hx0, hx⟩, hp2, rfl⟩ := R_spec_l1Below B p1 s1 hp1 hB 9 (by omega)
        have hx1 := hx (by omega)
        have w1 := w64 (x := x - 4) (by omega) (by omega)
        have w2 := w64 (x := 500 * (x - 4)) (by omega) (by omega)
        simp [-getElem?_pos, v0, v3, v4, v5, hep, hS, hSo, z1, z2, z3, h1, h2, hr8, ints_snoc, hw, w1, w2]
        refine Rnd_n (n - 1) (by omega) ⟨i + 1, p2, st.nx + 1, 0, s2, m ++ [500 * (x - 4)], by omega, by simp [hm], ?_, hp2, by simp [v0], by simp, by simp [v4], by simp, ?_, ?_, by simp [hep], by simp [z1, z2, z3], by simp⟩
        · intro y hy; rcases List.mem_append.mp hy with h | h
          · exact hmi y h
          · simp at h; subst h; unfold inI; omega
        · omega
        · simp
    · simp at h
      have h1o : 1 ≤ o := ho
      simp [-getElem?_pos, v0, v3, hS, hSo, h1o, k_spec_l10List_rv]
      exact ⟨_, p, s, ⟨m, rfl, by omega, hmi⟩, hp, rfl⟩
  cases a2 with
  | true =>
    obtain ⟨r3, h3, v3, p3, s3, ⟨a3, rfl, a30, a31⟩, hp3, rfl⟩ := R_spec_l1Below B p2 s2 hp2 hB 5 (by omega)
    have a32 := a31 (by omega)
    have w := w64 (x := 38 + a3) (by omega) (by omega)
    simp [-getElem?_pos, k_spec_l10List_ic, h1, h2, h3, w]
    exact key (38 + a3) _ p3 s3 (by omega) (by omega) hp3 (by simp) (by simp) (by simp) (by simp) (by simp) (by simp) (by simp) (by simp)
  | false =>
    simp [-getElem?_pos, k_spec_l10List_ic, h1, h2]
    exact key a1 _ p2 s2 (by omega) (by omega) hp2 (by simp) (by simp) (by simp) (by simp) (by simp) (by simp) (by simp) (by simp)

def adi (a b : Int) : Int × Bool := if -9223372036854775808 ≤ a + b ∧ a + b ≤ 9223372036854775807 then (a + b, true) else (0, false)

theorem wrap_add {a b : Int} (ha : inI a) (hb : inI b) : IntKind.i64.wrap (a + b) = if 9223372036854775807 < a + b then a + b - 18446744073709551616 else if a + b < -9223372036854775808 then a + b + 18446744073709551616 else a + b := by
  unfold inI at ha hb
  unfold IntKind.wrap
  simp [IntKind.bits, IntKind.signed]
  omega

theorem R_spec_AddInt (a b : Int) (ha : inI a) (hb : inI b) : RUN T k_spec_AddInt [iv a, iv b] = some ([iv (adi a b).1, bv (adi a b).2], []) := by
  refine RUN_W T_spec_AddInt rfl ?_
  have hw := wrap_add ha hb
  unfold inI at ha hb
  unfold adi
  rcases Int.lt_trichotomy b 0 with c | c | c
  · have d1 := eq_false (by omega : ¬ 0 < b)
    have d2 := eq_true c
    have w := w64 (x := -9223372036854775808 - b) (by omega) (by omega)
    by_cases e : a < -9223372036854775808 - b
    · rw [if_neg (by omega)]
      simp [-getElem?_pos, k_spec_AddInt_ic, k_spec_AddInt_rv, d1, d2, w, e]
    · rw [if_neg (by omega), if_neg (by omega)] at hw
      rw [if_pos (by omega)]
      simp [-getElem?_pos, k_spec_AddInt_ic, k_spec_AddInt_rv, d1, d2, w, e, hw]
  · subst c
    rw [if_neg (by omega), if_neg (by omega)] at hw
    rw [if_pos (by omega)]
    simp at hw
    simp [k_spec_AddInt_ic, k_spec_AddInt_rv, hw]
  · have d1 := eq_true c
    have d2 := eq_false (by omega : ¬ b < 0)
    have w := w64 (x := 9223372036854775807 - b) (by omega) (by omega)
    by_cases e : 9223372036854775807 - b < a
    · rw [if_neg (by omega)]
      simp [-getElem?_pos, k_spec_AddInt_ic, k_spec_AddInt_rv, d1, d2, w, e]
    · rw [if_neg (by omega), if_neg (by omega)] at hw
      rw [if_pos (by omega)]
      simp [-getElem?_pos, k_spec_AddInt_ic, k_spec_AddInt_rv, d1, d2, w, e, hw]

theorem R_laws_big (es : List (List PV)) : RUN T k_laws_big [.sl 1 es] = some ([bv (decide ((1048576 : Int) < es.length))], []) := by
  refine RUN_W T_laws_big rfl ?_
  simp [-getElem?_pos, k_laws_big_ic, k_laws_big_rv]

def sbi (a b : Int) : Int × Bool := if -9223372036854775808 ≤ a - b ∧ a - b ≤ 9223372036854775807 then (a - b, true) else (0, false)

theorem wrap_sub {a b : Int} (ha : inI a) (hb : inI b) : IntKind.i64.wrap (a - b) = if 9223372036854775807 < a - b then a - b - 18446744073709551616 else if a - b < -9223372036854775808 then a - b + 18446744073709551616 else a - b := by
  unfold inI at ha hb
  unfold IntKind.wrap
  simp [IntKind.bits, IntKind.signed]
  omega

theorem R_impl_SubInt (a b : Int) (ha : inI a) (hb : inI b) : RUN T k_impl_SubInt [iv a, iv b] = some ([iv (sbi a b).1, bv (sbi a b).2], []) := by
  refine RUN_W T_impl_SubInt rfl ?_
  have hw := wrap_sub ha hb
  unfold inI at ha hb
  unfold sbi
  by_cases c1 : 9223372036854775807 < a - b
  · rw [if_pos c1] at hw
    rw [if_neg (by omega)]
    have d1 := eq_false (by omega : ¬ a < 0)
    have d2 := eq_true (by omega : b < 0)
    have d3 := eq_true (by omega : a - b - 18446744073709551616 < 0)
    simp [-getElem?_pos, k_impl_SubInt_ic, k_impl_SubInt_rv, hw, d1, d2, d3]
  · rw [if_neg c1] at hw
    by_cases c2 : a - b < -9223372036854775808
    · rw [if_pos c2] at hw
      rw [if_neg (by omega)]
      have d1 := eq_true (by omega : a < 0)
      have d2 := eq_false (by omega : ¬ b < 0)
      have d3 := eq_false (by omega : ¬ a - b + 18446744073709551616 < 0)
      simp [-getElem?_pos, k_impl_SubInt_ic, k_impl_SubInt_rv, hw, d1, d2, d3]
    · rw [if_neg c2] at hw
      rw [if_pos (by omega)]
      rcases Classical.propComplete (a < 0) with d1 | d1
      all_goals rcases Classical.propComplete (b < 0) with d2 | d2
      all_goals simp at d1 d2
      · simp [-getElem?_pos, k_impl_SubInt_ic, k_impl_SubInt_rv, hw, eq_true d1, eq_true d2]
      · have d2' := eq_false (by omega : ¬ b < 0)
        have d3 := eq_true (by omega : a - b < 0)
        simp [-getElem?_pos, k_impl_SubInt_ic, k_impl_SubInt_rv, hw, eq_true d1, d2', d3]
      · have d1' := eq_false (by omega : ¬ a < 0)
        have d3 := eq_false (by omega : ¬ a - b < 0)
        simp [-getElem?_pos, k_impl_SubInt_ic, k_impl_SubInt_rv, hw, eq_true d2, d1', d3]
      · have d1' := eq_false (by omega : ¬ a < 0)
        have d2' := eq_false (by omega : ¬ b < 0)
        simp [-getElem?_pos, k_impl_SubInt_ic, k_impl_SubInt_rv, hw, d1', d2']

theorem R_spec_SubInt (a b : Int) (ha : inI a) (hb : inI b) : RUN T k_spec_SubInt [iv a, iv b] = some ([iv (sbi a b).1, bv (sbi a b).2], []) := by
  refine RUN_W T_spec_SubInt rfl ?_
  have hw := wrap_sub ha hb
  unfold inI at ha hb
  unfold sbi
  rcases Int.lt_trichotomy b 0 with c | c | c
  · have d1 := eq_false (by omega : ¬ 0 < b)
    have d2 := eq_true c
    have w := w64 (x := 9223372036854775807 + b) (by omega) (by omega)
    by_cases e : 9223372036854775807 + b < a
    · rw [if_neg (by omega)]
      simp [-getElem?_pos, k_spec_SubInt_ic, k_spec_SubInt_rv, d1, d2, w, e]
    · rw [if_neg (by omega), if_neg (by omega)] at hw
      rw [if_pos (by omega)]
      simp [-getElem?_pos, k_spec_SubInt_ic, k_spec_SubInt_rv, d1, d2, w, e, hw]
  · subst c
    rw [if_neg (by omega), if_neg (by omega)] at hw
    rw [if_pos (by omega)]
    simp at hw
    simp [k_spec_SubInt_ic, k_spec_SubInt_rv, hw]
  · have d1 := eq_true c
    have d2 := eq_false (by omega : ¬ b < 0)
    have w := w64 (x := -9223372036854775808 + b) (by omega) (by omega)
    by_cases e : a < -9223372036854775808 + b
    · rw [if_neg (by omega)]
      simp [-getElem?_pos, k_spec_SubInt_ic, k_spec_SubInt_rv, d1, d2, w, e]
    · rw [if_neg (by omega), if_neg (by omega)] at hw
      rw [if_pos (by omega)]
      simp [-getElem?_pos, k_spec_SubInt_ic, k_spec_SubInt_rv, d1, d2, w, e, hw]

/-- The differences, as long as they fit. -/
def res : List Int → List Int → Option (List Int)
  | x :: xs, y :: ys => if (sbi x y).2 then (res xs ys).map ((sbi x y).1 :: ·) else none
  | _, _ => some []

theorem res_c {l m : List Int} {i : Nat} {x y : Int} (hx : l[i]? = some x) (hy : m[i]? = some y) : res (l.drop i) (m.drop i) = if (sbi x y).2 then (res (l.drop (i + 1)) (m.drop (i + 1))).map ((sbi x y).1 :: ·) else none := by
  rw [drop_cons hx, drop_cons hy, res]

theorem res_nil (m : List Int) : res [] m = some [] := by cases m <;> rfl

def resid (l m : List Int) : List Int × Bool := if l.length = m.length then match res l m with
    | some r => (r, true)
    | none => ([], false)
  else ([], false)

theorem res_spec : ∀ {l m r : List Int}, l.length = m.length → res l m = some r → r.length = l.length ∧ ∀ (i : Nat) (x y z : Int), l[i]? = some x → m[i]? = some y → r[i]? = some z → z = x - y ∧ -9223372036854775808 ≤ x - y ∧ x - y ≤ 9223372036854775807
  | [], [], r, _, h => by simp [res] at h; subst h; simp
  | x :: xs, y :: ys, r, hl, h => by
    rw [res] at h
    split at h
    · rename_i c
      simp only [Option.map_eq_some_iff] at h
      obtain ⟨r', hr, rfl⟩ := h
      obtain ⟨h1, h2⟩ := res_spec (by simpa using hl) hr
      refine ⟨by simp [h1], fun i a b z ha hb hz => ?_⟩
      cases i with
      | zero =>
        simp at ha hb hz
        subst ha hb hz
        unfold sbi at c ⊢
        split at c
        · rename_i hh; rw [if_pos hh]; exact ⟨rfl, hh⟩
        · cases c
      | succ i => exact h2 i a b z (by simpa using ha) (by simpa using hb) (by simpa using hz)
    · cases h
  | [], _ :: _, _, hl, _ => by simp at hl
  | _ :: _, [], _, hl, _ => by simp at hl

theorem R_impl_Residuals (l m : List Int) (hl : l.length ≤ 1048576) (hm : m.length ≤ 1048576) (hli : ∀ n ∈ l, inI n) (hmi : ∀ n ∈ m, inI n) : RUN T k_impl_Residuals [.sl 1 (ints l), .sl 1 (ints m)] = some ([.own 1 (ints (resid l m).1), bv (resid l m).2], []) := by
  refine RUN_W T_impl_Residuals rfl ?_
  unfold resid
  rcases Classical.propComplete ((l.length : Int) = m.length) with e | e
  case inr =>
    rw [if_neg (by simp at e; omega)]
    simp [-getElem?_pos, k_impl_Residuals_ic, k_impl_Residuals_rv, e]
  have e' : l.length = m.length := by simp at e; omega
  rw [if_pos e']
  simp [-getElem?_pos, k_impl_Residuals_ic, k_impl_Residuals_rv, e]
  refine W_loop (fun n st => ∃ (i o e : Nat) (a : List Int), i + n = l.length ∧ a.length = i ∧ (res (l.drop i) (m.drop i)).map (a ++ ·) = res l m ∧ st.V 0 = .sl 1 (ints l) ∧ st.V 1 = .sl 1 (ints m) ∧ st.V 6 = .ref o none e 0 a.length ∧ st.V 17 = iv l.length ∧ st.V 18 = iv i ∧ o < st.nx ∧ st.ep = 0 ∧ st.S o = some (.row 1 (ints a))) ?_ l.length _ ⟨0, 0, 0, [], by omega, rfl, by simp, by simp⟩
  rintro n st ⟨i, o, ep, a, hi, ha, hr, v0, v1, v6, v17, v18, hox, hep, hSo⟩
  simp [k_impl_Residuals_b0, v17, v18]
  refine Br_i (fun h => ?_) (fun h => ?_)
  · simp at h
    obtain ⟨x, hx⟩ : ∃ x, l[i]? = some x := ⟨_, List.getElem?_eq_getElem h⟩
    obtain ⟨y, hy⟩ : ∃ y, m[i]? = some y := ⟨_, List.getElem?_eq_getElem (by omega)⟩
    have hx' := ints_get hx
    have hy' := ints_get hy
    have him : i < m.length := by omega
    have hw := wS h (by omega : l.length ≤ 9223372036854775807)
    have hsub := R_impl_SubInt x y (hli x (List.mem_of_getElem? hx)) (hmi y (List.mem_of_getElem? hy))
    rw [res_c hx hy] at hr
    have z1 := fr hox
    have hr8 := room8 (n := a.length + 1) (by omega)
    cases c : (sbi x y).2 with
    | true =>
      rw [if_pos c] at hr
      rw [c] at hsub
      simp [-getElem?_pos, v0, v1, v6, v17, v18, hep, hSo, z1, hx', hy', h, him, hsub, hr8, ints_snoc, hw]
      refine Rnd_n (n - 1) (by omega) ⟨i + 1, st.nx + 1, 0, a ++ [(sbi x y).1], by omega, by simp [ha], ?_, by simp [v0], by simp [v1], by simp, by simp [v17], by simp, by simp, by simp [hep], by simp⟩
      rw [← hr]
      cases res (l.drop (i + 1)) (m.drop (i + 1)) <;> simp
    | false =>
      rw [if_neg (by simp [c])] at hr
      rw [c] at hsub
      simp at hr
      simp [-getElem?_pos, v0, v1, v6, v17, v18, hep, hSo, z1, hx', hy', h, him, hsub, ← hr]
  · simp at h
    rw [List.drop_eq_nil_of_le h, res_nil] at hr
    simp at hr
    rw [← hr]
    simp [-getElem?_pos, v6, hSo]

theorem R_spec_Residuals (l m : List Int) (hl : l.length ≤ 1048576) (hm : m.length ≤ 1048576) (hli : ∀ n ∈ l, inI n) (hmi : ∀ n ∈ m, inI n) : RUN T k_spec_Residuals [.sl 1 (ints l), .sl 1 (ints m)] = some ([.own 1 (ints (resid l m).1), bv (resid l m).2], []) := by
  refine RUN_W T_spec_Residuals rfl ?_
  unfold resid
  rcases Classical.propComplete ((l.length : Int) = m.length) with e | e
  case inr =>
    rw [if_neg (by simp at e; omega)]
    simp [-getElem?_pos, k_spec_Residuals_ic, k_spec_Residuals_rv, e]
  have e' : l.length = m.length := by simp at e; omega
  rw [if_pos e']
  simp [-getElem?_pos, k_spec_Residuals_ic, k_spec_Residuals_rv, e]
  refine W_loop (fun n st => ∃ (i o e : Nat) (a : List Int), i + n = l.length ∧ a.length = i ∧ (res (l.drop i) (m.drop i)).map (a ++ ·) = res l m ∧ st.V 0 = .sl 1 (ints l) ∧ st.V 1 = .sl 1 (ints m) ∧ st.V 6 = .ref o none e 0 a.length ∧ st.V 7 = iv i ∧ o < st.nx ∧ st.ep = 0 ∧ st.S o = some (.row 1 (ints a))) ?_ l.length _ ⟨0, 0, 0, [], by omega, rfl, by simp, by simp⟩
  rintro n st ⟨i, o, ep, a, hi, ha, hr, v0, v1, v6, v7, hox, hep, hSo⟩
  simp [k_spec_Residuals_b0, v0, v7]
  refine Br_i (fun h => ?_) (fun h => ?_)
  · simp at h
    obtain ⟨x, hx⟩ : ∃ x, l[i]? = some x := ⟨_, List.getElem?_eq_getElem h⟩
    obtain ⟨y, hy⟩ : ∃ y, m[i]? = some y := ⟨_, List.getElem?_eq_getElem (by omega)⟩
    have hx' := ints_get hx
    have hy' := ints_get hy
    have him : i < m.length := by omega
    have hw := wS h (by omega : l.length ≤ 9223372036854775807)
    have hsub := R_spec_SubInt x y (hli x (List.mem_of_getElem? hx)) (hmi y (List.mem_of_getElem? hy))
    rw [res_c hx hy] at hr
    have z1 := fr hox
    have hr8 := room8 (n := a.length + 1) (by omega)
    cases c : (sbi x y).2 with
    | true =>
      rw [if_pos c] at hr
      rw [c] at hsub
      simp [-getElem?_pos, v0, v1, v6, v7, hep, hSo, z1, hx', hy', h, him, hsub, hr8, ints_snoc, hw]
      refine Rnd_n (n - 1) (by omega) ⟨i + 1, st.nx + 1, 0, a ++ [(sbi x y).1], by omega, by simp [ha], ?_, by simp [v0], by simp [v1], by simp, by simp, by simp, by simp [hep], by simp⟩
      rw [← hr]
      cases res (l.drop (i + 1)) (m.drop (i + 1)) <;> simp
    | false =>
      rw [if_neg (by simp [c])] at hr
      rw [c] at hsub
      simp at hr
      simp [-getElem?_pos, v0, v1, v6, v7, hep, hSo, z1, hx', hy', h, him, hsub, ← hr]
  · simp at h
    rw [List.drop_eq_nil_of_le h, res_nil] at hr
    simp at hr
    rw [← hr]
    simp [-getElem?_pos, v6, hSo]

theorem R_spec_DrawResiduals (B : List Int) (hB : B.length ≤ 9223372036854775807) : ∃ l m : List Int, l.length ≤ 64 ∧ m.length ≤ 65 ∧ (∀ n ∈ l, inI n) ∧ (∀ n ∈ m, inI n) ∧ RUN T k_spec_DrawResiduals [.sl 1 (byts B)] = some ([.own 1 (ints l), .own 1 (ints m)], []) := by
  obtain ⟨r1, h1, s, rfl⟩ := R_spec_l1New B hB
  obtain ⟨r2, h2, v2, p2, s2, ⟨l, rfl, hl, hli⟩, hp2, rfl⟩ := R_spec_l10List B 0 s (by omega) hB
  simp at h1 h2
  have key : ∃ r, RUN T k_spec_DrawResiduals [.sl 1 (byts B)] = some r ∧ ∃ m : List Int, m.length ≤ 65 ∧ (∀ n ∈ m, inI n) ∧ r = ([.own 1 (ints l), .own 1 (ints m)], []) := by
    refine RUN_G T_spec_DrawResiduals rfl ?_
    simp [-getElem?_pos, k_spec_DrawResiduals_ic, k_spec_DrawResiduals_rv, h1, h2]
    refine W_loop (fun n st => ∃ (i p o e : Nat) (s : Int) (m : List Int), i + n = l.length ∧ m.length = i ∧ (∀ n ∈ m, inI n) ∧ p ≤ B.length ∧ st.V 4 = .ptr 0 none 0 0 0 ∧ st.V 5 = .ref 1 none 0 0 l.length ∧ st.V 6 = .ref o none e 0 m.length ∧ st.V 7 = iv i ∧ 1 < o ∧ o < st.nx ∧ st.S 0 = some (.box [.sl 1 (byts B), iv p, iv s]) ∧ st.S 1 = some (.row 1 (ints l)) ∧ st.S o = some (.row 1 (ints m))) ?_ l.length _ ⟨0, p2, 2, 0, s2, [], by omega, rfl, by simp, hp2, by simp⟩
    rintro n st ⟨i, p, o, e, s, m, hi, hm, hmi, hp, v4, v5, v6, v7, ho, hox, hS, hS1, hSo⟩
    have z1 := fr hox
    have z2 := fr ho
    have z3 := fr (by omega : 0 < st.nx)
    have z4 := fr (by omega : 0 < o)
    have z5 := fr (by omega : 1 < st.nx)
    have z6 := fr (by omega : st.nx < st.nx + 1)
    have hr8 := room8 (n := m.length + 1) (by omega)
    simp [k_spec_DrawResiduals_b0, v5, v7, hS1]
    refine Br_i (fun h => ?_) (fun h => ?_)
    · simp at h
      have hw := wS h (by omega : l.length ≤ 9223372036854775807)
      obtain ⟨r3, h3, v3, p3, s3, ⟨x, rfl, hx⟩, hp3, rfl⟩ := R_spec_l1Whole B p s hp hB
      obtain ⟨r5, h5, v, p5, s5, ⟨y, rfl, hy⟩, hp5, rfl⟩ := R_spec_l1PickInt B p3 s3 hp3 hB [0, 500, -500, x] (by simp)
      simp only [ints, List.map] at h5
      have hyi : inI y := by
        simp at hy
        rcases hy with e | e | e | e
        all_goals subst e
        · unfold inI; omega
        · unfold inI; omega
        · unfold inI; omega
        · exact hx
      simp [-getElem?_pos, v4, v5, v6, v7, hS, hS1, hSo, z1, z2, z3, z4, z5, z6, h3, h5, hr8, ints_snoc, hw]
      refine Rnd_n (n - 1) (by omega) ⟨i + 1, p5, st.nx + 2, st.ep + 1, s5, m ++ [y], by omega, by simp [hm], ?_, hp5, by simp [v4], by simp [v5], by simp, by simp, ?_, ?_, by simp [z1, z2, z3, z4, z5, z6], ?_, by simp⟩
      · intro z hz; rcases List.mem_append.mp hz with h | h
        · exact hmi z h
        · simp at h; subst h; exact hyi
      · omega
      · simp
      · have z7 : ¬ 1 = st.nx + 2 := by omega
        have z8 : ¬ 1 = st.nx + 1 := by omega
        simp [z1, z2, z3, z4, z5, z6, z7, z8, hS1]
    · simp at h
      obtain ⟨r3, h3, v3, p3, s3, ⟨b, rfl⟩, hp3, rfl⟩ := R_spec_l1Once B p s hp hB 8 (by omega)
      cases b with
      | true =>
        simp [-getElem?_pos, v4, v5, v6, v7, hS, hS1, hSo, z1, z2, z3, z4, z5, z6, h3, hr8, ints_snoc]
        refine ⟨m ++ [0], by simp; omega, ?_, rfl⟩
        intro z hz; rcases List.mem_append.mp hz with h | h
        · exact hmi z h
        · simp at h; subst h; unfold inI; omega
      | false =>
        simp [-getElem?_pos, v4, v5, v6, v7, hS, hS1, hSo, z1, z2, z3, z4, z5, z6, h3, hr8, ints_snoc]
        exact ⟨m, by omega, hmi, rfl⟩
  obtain ⟨r, h, m, hm, hmi, rfl⟩ := key
  exact ⟨l, m, hl, hm, hli, hmi, h⟩

theorem law_FnResiduals (B : List Int) (hB : B.length ≤ 9223372036854775807) : RUN T k_laws_FnResiduals [.sl 1 (byts B)] = some ([bv true], []) := by
  refine RUN_W T_laws_FnResiduals rfl ?_
  have hb := R_laws_big (byts B)
  rw [byts_len] at hb
  by_cases c : (1048576 : Int) < B.length
  · simp [-getElem?_pos, k_laws_FnResiduals_ic, k_laws_FnResiduals_rv, hb, c]
  obtain ⟨l, m, hl, hm, hli, hmi, hd⟩ := R_spec_DrawResiduals B hB
  have h1 := R_impl_Residuals l m (by omega) (by omega) hli hmi
  have h2 := R_spec_Residuals l m (by omega) (by omega) hli hmi
  by_cases e : l.length = m.length
  · cases hr : res l m with
    | none =>
      have er : resid l m = ([], false) := by unfold resid; rw [if_pos e, hr]
      rw [er] at h1 h2
      simp only [ints_nil] at h1 h2
      simp [-getElem?_pos, k_laws_FnResiduals_ic, k_laws_FnResiduals_rv, hb, c, hd, h1, h2]
    | some r =>
      have er : resid l m = (r, true) := by unfold resid; rw [if_pos e, hr]
      rw [er] at h1 h2
      obtain ⟨hrl, hrs⟩ := res_spec e hr
      simp [-getElem?_pos, k_laws_FnResiduals_ic, k_laws_FnResiduals_rv, hb, c, hd, h1, h2]
      refine W_loop (fun n st => ∃ (i e2 e3 e4 : Nat), i + n = l.length ∧ st.V 3 = .ref 0 none e2 0 l.length ∧ st.V 4 = .ref 1 none e3 0 m.length ∧ st.V 5 = .ref 2 none e4 0 r.length ∧ st.V 9 = iv i ∧ st.S 0 = some (.row 1 (ints l)) ∧ st.S 1 = some (.row 1 (ints m)) ∧ st.S 2 = some (.row 1 (ints r))) ?_ l.length _ ⟨0, 0, 0, 0, by omega, by simp⟩
      rintro n st ⟨i, e2, e3, e4, hi, v3, v4, v5, v9, hS, hS1, hS2⟩
      simp [k_laws_FnResiduals_b0, v3, v9, hS]
      refine Br_i (fun h => ?_) (fun h => ?_)
      · simp at h
        obtain ⟨x, hx⟩ : ∃ x, l[i]? = some x := ⟨_, List.getElem?_eq_getElem h⟩
        obtain ⟨y, hy⟩ : ∃ y, m[i]? = some y := ⟨_, List.getElem?_eq_getElem (by omega)⟩
        obtain ⟨z, hz⟩ : ∃ z, r[i]? = some z := ⟨_, List.getElem?_eq_getElem (by omega)⟩
        have hx' := ints_get hx
        have hy' := ints_get hy
        have hz' := ints_get hz
        have him : i < m.length := by omega
        have hir : i < r.length := by omega
        have hw := wS h (by omega : l.length ≤ 9223372036854775807)
        obtain ⟨rfl, hz1, hz2⟩ := hrs i x y z hx hy hz
        have hxi := hli x (List.mem_of_getElem? hx)
        have hadd := R_spec_AddInt y (x - y) (hmi y (List.mem_of_getElem? hy)) ⟨hz1, hz2⟩
        have ea : adi y (x - y) = (x, true) := by unfold adi; unfold inI at hxi; rw [if_pos (by omega)]; simp; omega
        rw [ea] at hadd
        simp [-getElem?_pos, v3, v4, v5, v9, hS, hS1, hS2, hx', hy', hz', h, him, hir, hadd, hw]
        exact Rnd_n (n - 1) (by omega) ⟨i + 1, e2, e3, e4, by omega, by simp [v3], by simp [v4], by simp [v5], by simp, by simp [hS], by simp [hS1], by simp [hS2]⟩
      · simp at h
        have hrl' : (r.length : Int) = l.length := by omega
        simp [-getElem?_pos, v3, v5, hS, hS2, hrl']
  · have er : resid l m = ([], false) := by unfold resid; rw [if_neg e]
    rw [er] at h1 h2
    simp only [ints_nil] at h1 h2
    simp [-getElem?_pos, k_laws_FnResiduals_ic, k_laws_FnResiduals_rv, hb, c, hd, h1, h2]

theorem shp_byteL (cs : List PV) (h : ShpL [.int .u8] cs) : ∃ n : Int, [PV.v (.int .u8 n)] = cs ∧ True := by
  simp only [ShpL, Shp] at h
  obtain ⟨_, _, rfl, ⟨a, rfl, h1⟩, rfl⟩ := h
  exact ⟨a, rfl, trivial⟩

theorem shp_bytes {c : PV} (h : ShpA false [.sl [.int .u8]] c) : ∃ B : List Int, c = .sl 1 (byts B) ∧ B.length ≤ 9223372036854775807 := by
  simp only [ShpA, Bool.false_eq_true, if_false, ShpL, Shp] at h
  obtain ⟨c', r, e, ⟨es, he, h1, h2⟩, hr⟩ := h
  simp only [List.cons.injEq] at e
  obtain ⟨l, hl, hp⟩ := rows_of (f := fun n : Int => [PV.v (.int .u8 n)]) (tys := [.int .u8]) shp_byteL h2
  subst hl
  simp [maxLen] at h1
  exact ⟨l, e.1.trans he, by omega⟩

end Go.Pe
