/- What each function answers by the evaluator, and the law; for each answer its own conditions stand ahead of it. -/
import Derived.Test.YthjpnjnlhmkepaaK0
import Derived.Test.YthjpnjnlhmkepaaEvB2
import Derived.IntWalk
set_option linter.all false
namespace Go.Pe
open Go
theorem w64 {x : Int} (h1 : -9223372036854775808 ≤ x) (h2 : x ≤ 9223372036854775807) : IntKind.i64.wrap x = x := IntWalk.i64_in x ⟨h1, h2⟩

@[simp] theorem w64s {x : Int} (h1 : -9223372036854775808 ≤ x) (h2 : x ≤ 9223372036854775807) : IntKind.i64.wrap x = x := w64 h1 h2

structure Nd where
  f : Int
  c : Int
  l : Int
  r : Int
  v : Int
deriving DecidableEq

def nd (n : Nd) : List PV := [iv n.f, iv n.c, iv n.l, iv n.r, iv n.v]

/-- The first place where something holds, -1 if there is none. -/
def fidx {α : Type} (p : α → Bool) (l : List α) : Int := match l.findIdx? p with
  | some i => (i : Int)
  | none => -1

/-- A node that has a node below it. -/
def above (k : Int) (n : Nd) : Bool := !decide (n.f = -1) && (decide (n.l = k) || decide (n.r = k))

def par (t : List Nd) (k : Int) : Int := fidx (above k) t

theorem wS {i n : Nat} (h : i < n) (hn : n ≤ 9223372036854775807) : IntKind.i64.wrap ((i : Int) + 1) = (i : Int) + 1 := w64 (by omega) (by omega)

def ints (l : List Int) : List (List PV) := l.map fun n => [iv n]

@[simp] theorem ints_len (l : List Int) : (ints l).length = l.length := by simp [ints]

theorem ints_get {l : List Int} {i : Nat} {x : Int} (h : l[i]? = some x) : (ints l)[i]? = some [iv x] := by simp [ints, h]

@[simp] theorem ints_nil : ints [] = [] := rfl

theorem ints_snoc (l : List Int) (x : Int) : ints l ++ [[iv x]] = ints (l ++ [x]) := by simp [ints]

/-- The nodes above a node, from it on, if they are fewer than a number. -/
def anc (t : List Nd) : Nat → Int → Option (List Int)
  | 0, _ => none
  | n + 1, k => if par t k < 0 then some [] else (anc t n (par t k)).map (par t k :: ·)

def way (t : List Nd) (k : Int) : List Int := if 0 ≤ k ∧ k ≤ t.length - 1 then match anc t 32 k with
    | some l => (k :: l).reverse
    | none => []
  else []

theorem room8 {n : Nat} (h : n ≤ 17592186044416) : roomFor 8 n = true := by simp [roomFor]; omega

/-- The numbers from one on, so many. -/
def upto (k : Int) (n : Nat) : List Int := (List.range n).map fun (i : Nat) => k + (i : Int)

@[simp] theorem upto_len (k : Int) (n : Nat) : (upto k n).length = n := by simp [upto]

@[simp] theorem R_spec_l1Max (a b : Int) : RUN T k_spec_l1Max [iv a, iv b] = some ([iv (max a b)], []) := by
  refine RUN_W T_spec_l1Max rfl ?_
  simp [k_spec_l1Max_ic, k_spec_l1Max_rv]
  refine Br_i (fun b0 => ?_) (fun b0 => ?_) <;> (try simp at b0) <;> simp [-getElem?_pos, b0, ]
  all_goals omega

def inI (n : Int) : Prop := -9223372036854775808 ≤ n ∧ n ≤ 9223372036854775807

/-- The range of a feature's values along a way. -/
def box (t : List Nd) (f : Int) : List Int → Int → Int → Int × Int
  | a :: b :: r, lo, hi => match t[a.toNat]? with
    | none => (lo, hi)
    | some x => if x.f = f then (if x.l = b then box t f (b :: r) lo (min hi x.c) else if x.c = 9223372036854775807 then box t f (b :: r) lo hi else box t f (b :: r) (max lo (x.c + 1)) hi) else box t f (b :: r) lo hi
  | _, lo, hi => (lo, hi)

structure Cfg where
  ro : Int
  de : Int
  bi : Int
  la : Int
  rw : Int
  nu : Int
  dn : Int
  sg : List Int

def within (n a b : Int) : Bool := decide (a ≤ n) && decide (n ≤ b)

def cfgOk (c : Cfg) : Bool := within c.ro 1 8 && within c.de 0 4 && within c.bi 2 8 && within c.la 1 100 && within c.rw 1 20 && within c.dn 1 1000 && within c.nu 1 c.dn && decide ((c.sg.length : Int) ≤ 4) && c.sg.all fun n => within n (-1) 1

def leafV (v : Int) : Bool := within v (-1099511627776) 1099511627776

/-- A value times the learning rate. -/
def shr (v : Int) (c : Cfg) : Int × Bool := if cfgOk c && leafV v then (( v * c.nu).fdiv c.dn, true) else (0, false)

/-- A row within rows: a slice's own, or one that is read. -/
def cel (q : Bool) (l : List Int) : PV := if q then .own 1 (ints l) else .sl 1 (ints l)

@[simp] theorem fz_cel (q : Bool) (l : List Int) : fz (cel q l) = .sl 1 (ints l) := by cases q <;> simp [cel]

def rws (q : Bool) (L : List (List Int)) : List (List PV) := L.map fun l => [cel q l]

@[simp] theorem rws_len (q : Bool) (L : List (List Int)) : (rws q L).length = L.length := by simp [rws]

theorem yv_gu {s : St} {d : Option Dst} {op : IOp} {g : Opd} {v : Bool} {x : PV} : (yv s ⟨d, op, some (g, v)⟩ = some x) = (Ob' (guardP v (g.get s)) fun t => Br t (WI (fun _ => []) (fun _ _ => none) op s (fun y _ => y = x)) (PV.v Go.undef = x)) := by
  simp only [yv, evG_some, WI, Ob', Br, Option.map_eq_some_iff, Option.bind_eq_some_iff, eq_iff_iff]
  constructor
  · rintro ⟨⟨y, s'⟩, ⟨t, h1, h2⟩, h3⟩
    refine ⟨t, h1, fun ht => ?_, fun ht => ?_⟩ <;> subst ht
    · exact ⟨y, s', by simpa using h2, h3⟩
    · simp at h2; obtain ⟨rfl, rfl⟩ := h2; exact h3
  · rintro ⟨t, h1, h2, h3⟩
    cases t with
    | true => obtain ⟨y, s', h4, h5⟩ := h2 rfl; exact ⟨(y, s'), ⟨true, h1, by simpa using h4⟩, h5⟩
    | false => exact ⟨_, ⟨false, h1, rfl⟩, h3 rfl⟩

@[simp] theorem chkTodo_g {s : St} {d : Option Dst} {op : IOp} {g : Opd} {v : Bool} {x : PV} {n : Nat} {r : List (IOper × PV × Nat)} : chkTodo s ((⟨d, op, some (g, v)⟩, x, n + 1) :: r) = ((Ob' (guardP v (g.get s)) fun t => Br t (WI (fun _ => []) (fun _ _ => none) op s (fun y _ => y = x)) (PV.v Go.undef = x)) ∧ chkTodo s r) := by
  simp only [chkTodo, yv_gu]

@[simp] theorem chkPast_g {V E : Nat → PV} {d : Option Dst} {op : IOp} {g : Opd} {v : Bool} {x : PV} {n : Nat} {s : St} {ms : List St} : chkPast V E ⟨d, op, some (g, v)⟩ x (n + 1) (s :: ms) = ((Ob' (guardP v (g.get { s with V := V, E := E })) fun t => Br t (WI (fun _ => []) (fun _ _ => none) op { s with V := V, E := E } (fun y _ => y = x)) (PV.v Go.undef = x)) ∧ chkPast V E ⟨d, op, some (g, v)⟩ x n ms) := by
  simp only [chkPast, yv_gu]

theorem rows_of {α : Type} {f : α → List PV} {p : α → Prop} {tys : List TY} (h : ∀ cs, ShpL tys cs → ∃ a, f a = cs ∧ p a) : ∀ {es : List (List PV)}, (∀ cs ∈ es, ShpL tys cs) → ∃ l : List α, l.map f = es ∧ ∀ a ∈ l, p a
  | [], _ => ⟨[], rfl, by simp⟩
  | e :: es, hs => by
    obtain ⟨a, ha, hp⟩ := h e (hs e (by simp))
    obtain ⟨l, hl, hq⟩ := rows_of h (es := es) (fun cs hc => hs cs (by simp [hc]))
    refine ⟨a :: l, by simp [ha, hl], fun b hb => ?_⟩
    rcases List.mem_cons.mp hb with e | e
    · subst e; exact hp
    · exact hq b e

theorem of_all {P : Program} {l : List TypeId} (h : (l.all fun t => P.readableRec t && decide (t < P.types.size)) = true) : ∀ t ∈ l, P.readableRec t = true ∧ t < P.types.size := by
  intro t ht
  have := List.all_eq_true.mp h t ht
  simpa using this

theorem args1 {p : Bool × List TY} {pvs : List PV} (h : All2 (fun p c => ShpA p.1 p.2 c) [p] pvs) : ∃ a, pvs = [a] ∧ ShpA p.1 p.2 a := by
  cases h with
  | cons h1 t => cases t with
    | nil => exact ⟨_, rfl, h1⟩

/-- The bytes that a source draws from. -/
def byts (B : List Int) : List (List PV) := B.map fun n => [.v (.int .u8 n)]

@[simp] theorem byts_len (B : List Int) : (byts B).length = B.length := by simp [byts]

theorem byts_get {B : List Int} {i : Nat} {x : Int} (h : B[i]? = some x) : (byts B)[i]? = some [.v (.int .u8 x)] := by simp [byts, h]

/-- The end of a call of which something is told. -/
def FinG (rv : List RV) (io : Nat) (G : List PV × List PV → Prop) (_ : Dm rv) (_ : Dm G) (e : Ex) (s : St) : Prop := (e = .normal ∨ e = .ret) ∧ ∃ r, finishEv ⟨[], rv, .skip⟩ io s = some r ∧ G r

@[simp] theorem FinG_n {rv : List RV} {io : Nat} {G : List PV × List PV → Prop} {s : St} : FinG rv io G ⟨⟩ ⟨⟩ .normal s = ∃ r, finishEv ⟨[], rv, .skip⟩ io s = some r ∧ G r := by simp [FinG]

@[simp] theorem FinG_r {rv : List RV} {io : Nat} {G : List PV × List PV → Prop} {s : St} : FinG rv io G ⟨⟩ ⟨⟩ .ret s = ∃ r, finishEv ⟨[], rv, .skip⟩ io s = some r ∧ G r := by simp [FinG]

theorem RUN_G {T : Table} {f : Nat} {ms : List Bool} {rv : List RV} {ic : IC} {G : List PV × List PV → Prop} (hT : T f = some (.code ⟨ms, rv, ic⟩)) {args : List PV} {st : St} (hi : initEv args = some st) (h : W (modesOf T) (RUN T) ic st (FinG rv st.nx G ⟨⟩ ⟨⟩)) : ∃ r, RUN T f args = some r ∧ G r := by
  unfold W at h
  obtain ⟨e, s, h1, h2, r, h3, hG⟩ := h
  refine ⟨r, RUN_code hT ?_, hG⟩
  unfold callL
  rw [hi]
  simp only [Option.bind_some, h1]
  rcases h2 with rfl | rfl <;> exact h3
attribute [irreducible] FinG

theorem and255 (X : Nat) : 0 ≤ IntKind.i64.wrap ((X &&& 255 % 2 ^ IntKind.i64.bits : Nat) : Int) ∧ IntKind.i64.wrap ((X &&& 255 % 2 ^ IntKind.i64.bits : Nat) : Int) ≤ 255 := by
  have h : X &&& 255 % 2 ^ IntKind.i64.bits ≤ 255 := Nat.le_trans Nat.and_le_right (by decide)
  rw [w64 (by omega) (by omega)]
  omega

/-- What a drawing function may answer: a value with a property, and the source further on. -/
def Draw (B : List Int) (P : PV → Prop) (r : List PV × List PV) : Prop := ∃ (v : PV) (p : Nat) (s : Int), P v ∧ p ≤ B.length ∧ r = ([v], [.bx [.sl 1 (byts B), iv p, iv s]])

def PB (v : PV) : Prop := ∃ b, v = bv b

def PM (l : List Int) (v : PV) : Prop := ∃ n, v = iv n ∧ n ∈ l

def PI (v : PV) : Prop := ∃ n, v = iv n ∧ inI n

def PN (n : Int) (v : PV) : Prop := ∃ m, v = iv m ∧ 0 ≤ m ∧ (0 < n → m < n)

theorem R_spec_l1Byte (B : List Int) (p : Nat) (s : Int) (hp : p ≤ B.length) (hB : B.length ≤ 9223372036854775807) : ∃ r, RUN T k_spec_l1Byte [.bx [.sl 1 (byts B), iv p, iv s]] = some r ∧ Draw B (fun v => ∃ n, v = iv n ∧ 0 ≤ n ∧ n ≤ 255) r := by
  refine RUN_G T_spec_l1Byte rfl ?_
  by_cases h : p < B.length
  · obtain ⟨x, hx⟩ : ∃ x, B[p]? = some x := ⟨_, List.getElem?_eq_getElem h⟩
    have hx' := byts_get hx
    have hw := wS h hB
    simp [-getElem?_pos, k_spec_l1Byte_ic, k_spec_l1Byte_rv, h, hx', hw]
    exact ⟨_, p + 1, _, ⟨_, rfl, (and255 _).1, (and255 _).2⟩, h, rfl⟩
  · have h' : ¬ ((p : Int) < B.length) := by omega
    simp [-getElem?_pos, k_spec_l1Byte_ic, k_spec_l1Byte_rv, h, h']
    exact ⟨_, p, _, ⟨_, rfl, (and255 _).1, (and255 _).2⟩, hp, rfl⟩

theorem R_spec_l1Below (B : List Int) (p : Nat) (s : Int) (hp : p ≤ B.length) (hB : B.length ≤ 9223372036854775807) (n : Int) (hn : n ≤ 9223372036854775807) : ∃ r, RUN T k_spec_l1Below [.bx [.sl 1 (byts B), iv p, iv s], iv n] = some r ∧ Draw B (PN n) r := by
  refine RUN_G T_spec_l1Below rfl ?_
  obtain ⟨r1, h1, v1, p1, s1, ⟨a1, rfl, a10, a11⟩, hp1, rfl⟩ := R_spec_l1Byte B p s hp hB
  by_cases c1 : n ≤ 0
  · simp [-getElem?_pos, k_spec_l1Below_ic, k_spec_l1Below_rv, c1]
    exact ⟨_, p, s, ⟨0, rfl, by omega, by omega⟩, hp, rfl⟩
  have c0 : ¬ (n = 0) := by omega
  by_cases c2 : n ≤ 256
  · simp [-getElem?_pos, k_spec_l1Below_ic, k_spec_l1Below_rv, c0, c1, c2, h1]
    refine ⟨_, p1, s1, ⟨_, rfl, ?_, fun _ => ?_⟩, hp1, rfl⟩
    · exact Int.tmod_nonneg _ a10
    · exact Int.tmod_lt_of_pos _ (by omega)
  obtain ⟨r2, h2, v2, p2, s2, ⟨a2, rfl, a20, a21⟩, hp2, rfl⟩ := R_spec_l1Byte B p1 s1 hp1 hB
  obtain ⟨r3, h3, v3, p3, s3, ⟨a3, rfl, a30, a31⟩, hp3, rfl⟩ := R_spec_l1Byte B p2 s2 hp2 hB
  obtain ⟨r4, h4, v4, p4, s4, ⟨a4, rfl, a40, a41⟩, hp4, rfl⟩ := R_spec_l1Byte B p3 s3 hp3 hB
  have w1 := w64 (x := a1 * 16777216) (by omega) (by omega)
  have w2 := w64 (x := a2 * 65536) (by omega) (by omega)
  have w3 := w64 (x := a1 * 16777216 + a2 * 65536) (by omega) (by omega)
  have w4 := w64 (x := a3 * 256) (by omega) (by omega)
  have w5 := w64 (x := a1 * 16777216 + a2 * 65536 + a3 * 256) (by omega) (by omega)
  have w6 := w64 (x := a1 * 16777216 + a2 * 65536 + a3 * 256 + a4) (by omega) (by omega)
  simp [-getElem?_pos, k_spec_l1Below_ic, k_spec_l1Below_rv, c0, c1, c2, h1, h2, h3, h4, w1, w2, w3, w4, w5, w6]
  refine ⟨_, p4, s4, ⟨_, rfl, ?_, fun _ => ?_⟩, hp4, rfl⟩
  · exact Int.tmod_nonneg _ (by omega)
  · exact Int.tmod_lt_of_pos _ (by omega)

theorem R_spec_l1Once (B : List Int) (p : Nat) (s : Int) (hp : p ≤ B.length) (hB : B.length ≤ 9223372036854775807) (n : Int) (hn : n ≤ 9223372036854775807) : ∃ r, RUN T k_spec_l1Once [.bx [.sl 1 (byts B), iv p, iv s], iv n] = some r ∧ Draw B PB r := by
  refine RUN_G T_spec_l1Once rfl ?_
  obtain ⟨r1, h1, v1, p1, s1, ⟨a1, rfl, a10, a11⟩, hp1, rfl⟩ := R_spec_l1Below B p s hp hB n hn
  simp [-getElem?_pos, k_spec_l1Once_ic, k_spec_l1Once_rv, h1]
  exact ⟨_, p1, s1, ⟨_, rfl⟩, hp1, rfl⟩

/-- The same where a list is handed over and back. -/
def Draw2 (B : List Int) (l : List Int) (P : PV → Prop) (r : List PV × List PV) : Prop := ∃ (v : PV) (p : Nat) (s : Int), P v ∧ p ≤ B.length ∧ r = ([v], [.bx [.sl 1 (byts B), iv p, iv s], .own 1 (ints l)])

theorem R_spec_l1PickInt (B : List Int) (p : Nat) (s : Int) (hp : p ≤ B.length) (hB : B.length ≤ 9223372036854775807) (l : List Int) (hl : 0 < l.length ∧ l.length ≤ 9223372036854775807) : ∃ r, RUN T k_spec_l1PickInt [.bx [.sl 1 (byts B), iv p, iv s], .own 1 (ints l)] = some r ∧ Draw2 B l (PM l) r := by
  refine RUN_G T_spec_l1PickInt rfl ?_
  obtain ⟨r1, h1, v1, p1, s1, ⟨a1, rfl, a10, a11⟩, hp1, rfl⟩ := R_spec_l1Below B p s hp hB l.length (by omega)
  obtain ⟨i, rfl⟩ : ∃ i : Nat, a1 = i := ⟨a1.toNat, by omega⟩
  have hi : i < l.length := by have := a11 (by omega); omega
  obtain ⟨x, hx⟩ : ∃ x, l[i]? = some x := ⟨_, List.getElem?_eq_getElem hi⟩
  have hx' := ints_get hx
  simp [-getElem?_pos, k_spec_l1PickInt_ic, k_spec_l1PickInt_rv, h1, hx', hi]
  exact ⟨_, p1, s1, ⟨x, rfl, List.mem_of_getElem? hx⟩, hp1, rfl⟩

theorem inI_wrap (x : Int) : inI (IntKind.i64.wrap x) := by
  unfold inI IntKind.wrap
  simp [IntKind.bits, IntKind.signed]
  omega

theorem R_spec_l1Whole (B : List Int) (p : Nat) (s : Int) (hp : p ≤ B.length) (hB : B.length ≤ 9223372036854775807) : ∃ r, RUN T k_spec_l1Whole [.bx [.sl 1 (byts B), iv p, iv s]] = some r ∧ Draw B PI r := by
  refine RUN_G T_spec_l1Whole rfl ?_
  obtain ⟨r1, h1, v1, p1, s1, ⟨a1, rfl, a10, a11⟩, hp1, rfl⟩ := R_spec_l1Below B p s hp hB 4 (by omega)
  by_cases c0 : a1 = 0
  · obtain ⟨r2, h2, v2, p2, s2, ⟨a2, rfl, hm⟩, hp2, rfl⟩ := R_spec_l1PickInt B p1 s1 hp1 hB [0, 1, -1, 9, 10, 999, 1000, 2147483647, -2147483648, 3037000499, 3037000500, 9223372036854775807, -9223372036854775807, -9223372036854775808] (by simp)
    simp only [ints, List.map] at h2
    simp [-getElem?_pos, k_spec_l1Whole_ic, k_spec_l1Whole_rv, h1, c0, h2]
    refine ⟨_, p2, s2, ⟨a2, rfl, ?_⟩, hp2, rfl⟩
    simp at hm
    unfold inI
    omega
  by_cases c1 : a1 = 1
  · simp [-getElem?_pos, k_spec_l1Whole_ic, k_spec_l1Whole_rv, h1, c0, c1]
    refine W_loop (fun n st => ∃ (i p : Nat) (x s : Int), i + n = 8 ∧ p ≤ B.length ∧ inI x ∧ st.V 0 = .ptr 0 none 0 0 0 ∧ st.V 3 = iv x ∧ st.V 4 = iv i ∧ 0 < st.nx ∧ st.ep = 0 ∧ st.S 0 = some (.box [.sl 1 (byts B), iv p, iv s])) ?_ 8 _ ⟨0, p1, 0, s1, by omega, hp1, by unfold inI; omega, by simp⟩
    clear h1
    rintro n st ⟨i, p, x, s, hi, hp, hx, v0, v3, v4, hnx, hep, hS⟩
    simp [k_spec_l1Whole_b0, v4]
    refine Br_i (fun h => ?_) (fun h => ?_)
    · simp at h
      obtain ⟨r2, h2, v2, p2, s2, ⟨a2, rfl, a20, a21⟩, hp2, rfl⟩ := R_spec_l1Byte B p s hp hB
      have w := w64 (x := (i : Int) + 1) (by omega) (by omega)
      simp [-getElem?_pos, v0, v3, v4, hep, hS, h2, w]
      exact Rnd_n (n - 1) (by omega) ⟨i + 1, p2, _, s2, by omega, hp2, inI_wrap _, by simp [v0], by simp; rfl, by simp, by simp [hnx], by simp [hep], by simp⟩
    · simp [-getElem?_pos, v3, v0, hS]
      exact ⟨_, p, s, ⟨x, rfl, hx⟩, hp, rfl⟩
  by_cases c2 : a1 = 2
  · obtain ⟨r2, h2, v2, p2, s2, ⟨a2, rfl, a20, a21⟩, hp2, rfl⟩ := R_spec_l1Below B p1 s1 hp1 hB 1000000 (by omega)
    have a22 := a21 (by omega)
    have w := w64 (x := a2 - 500000) (by omega) (by omega)
    simp [-getElem?_pos, k_spec_l1Whole_ic, k_spec_l1Whole_rv, h1, c0, c1, c2, h2, w]
    exact ⟨_, p2, s2, ⟨_, rfl, by unfold inI; omega⟩, hp2, rfl⟩
  · obtain ⟨r2, h2, v2, p2, s2, ⟨a2, rfl, a20, a21⟩, hp2, rfl⟩ := R_spec_l1Below B p1 s1 hp1 hB 41 (by omega)
    have a22 := a21 (by omega)
    have w := w64 (x := a2 - 20) (by omega) (by omega)
    simp [-getElem?_pos, k_spec_l1Whole_ic, k_spec_l1Whole_rv, h1, c0, c1, c2, h2, w]
    exact ⟨_, p2, s2, ⟨_, rfl, by unfold inI; omega⟩, hp2, rfl⟩

def PO (q : Int → Prop) (k : Nat) (v : PV) : Prop := ∃ l : List Int, v = .own 1 (ints l) ∧ l.length ≤ k ∧ ∀ n ∈ l, q n

theorem R_spec_l1New (B : List Int) (hB : B.length ≤ 9223372036854775807) : ∃ r, RUN T k_spec_l1New [.sl 1 (byts B)] = some r ∧ ∃ s : Int, r = ([.bx [.sl 1 (byts B), iv (0 : Nat), iv s]], []) := by
  refine RUN_G T_spec_l1New rfl ?_
  simp [-getElem?_pos, k_spec_l1New_ic, k_spec_l1New_rv]
  refine W_loop (fun n st => ∃ (i : Nat) (x : Int), i + n = B.length ∧ st.V 0 = .sl 1 (byts B) ∧ st.V 3 = iv x ∧ st.V 4 = iv i) ?_ B.length _ ⟨0, _, by omega, by simp, by simp; rfl, by simp⟩
  rintro n st ⟨i, x, hi, v0, v3, v4⟩
  by_cases h : i < B.length
  · obtain ⟨b, hx⟩ : ∃ b, B[i]? = some b := ⟨_, List.getElem?_eq_getElem h⟩
    have hx' := byts_get hx
    have hw := wS h hB
    by_cases h2 : (i : Int) < 4000
    · have h2' := eq_true h2
      simp [-getElem?_pos, k_spec_l1New_b0, v0, v3, v4, h, h2', hx', hw]
      exact Rnd_n (n - 1) (by omega) ⟨i + 1, _, by omega, by simp [v0], by simp; rfl, by simp⟩
    · have h2' := eq_false h2
      simp [-getElem?_pos, k_spec_l1New_b0, v0, v3, v4, h, h2']
  · simp [-getElem?_pos, k_spec_l1New_b0, v0, v3, v4, h]

theorem R_spec_l10List (B : List Int) (p : Nat) (s : Int) (hp : p ≤ B.length) (hB : B.length ≤ 9223372036854775807) : ∃ r, RUN T k_spec_l10List [.bx [.sl 1 (byts B), iv p, iv s]] = some r ∧ Draw B (PO inI 64) r := by
  refine RUN_G T_spec_l10List rfl ?_
  obtain ⟨r1, h1, v1, p1, s1, ⟨a1, rfl, a10, a11⟩, hp1, rfl⟩ := R_spec_l1Below B p s hp hB 10 (by omega)
  have a12 := a11 (by omega)
  obtain ⟨r2, h2, v2, p2, s2, ⟨a2, rfl⟩, hp2, rfl⟩ := R_spec_l1Once B p1 s1 hp1 hB 12 (by omega)
  have key : ∀ (k : Int) (st : St) (p : Nat) (s : Int), 0 ≤ k → k ≤ 64 → p ≤ B.length → st.V 0 = .ptr 0 none 0 0 0 → st.V 3 = .ref 1 none 0 0 0 → st.V 4 = iv k → st.V 5 = iv (0 : Nat) → 1 < st.nx → st.ep = 0 → st.S 0 = some (.box [.sl 1 (byts B), iv p, iv s]) → st.S 1 = some (.row 1 []) →
      W (modesOf T) (RUN T) (.loop k_spec_l10List_b0) st (Bl 0 (Nx (fun s => W (modesOf T) (RUN T) (.seq (.reg [⟨some (.E 33), .mv (.V 3), none⟩, ⟨some (.V 2), .mv (.E 33), none⟩]) .ret) s (FinG k_spec_l10List_rv 1 (Draw B (PO inI 64)) ⟨⟩ ⟨⟩)) (FinG k_spec_l10List_rv 1 (Draw B (PO inI 64)) ⟨⟩ ⟨⟩) ⟨⟩ ⟨⟩) ⟨⟩) := by
    intro k st p s hk0 hk hp v0 v3 v4 v5 hnx hep hS h1
    obtain ⟨kn, rfl⟩ : ∃ n : Nat, k = n := ⟨k.toNat, by omega⟩
    refine W_loop (fun n st => ∃ (i p o e : Nat) (s : Int) (m : List Int), i + n = kn ∧ m.length = i ∧ (∀ n ∈ m, inI n) ∧ p ≤ B.length ∧ st.V 0 = .ptr 0 none 0 0 0 ∧ st.V 3 = .ref o none e 0 m.length ∧ st.V 4 = iv kn ∧ st.V 5 = iv i ∧ 0 < o ∧ o < st.nx ∧ st.ep = 0 ∧ st.S 0 = some (.box [.sl 1 (byts B), iv p, iv s]) ∧ st.S o = some (.row 1 (ints m))) ?_ kn _ ⟨0, p, 1, 0, s, [], by omega, rfl, by simp, hp, v0, v3, v4, v5, by omega, hnx, hep, hS, h1⟩
    clear v0 v3 v4 v5 hnx hep hS h1 hp
    rintro n st ⟨i, p, o, e, s, m, hi, hm, hmi, hp, v0, v3, v4, v5, ho, hox, hep, hS, hSo⟩
    simp [k_spec_l10List_b0, v4, v5]
    refine Br_i (fun h => ?_) (fun h => ?_)
    · simp at h
      have z1 := fr hox
      have z2 := fr ho
      have z3 := fr (by omega : 0 < st.nx)
      have hw := w64 (x := (i : Int) + 1) (by omega) (by omega)
      have hr8 := room8 (n := m.length + 1) (by omega)
      obtain ⟨r1, h1, v1, p1, s1, ⟨a1, rfl⟩, hp1, rfl⟩ := R_spec_l1Once B p s hp hB 12 (by omega)
      cases a1 with
      | true =>
        obtain ⟨r2, h2, v2, p2, s2, ⟨x, rfl, hx⟩, hp2, rfl⟩ := R_spec_l1Whole B p1 s1 hp1 hB
        simp [-getElem?_pos, v0, v3, v4, v5, hep, hS, hSo, z1, z2, z3, h1, h2, hr8, ints_snoc, hw]
        refine Rnd_n (n - 1) (by omega) ⟨i + 1, p2, st.nx + 1, 0, s2, m ++ [x], by omega, by simp [hm], ?_, hp2, by simp [v0], by simp, by simp [v4], by simp, ?_, ?_, by simp [hep], by simp [z1, z2, z3], by simp⟩
        · intro y hy; rcases List.mem_append.mp hy with h | h
          · exact hmi y h
          · simp at h; subst h; exact hx
        · omega
        · simp
      | false =>
        obtain ⟨r2, h2, v2, p2, s2, ⟨x, rfl, hx0, hx⟩, hp2, rfl⟩ := R_spec_l1Below B p1 s1 hp1 hB 9 (by omega)
        have hx1 := hx (by omega)
        have w1 := w64 (x := x - 4) (by omega) (by omega)
        have w2 := w64 (x := 500 * (x - 4)) (by omega) (by omega)
        simp [-getElem?_pos, v0, v3, v4, v5, hep, hS, hSo, z1, z2, z3, h1, h2, hr8, ints_snoc, hw, w1, w2]
        refine Rnd_n (n - 1) (by omega) ⟨i + 1, p2, st.nx + 1, 0, s2, m ++ [500 * (x - 4)], by omega, by simp [hm], ?_, hp2, by simp [v0], by simp, by simp [v4], by simp, ?_, ?_, by simp [hep], by simp [z1, z2, z3], by simp⟩
        · intro y hy; rcases List.mem_append.mp hy with h | h
          · exact hmi y h
          · simp at h; subst h; unfold inI; omega
        · omega
        · simp
    · simp at h
      have h1o : 1 ≤ o := ho
      simp [-getElem?_pos, v0, v3, hS, hSo, h1o, k_spec_l10List_rv]
      exact ⟨_, p, s, ⟨m, rfl, by omega, hmi⟩, hp, rfl⟩
  cases a2 with
  | true =>
    obtain ⟨r3, h3, v3, p3, s3, ⟨a3, rfl, a30, a31⟩, hp3, rfl⟩ := R_spec_l1Below B p2 s2 hp2 hB 5 (by omega)
    have a32 := a31 (by omega)
    have w := w64 (x := 38 + a3) (by omega) (by omega)
    simp [-getElem?_pos, k_spec_l10List_ic, h1, h2, h3, w]
    exact key (38 + a3) _ p3 s3 (by omega) (by omega) hp3 (by simp) (by simp) (by simp) (by simp) (by simp) (by simp) (by simp) (by simp)
  | false =>
    simp [-getElem?_pos, k_spec_l10List_ic, h1, h2]
    exact key a1 _ p2 s2 (by omega) (by omega) hp2 (by simp) (by simp) (by simp) (by simp) (by simp) (by simp) (by simp) (by simp)

theorem R_laws_big (es : List (List PV)) : RUN T k_laws_big [.sl 1 es] = some ([bv (decide ((1048576 : Int) < es.length))], []) := by
  refine RUN_W T_laws_big rfl ?_
  simp [-getElem?_pos, k_laws_big_ic, k_laws_big_rv]

def strs (l : List ByteArray) : List (List PV) := l.map fun s => [.v (.string s)]

@[simp] theorem strs_len (l : List ByteArray) : (strs l).length = l.length := by simp [strs]

def celT (q : Bool) (t : List Nd) : PV := if q then .own 5 (t.map nd) else .sl 5 (t.map nd)

@[simp] theorem fz_celT (q : Bool) (t : List Nd) : fz (celT q t) = .sl 5 (t.map nd) := by cases q <;> simp [celT]

def trs (q : Bool) (M : List (List Nd)) : List (List PV) := M.map fun t => [celT q t]

@[simp] theorem trs_len (q : Bool) (M : List (List Nd)) : (trs q M).length = M.length := by simp [trs]

def rwS (q : Bool) (l : List ByteArray) : PV := if q then .own 1 (strs l) else .sl 1 (strs l)

@[simp] theorem fz_rwS (q : Bool) (l : List ByteArray) : fz (rwS q l) = .sl 1 (strs l) := by cases q <;> simp [rwS]

def rwsS (q : Bool) (L : List (List ByteArray)) : List (List PV) := L.map fun l => [rwS q l]

@[simp] theorem rwsS_len (q : Bool) (L : List (List ByteArray)) : (rwsS q L).length = L.length := by simp [rwsS]

/-- The numbers below one that are meant. -/
def picks (p : Nat → Bool) (i : Nat) : List Int := ((List.range i).filter p).map fun (j : Nat) => (j : Int)

@[simp] theorem picks_0 (p : Nat → Bool) : picks p 0 = [] := rfl

theorem wu64 (x : Int) : IntKind.u64.wrap x = x % 18446744073709551616 := IntKind.wrap_u64 x

theorem bMulU (a b : Int) : binV .mul (.int .u64 a) (.int .u64 b) = some (.int .u64 (a * b % 18446744073709551616)) := by rw [binV_mul, wu64]

theorem bAddU (a b : Int) : binV .add (.int .u64 a) (.int .u64 b) = some (.int .u64 ((a + b) % 18446744073709551616)) := by rw [binV_add, wu64]

theorem bShr32 (x : Int) : binV .shr (.int .u64 x) (.int .u64 32) = some (.int .u64 (x / 4294967296)) := by
  rw [binV_shr, if_pos (by decide)]
  have : (2 : Int) ^ min (32 : Int).toNat IntKind.u64.bits = 4294967296 := by decide
  rw [this, Int.fdiv_eq_ediv_of_nonneg _ (by decide)]

theorem bShl32 (x : Int) : binV .shl (.int .u64 x) (.int .u64 32) = some (.int .u64 (x * 4294967296 % 18446744073709551616)) := by
  rw [binV_shl, if_pos (by decide), wu64]
  have : (2 : Int) ^ min (32 : Int).toNat IntKind.u64.bits = 4294967296 := by decide
  rw [this]

theorem bAnd32 {x : Int} (h0 : 0 ≤ x) (h1 : x < 18446744073709551616) : binV .and (.int .u64 x) (.int .u64 4294967295) = some (.int .u64 (x % 4294967296)) := by
  rw [binV_and, wu64]
  have e : ((BitVec.ofInt IntKind.u64.bits x &&& BitVec.ofInt IntKind.u64.bits 4294967295).toNat : Int) = x % 4294967296 := by
    obtain ⟨n, rfl⟩ := Int.eq_ofNat_of_zero_le h0
    have hn : n < 2 ^ 64 := by omega
    have e2 : (BitVec.ofInt 64 (n : Int) &&& BitVec.ofInt 64 4294967295).toNat = n % 4294967296 := by
      rw [BitVec.toNat_and]
      have e3 : (BitVec.ofInt 64 (n : Int)).toNat = n := by
        rw [BitVec.ofInt_natCast, BitVec.toNat_ofNat, Nat.mod_eq_of_lt hn]
      have e4 : (BitVec.ofInt 64 4294967295).toNat = 2 ^ 32 - 1 := by decide
      rw [e3, e4, Nat.and_two_pow_sub_one_eq_mod]
    show (((BitVec.ofInt 64 (n : Int) &&& BitVec.ofInt 64 4294967295).toNat : Nat) : Int) = _
    rw [e2]; omega
  rw [e]; congr 2; omega

/-- The four part products of two numbers of 64 bits. -/
theorem parts {x y : Int} (hx : 0 ≤ x) (hx1 : x < 18446744073709551616) (hy : 0 ≤ y) (hy1 : y < 18446744073709551616) :
    ∃ a b c d : Int, a = x % 4294967296 * (y % 4294967296) ∧ b = x / 4294967296 * (y % 4294967296) ∧ c = x % 4294967296 * (y / 4294967296) ∧ d = x / 4294967296 * (y / 4294967296) ∧ 0 ≤ a ∧ a ≤ 18446744065119617025 ∧ 0 ≤ b ∧ b ≤ 18446744065119617025 ∧ 0 ≤ c ∧ c ≤ 18446744065119617025 ∧ 0 ≤ d ∧ d ≤ 18446744065119617025 ∧ x * y = d * 18446744073709551616 + (b + c) * 4294967296 + a := by
  have bd : ∀ u v : Int, 0 ≤ u → u ≤ 4294967295 → 0 ≤ v → v ≤ 4294967295 → 0 ≤ u * v ∧ u * v ≤ 18446744065119617025 := fun u v h1 h2 h3 h4 =>
    ⟨Int.mul_nonneg h1 h3, Int.le_trans (Int.mul_le_mul h2 h4 h3 (by decide)) (by decide)⟩
  have x0 : 0 ≤ x % 4294967296 ∧ x % 4294967296 ≤ 4294967295 := by omega
  have x1 : 0 ≤ x / 4294967296 ∧ x / 4294967296 ≤ 4294967295 := by omega
  have y0 : 0 ≤ y % 4294967296 ∧ y % 4294967296 ≤ 4294967295 := by omega
  have y1 : 0 ≤ y / 4294967296 ∧ y / 4294967296 ≤ 4294967295 := by omega
  refine ⟨_, _, _, _, rfl, rfl, rfl, rfl, (bd _ _ x0.1 x0.2 y0.1 y0.2).1, (bd _ _ x0.1 x0.2 y0.1 y0.2).2, (bd _ _ x1.1 x1.2 y0.1 y0.2).1, (bd _ _ x1.1 x1.2 y0.1 y0.2).2, (bd _ _ x0.1 x0.2 y1.1 y1.2).1, (bd _ _ x0.1 x0.2 y1.1 y1.2).2, (bd _ _ x1.1 x1.2 y1.1 y1.2).1, (bd _ _ x1.1 x1.2 y1.1 y1.2).2, ?_⟩
  have ex : x = x / 4294967296 * 4294967296 + x % 4294967296 := by omega
  have ey : y = y / 4294967296 * 4294967296 + y % 4294967296 := by omega
  generalize x / 4294967296 = p at *
  generalize x % 4294967296 = q at *
  generalize y / 4294967296 = r at *
  generalize y % 4294967296 = s at *
  rw [ex, ey, Int.add_mul, Int.mul_add, Int.mul_add]
  have e1 : p * 4294967296 * (r * 4294967296) = p * r * 18446744073709551616 := by
    rw [show (18446744073709551616 : Int) = 4294967296 * 4294967296 by decide, Int.mul_assoc, Int.mul_comm 4294967296 (r * 4294967296), Int.mul_assoc r, ← Int.mul_assoc p r]
  have e2 : p * 4294967296 * s = p * s * 4294967296 := by rw [Int.mul_assoc, Int.mul_comm 4294967296 s, ← Int.mul_assoc]
  have e3 : q * (r * 4294967296) = q * r * 4294967296 := by rw [← Int.mul_assoc]
  rw [e1, e2, e3, Int.add_mul]
  omega

theorem R_math_bits_Mul64 (x y : Int) (hx : 0 ≤ x) (hx1 : x < 18446744073709551616) (hy : 0 ≤ y) (hy1 : y < 18446744073709551616) : RUN T k_math_bits_Mul64 [.v (.int .u64 x), .v (.int .u64 y)] = some ([.v (.int .u64 (x * y / 18446744073709551616)), .v (.int .u64 (x * y % 18446744073709551616))], []) := by
  refine RUN_W T_math_bits_Mul64 rfl ?_
  obtain ⟨a, b, c, d, ea, eb, ec, ed, a0, a1, b0, b1, c0, c1, d0, d1, hp⟩ := parts hx hx1 hy hy1
  have f1 := bAnd32 hx hx1
  have f2 := bAnd32 hy hy1
  have g1 : a % 18446744073709551616 = a := by omega
  have g2 : b % 18446744073709551616 = b := by omega
  have g3 : c % 18446744073709551616 = c := by omega
  have g4 : d % 18446744073709551616 = d := by omega
  have g5 : (b + a / 4294967296) % 18446744073709551616 = b + a / 4294967296 := by omega
  have f3 := bAnd32 (x := b + a / 4294967296) (by omega) (by omega)
  simp [-binV_mul, -binV_add, -binV_and, -binV_shr, bMulU, bAddU, bShr32, f1, f2, f3, k_math_bits_Mul64_ic, k_math_bits_Mul64_rv, ← ea, ← eb, ← ec, ← ed, g1, g2, g3, g4, g5]
  omega

theorem R_spec_l3Product (x y : Int) (hx : 0 ≤ x) (hx1 : x < 18446744073709551616) (hy : 0 ≤ y) (hy1 : y < 18446744073709551616) : RUN T k_spec_l3Product [.v (.int .u64 x), .v (.int .u64 y)] = some ([.v (.int .u64 (x * y / 18446744073709551616)), .v (.int .u64 (x * y % 18446744073709551616))], []) := by
  refine RUN_W T_spec_l3Product rfl ?_
  obtain ⟨a, b, c, d, ea, eb, ec, ed, a0, a1, b0, b1, c0, c1, d0, d1, hp⟩ := parts hx hx1 hy hy1
  have f1 := bAnd32 hx hx1
  have f2 := bAnd32 hy hy1
  have g1 : a % 18446744073709551616 = a := by omega
  have g2 : b % 18446744073709551616 = b := by omega
  have g3 : c % 18446744073709551616 = c := by omega
  have g4 : d % 18446744073709551616 = d := by omega
  have g5 : (b + a / 4294967296) % 18446744073709551616 = b + a / 4294967296 := by omega
  have f3 := bAnd32 (x := b + a / 4294967296) (by omega) (by omega)
  have f4 := bAnd32 (x := a) (by omega) (by omega)
  simp [-binV_mul, -binV_add, -binV_and, -binV_shr, -binV_shl, bMulU, bAddU, bShr32, bShl32, f1, f2, f3, f4, k_spec_l3Product_ic, k_spec_l3Product_rv, ← ea, ← eb, ← ec, ← ed, g1, g2, g3, g4, g5]
  omega

/-- A number of 128 bits with a sign. -/
structure Wd where
  n : Bool
  h : Int
  l : Int
deriving DecidableEq

abbrev uv (x : Int) : PV := .v (.int .u64 x)

def wd (w : Wd) : List PV := [bv w.n, uv w.h, uv w.l]

def wfU (w : Wd) : Prop := 0 ≤ w.h ∧ w.h < 18446744073709551616 ∧ 0 ≤ w.l ∧ w.l < 18446744073709551616

def wok (w : Wd) : Bool := decide (w.h < 9223372036854775808) && (!w.n || decide (0 < w.h) || decide (0 < w.l))

def mag (w : Wd) : Int := w.h * 18446744073709551616 + w.l

def mkW (n : Bool) (m : Int) : Wd := ⟨n && decide (0 < m), m / 18446744073709551616, m % 18446744073709551616⟩

def zeroW : Wd := ⟨false, 0, 0⟩

theorem mkW_wf {n : Bool} {m : Int} (h0 : 0 ≤ m) (h1 : m < 340282366920938463463374607431768211456) : wfU (mkW n m) := by
  unfold wfU mkW; simp only; omega

theorem mkW_mag {n : Bool} {m : Int} : mag (mkW n m) = m := by unfold mag mkW; simp only; omega

theorem mkW_ok {n : Bool} {m : Int} (h0 : 0 ≤ m) : wok (mkW n m) = decide (m < 170141183460469231731687303715884105728) := by
  unfold wok mkW
  simp only
  by_cases h : m < 170141183460469231731687303715884105728
  · have e : m / 18446744073709551616 < 9223372036854775808 := by omega
    rw [decide_eq_true h, decide_eq_true e]
    by_cases hz : 0 < m
    · by_cases h2 : 0 < m / 18446744073709551616
      · simp [h2]
      · have : 0 < m % 18446744073709551616 := by omega
        simp [this]
    · simp [hz]
  · have e : ¬ m / 18446744073709551616 < 9223372036854775808 := by omega
    rw [decide_eq_false h, decide_eq_false e]; rfl

theorem R_impl_size (n : Int) (h : inI n) : RUN T k_impl_size [iv n] = some ([uv n.natAbs], []) := by
  refine RUN_W T_impl_size rfl ?_
  obtain ⟨h0, h1⟩ := h
  simp [k_impl_size_ic, k_impl_size_rv]
  refine Br_i (fun h => ?_) (fun h => ?_) <;> simp at h <;> simp [wu64] <;> omega

theorem R_spec_l3Abs (n : Int) (h : inI n) : RUN T k_spec_l3Abs [iv n] = some ([uv n.natAbs], []) := by
  refine RUN_W T_spec_l3Abs rfl ?_
  obtain ⟨h0, h1⟩ := h
  have e1 : n < 0 → IntKind.i64.wrap (n + 1) = n + 1 := fun h => w64 (by omega) (by omega)
  have e2 : n < 0 → IntKind.i64.wrap (0 - (n + 1)) = 0 - (n + 1) := fun h => w64 (by omega) (by omega)
  simp [k_spec_l3Abs_ic, k_spec_l3Abs_rv]
  refine Br_i (fun h => ?_) (fun h => ?_) <;> simp at h
  · have e1 := e1 h
    have e2 := e2 h
    simp at e2
    simp [e1, e2, wu64]; omega
  · simp [wu64]; omega

theorem R_impl_wideOf (n : Bool) (h l : Int) : RUN T k_impl_wideOf [bv n, uv h, uv l] = some ([.agg (wd ⟨n && (decide (0 < h) || decide (0 < l)), h, l⟩)], []) := by
  refine RUN_W T_impl_wideOf rfl ?_
  cases n with
  | false => simp [k_impl_wideOf_ic, k_impl_wideOf_rv, wd]
  | true =>
    by_cases h1 : 0 < h
    · simp [k_impl_wideOf_ic, k_impl_wideOf_rv, wd, h1]
    · simp [k_impl_wideOf_ic, k_impl_wideOf_rv, wd, h1]

theorem R_impl_WideOk (w : Wd) : RUN T k_impl_WideOk [.agg (wd w)] = some ([bv (wok w)], []) := by
  refine RUN_W T_impl_WideOk rfl ?_
  obtain ⟨n, h, l⟩ := w
  unfold wok
  by_cases h1 : h < 9223372036854775808
  · cases n with
    | false => simp [k_impl_WideOk_ic, k_impl_WideOk_rv, wd, h1]
    | true =>
      by_cases h2 : 0 < h
      · simp [k_impl_WideOk_ic, k_impl_WideOk_rv, wd, h1, h2]
      · simp [k_impl_WideOk_ic, k_impl_WideOk_rv, wd, h1, h2]
  · simp [k_impl_WideOk_ic, k_impl_WideOk_rv, wd, h1]

theorem R_spec_WideOk (w : Wd) : RUN T k_spec_WideOk [.agg (wd w)] = some ([bv (wok w)], []) := by
  refine RUN_W T_spec_WideOk rfl ?_
  obtain ⟨n, h, l⟩ := w
  unfold wok
  by_cases h1 : h < 9223372036854775808
  · cases n with
    | false => simp [k_spec_WideOk_ic, k_spec_WideOk_rv, wd, h1]
    | true =>
      by_cases h2 : 0 < h
      · simp [k_spec_WideOk_ic, k_spec_WideOk_rv, wd, h1, h2]
      · simp [k_spec_WideOk_ic, k_spec_WideOk_rv, wd, h1, h2]
  · simp [k_spec_WideOk_ic, k_spec_WideOk_rv, wd, h1]

theorem R_spec_l3Zero (w : Wd) : RUN T k_spec_l3Zero [.agg (wd w)] = some ([bv (decide (w.h = 0) && decide (w.l = 0))], []) := by
  refine RUN_W T_spec_l3Zero rfl ?_
  by_cases h1 : w.h = 0
  · simp [k_spec_l3Zero_ic, k_spec_l3Zero_rv, wd, h1]
  · simp [k_spec_l3Zero_ic, k_spec_l3Zero_rv, wd, h1]

def sgnI (a b : Int) : Int := if a < b then -1 else if b < a then 1 else 0

theorem R_cmp_isNaN_uint64 (x : Int) : RUN T k_cmp_isNaN_uint64_ [uv x] = some ([bv false], []) := by
  refine RUN_W T_cmp_isNaN_uint64_ rfl ?_
  simp [k_cmp_isNaN_uint64__ic, k_cmp_isNaN_uint64__rv]

theorem R_cmp_Compare_uint64 (x y : Int) : RUN T k_cmp_Compare_uint64_ [uv x, uv y] = some ([iv (sgnI x y)], []) := by
  refine RUN_W T_cmp_Compare_uint64_ rfl ?_
  have e1 := R_cmp_isNaN_uint64 x
  have e2 := R_cmp_isNaN_uint64 y
  unfold sgnI
  by_cases h1 : x < y
  · simp [k_cmp_Compare_uint64__ic, k_cmp_Compare_uint64__rv, e1, e2, h1]
  · by_cases h2 : y < x
    · simp [k_cmp_Compare_uint64__ic, k_cmp_Compare_uint64__rv, e1, e2, h1, h2]
    · simp [k_cmp_Compare_uint64__ic, k_cmp_Compare_uint64__rv, e1, e2, h1, h2]

theorem R_cmp_Or_int2 (x y : Int) : RUN T k_cmp_Or_int_ [.sl 1 [[iv x], [iv y]]] = some ([iv (if x = 0 then y else x)], []) := by
  refine RUN_W T_cmp_Or_int_ rfl ?_
  simp [k_cmp_Or_int__ic, k_cmp_Or_int__rv]
  refine W_loop (fun n st => ∃ i : Nat, i + n = 2 ∧ (1 ≤ i → x = 0) ∧ (2 ≤ i → y = 0) ∧ st.V 3 = iv 0 ∧ st.V 6 = .sl 1 [[iv x], [iv y]] ∧ st.V 7 = iv 2 ∧ st.V 8 = iv i) ?_ 2 _ ⟨0, by simp⟩
  rintro n st ⟨i, hi, hx, hy, v3, v6, v7, v8⟩
  simp [k_cmp_Or_int__b0, v7, v8]
  have h3 : i = 0 ∨ i = 1 ∨ i = 2 := by omega
  rcases h3 with rfl | rfl | rfl
  · have hw : IntKind.i64.wrap 1 = 1 := w64 (by omega) (by omega)
    by_cases h : x = 0
    · simp [v3, v6, v7, v8, h, hw]
      exact Rnd_n (n - 1) (by omega) ⟨1, by omega, fun _ => h, by simp, by simp [v3], by simp [v6, h], by simp [v7], by simp⟩
    · simp [v3, v6, v7, v8, h]
  · have hx := hx (by omega)
    have hw : IntKind.i64.wrap 2 = 2 := w64 (by omega) (by omega)
    by_cases h : y = 0
    · simp [v3, v6, v7, v8, h, hx, hw]
      exact Rnd_n (n - 1) (by omega) ⟨2, by omega, fun _ => hx, fun _ => h, by simp [v3], by simp [v6, h, hx], by simp [v7], by simp⟩
    · simp [v3, v6, v7, v8, h, hx]
  · have hx := hx (by omega)
    have hy := hy (by omega)
    simp [v3, hx, hy]

def ordW (a b : Wd) : Int := if sgnI a.h b.h = 0 then sgnI a.l b.l else sgnI a.h b.h

theorem ordW_mag {a b : Wd} (ha : wfU a) (hb : wfU b) : ordW a b = sgnI (mag a) (mag b) := by
  obtain ⟨_, _, _, _⟩ := ha
  obtain ⟨_, _, _, _⟩ := hb
  unfold ordW sgnI mag
  split <;> split <;> split <;> (try split) <;> (try split) <;> omega

theorem R_impl_compareSizes (a b : Wd) : RUN T k_impl_compareSizes [.agg (wd a), .agg (wd b)] = some ([iv (ordW a b)], []) := by
  refine RUN_W T_impl_compareSizes rfl ?_
  have e1 := R_cmp_Compare_uint64 a.h b.h
  have e2 := R_cmp_Compare_uint64 a.l b.l
  have e3 := R_cmp_Or_int2 (sgnI a.h b.h) (sgnI a.l b.l)
  simp [k_impl_compareSizes_ic, k_impl_compareSizes_rv, wd, e1, e2, e3, ordW]

theorem R_spec_l3Order (a b : Wd) : RUN T k_spec_l3Order [.agg (wd a), .agg (wd b)] = some ([iv (ordW a b)], []) := by
  refine RUN_W T_spec_l3Order rfl ?_
  unfold ordW sgnI
  by_cases h1 : a.h < b.h
  · simp [k_spec_l3Order_ic, k_spec_l3Order_rv, wd, h1]
  · by_cases h2 : b.h < a.h
    · have h3 : ¬ a.h = b.h := by omega
      simp [k_spec_l3Order_ic, k_spec_l3Order_rv, wd, h1, h2, h3]
    · have h3 : a.h = b.h := by omega
      by_cases h4 : a.l < b.l
      · simp [k_spec_l3Order_ic, k_spec_l3Order_rv, wd, h3, h4]
      · by_cases h5 : b.l < a.l
        · simp [k_spec_l3Order_ic, k_spec_l3Order_rv, wd, h3, h4, h5]
        · simp [k_spec_l3Order_ic, k_spec_l3Order_rv, wd, h3, h4, h5]

def mulW (a b : Int) : Wd := mkW (decide (a < 0) != decide (b < 0)) ((a.natAbs : Int) * b.natAbs)

theorem natAbs_b {a : Int} (h : inI a) : 0 ≤ (a.natAbs : Int) ∧ (a.natAbs : Int) ≤ 9223372036854775808 := by
  obtain ⟨h0, h1⟩ := h; omega

theorem mul_b {a b : Int} (ha : inI a) (hb : inI b) : 0 ≤ (a.natAbs : Int) * b.natAbs ∧ (a.natAbs : Int) * b.natAbs ≤ 85070591730234615865843651857942052864 := by
  obtain ⟨a0, a1⟩ := natAbs_b ha
  obtain ⟨b0, b1⟩ := natAbs_b hb
  exact ⟨Int.mul_nonneg a0 b0, Int.le_trans (Int.mul_le_mul a1 b1 b0 (by decide)) (by decide)⟩

theorem R_impl_MulWide (a b : Int) (ha : inI a) (hb : inI b) : RUN T k_impl_MulWide [iv a, iv b] = some ([.agg (wd (mulW a b))], []) := by
  refine RUN_W T_impl_MulWide rfl ?_
  obtain ⟨a0, a1⟩ := natAbs_b ha
  obtain ⟨b0, b1⟩ := natAbs_b hb
  have e1 := R_impl_size a ha
  have e2 := R_impl_size b hb
  have e3 := R_math_bits_Mul64 a.natAbs b.natAbs a0 (by omega) b0 (by omega)
  have e4 := R_impl_wideOf (decide (a < 0) != decide (b < 0)) ((a.natAbs : Int) * b.natAbs / 18446744073709551616) ((a.natAbs : Int) * b.natAbs % 18446744073709551616)
  obtain ⟨m0, m1⟩ := mul_b ha hb
  have e5 : (⟨(decide (a < 0) != decide (b < 0)) && (decide (0 < (a.natAbs : Int) * b.natAbs / 18446744073709551616) || decide (0 < (a.natAbs : Int) * b.natAbs % 18446744073709551616)), (a.natAbs : Int) * b.natAbs / 18446744073709551616, (a.natAbs : Int) * b.natAbs % 18446744073709551616⟩ : Wd) = mulW a b := by
    unfold mulW mkW
    congr 2
    generalize (a.natAbs : Int) * b.natAbs = m at *
    rw [Bool.eq_iff_iff]; simp; omega
  rw [e5] at e4
  generalize mulW a b = w at *
  obtain ⟨wn, wh, wl⟩ := w
  simp only [wd] at e4 ⊢
  by_cases sa : a < 0 <;> by_cases sb : b < 0 <;> simp [sa, sb] at e4 <;> simp [k_impl_MulWide_ic, k_impl_MulWide_rv, e1, e2, e3, sa, sb, e4]

theorem R_spec_MulWide (a b : Int) (ha : inI a) (hb : inI b) : RUN T k_spec_MulWide [iv a, iv b] = some ([.agg (wd (mulW a b))], []) := by
  refine RUN_W T_spec_MulWide rfl ?_
  obtain ⟨a0, a1⟩ := natAbs_b ha
  obtain ⟨b0, b1⟩ := natAbs_b hb
  have e1 := R_spec_l3Abs a ha
  have e2 := R_spec_l3Abs b hb
  have e3 := R_spec_l3Product a.natAbs b.natAbs a0 (by omega) b0 (by omega)
  have hpos : (0 < (a.natAbs : Int) * b.natAbs) ↔ (a ≠ 0 ∧ b ≠ 0) := by
    constructor
    · intro h
      refine ⟨?_, ?_⟩ <;> rintro rfl <;> simp at h
    · rintro ⟨h1, h2⟩
      exact Int.mul_pos (by omega) (by omega)
  have e5 : mulW a b = ⟨((decide (a < 0) != decide (b < 0)) && !decide (a = 0)) && !decide (b = 0), (a.natAbs : Int) * b.natAbs / 18446744073709551616, (a.natAbs : Int) * b.natAbs % 18446744073709551616⟩ := by
    unfold mulW mkW
    congr 1
    rw [Bool.eq_iff_iff]; simp [hpos, and_assoc]
  rw [e5]
  by_cases sa : a < 0 <;> by_cases sb : b < 0 <;> rcases Classical.propComplete (a = 0) with h0 | h0 <;> simp [k_spec_MulWide_ic, k_spec_MulWide_rv, e1, e2, e3, sa, sb, wd, h0]

/-- What a number is worth. -/
def valW (w : Wd) : Int := if w.n then -mag w else mag w

def sumW (a b : Wd) : Wd × Bool :=
  if wok a && wok b then
    if ((valW a + valW b).natAbs : Int) < 170141183460469231731687303715884105728 then (mkW (decide (valW a + valW b < 0)) (valW a + valW b).natAbs, true) else (zeroW, false)
  else (zeroW, false)

theorem sumW_wf (a b : Wd) : wfU (sumW a b).1 := by
  unfold sumW
  split
  · split
    · exact mkW_wf (by omega) (by omega)
    · exact ⟨by decide, by decide, by decide, by decide⟩
  · exact ⟨by decide, by decide, by decide, by decide⟩

theorem wok_mag {w : Wd} (h : wfU w) (hk : wok w = true) : 0 ≤ mag w ∧ mag w < 170141183460469231731687303715884105728 ∧ (w.n = true → 0 < mag w) := by
  obtain ⟨h0, h1, h2, h3⟩ := h
  unfold wok at hk
  simp only [Bool.and_eq_true, Bool.or_eq_true, Bool.not_eq_true', decide_eq_true_eq] at hk
  unfold mag
  obtain ⟨k1, k2⟩ := hk
  refine ⟨by omega, by omega, fun hn => ?_⟩
  rw [hn] at k2
  rcases k2 with (k2 | k2) | k2
  · cases k2
  · omega
  · omega

theorem add_facts (a b : Wd) (ha : wfU a) (hb : wfU b) (h : mag a + mag b < 340282366920938463463374607431768211456) : ∃ c d : Int,
    RUN T k_math_bits_Add64 [uv a.l, uv b.l, uv 0] = some ([uv ((mag a + mag b) % 18446744073709551616), uv c], []) ∧ RUN T k_math_bits_Add64 [uv a.h, uv b.h, uv c] = some ([uv ((mag a + mag b) / 18446744073709551616), uv d], []) := by
  obtain ⟨a0, a1, a2, a3⟩ := ha
  obtain ⟨b0, b1, b2, b3⟩ := hb
  have e1 := RUN_add64 T_math_bits_Add64 (x := a.l) (y := b.l) (c := 0) a2 b2 (by decide) (by decide)
  have e2 := RUN_add64 T_math_bits_Add64 (x := a.h) (y := b.h) (c := (a.l + b.l + 0) / 18446744073709551616) a0 b0 (by omega) (by omega)
  have f1 : (a.l + b.l + 0) % 18446744073709551616 = (mag a + mag b) % 18446744073709551616 := by unfold mag; omega
  have f2 : (a.h + b.h + (a.l + b.l + 0) / 18446744073709551616) % 18446744073709551616 = (mag a + mag b) / 18446744073709551616 := by unfold mag at *; omega
  rw [f1] at e1
  rw [f2] at e2
  exact ⟨_, _, e1, e2⟩

theorem sub_facts (a b : Wd) (ha : wfU a) (hb : wfU b) (h : mag b ≤ mag a) : ∃ c d : Int,
    RUN T k_math_bits_Sub64 [uv a.l, uv b.l, uv 0] = some ([uv ((mag a - mag b) % 18446744073709551616), uv c], []) ∧ RUN T k_math_bits_Sub64 [uv a.h, uv b.h, uv c] = some ([uv ((mag a - mag b) / 18446744073709551616), uv d], []) := by
  obtain ⟨a0, a1, a2, a3⟩ := ha
  obtain ⟨b0, b1, b2, b3⟩ := hb
  have e1 := RUN_sub64 T_math_bits_Sub64 (x := a.l) (y := b.l) (c := 0) a2 b2 a3 b3 (by decide) (by decide)
  have e2 := RUN_sub64 T_math_bits_Sub64 (x := a.h) (y := b.h) (c := if a.l < b.l + 0 then 1 else 0) a0 b0 a1 b1 (by split <;> omega) (by split <;> omega)
  have f1 : (a.l - b.l - 0) % 18446744073709551616 = (mag a - mag b) % 18446744073709551616 := by unfold mag; omega
  have f2 : (a.h - b.h - (if a.l < b.l + 0 then 1 else 0)) % 18446744073709551616 = (mag a - mag b) / 18446744073709551616 := by
    unfold mag at *
    split <;> omega
  rw [f1] at e1
  rw [f2] at e2
  exact ⟨_, _, e1, e2⟩

theorem wideOf_mk {n : Bool} {m : Int} (h : 0 ≤ m) : RUN T k_impl_wideOf [bv n, uv (m / 18446744073709551616), uv (m % 18446744073709551616)] = some ([.agg (wd (mkW n m))], []) := by
  rw [R_impl_wideOf]
  have : (⟨n && (decide (0 < m / 18446744073709551616) || decide (0 < m % 18446744073709551616)), m / 18446744073709551616, m % 18446744073709551616⟩ : Wd) = mkW n m := by
    unfold mkW
    congr 2
    rw [Bool.eq_iff_iff]; simp; omega
  rw [this]

theorem R_impl_AddWide (a b : Wd) (ha : wfU a) (hb : wfU b) : RUN T k_impl_AddWide [.agg (wd a), .agg (wd b)] = some ([.agg (wd (sumW a b).1), bv (sumW a b).2], []) := by
  refine RUN_W T_impl_AddWide rfl ?_
  have ea := R_impl_WideOk a
  have eb := R_impl_WideOk b
  cases ka : wok a with
  | false =>
    have es : sumW a b = (zeroW, false) := by unfold sumW; simp [ka]
    rw [es]; rw [ka] at ea
    simp only [wd] at ea
    simp [k_impl_AddWide_ic, k_impl_AddWide_rv, wd, ea, zeroW]
  | true =>
    cases kb : wok b with
    | false =>
      have es : sumW a b = (zeroW, false) := by unfold sumW; simp [kb]
      rw [es]; rw [ka] at ea; rw [kb] at eb
      simp only [wd] at ea eb
      simp [k_impl_AddWide_ic, k_impl_AddWide_rv, wd, ea, eb, zeroW]
    | true =>
      obtain ⟨ma0, ma1, ma2⟩ := wok_mag ha ka
      obtain ⟨mb0, mb1, mb2⟩ := wok_mag hb kb
      rw [ka] at ea; rw [kb] at eb
      by_cases hn : a.n = b.n
      · obtain ⟨c, d, f1, f2⟩ := add_facts a b ha hb (by omega)
        have f3 := wideOf_mk (n := a.n) (m := mag a + mag b) (by omega)
        have f4 := R_impl_WideOk (mkW a.n (mag a + mag b))
        rw [mkW_ok (by omega)] at f4
        have es : sumW a b = if mag a + mag b < 170141183460469231731687303715884105728 then (mkW a.n (mag a + mag b), true) else (zeroW, false) := by
          unfold sumW valW
          rw [ka, kb, ← hn]
          simp only [Bool.and_self, if_true]
          cases h : a.n with
          | true =>
            have e1 : (-mag a + -mag b).natAbs = mag a + mag b := by omega
            have e2 : -mag a + -mag b < 0 := by have := ma2 h; omega
            simp only [if_true, e1, decide_eq_true e2]
          | false =>
            have e1 : ((mag a + mag b).natAbs : Int) = mag a + mag b := by omega
            have e2 : ¬ mag a + mag b < 0 := by omega
            simp only [Bool.false_eq_true, if_false, e1, decide_eq_false e2]
        rw [es]
        generalize hm : mag a + mag b = m at *
        generalize mkW a.n m = w at *
        generalize m / 18446744073709551616 = hi at *
        generalize m % 18446744073709551616 = lo at *
        simp only [wd] at ea eb f3 f4 ⊢
        rw [hn] at ea f3
        by_cases hk : m < 170141183460469231731687303715884105728
        · rw [decide_eq_true hk] at f4
          rw [if_pos hk]
          simp [k_impl_AddWide_ic, k_impl_AddWide_rv, ea, eb, hn, f1, f2, f3, f4]
        · rw [decide_eq_false hk] at f4
          rw [if_neg hk]
          simp [k_impl_AddWide_ic, k_impl_AddWide_rv, ea, eb, hn, f1, f2, f3, f4, zeroW]
      · have ho := R_impl_compareSizes a b
        rw [ordW_mag ha hb] at ho
        have es : sumW a b = (mkW (if mag a < mag b then b.n else a.n) (if mag a < mag b then mag b - mag a else mag a - mag b), true) := by
          have gen : ∀ (n : Bool) (m : Int), ((valW a + valW b).natAbs : Int) = m → m < 170141183460469231731687303715884105728 → (decide (valW a + valW b < 0) && decide (0 < m)) = (n && decide (0 < m)) → sumW a b = (mkW n m, true) := by
            intro n m h1 h2 h3
            unfold sumW
            rw [ka, kb, h1]
            simp only [Bool.and_self, if_true, if_pos h2]
            unfold mkW
            rw [h3]
          unfold valW at gen
          cases h : a.n <;> cases h' : b.n <;> simp only [h, h'] at gen hn ⊢
          · exact (hn trivial).elim
          · by_cases hl : mag a < mag b
            · rw [if_pos hl, if_pos hl]
              exact gen _ _ (by simp; omega) (by omega) (by rw [Bool.eq_iff_iff]; simp; omega)
            · rw [if_neg hl, if_neg hl]
              exact gen _ _ (by simp; omega) (by omega) (by rw [Bool.eq_iff_iff]; simp; omega)
          · by_cases hl : mag a < mag b
            · rw [if_pos hl, if_pos hl]
              exact gen _ _ (by simp; omega) (by omega) (by rw [Bool.eq_iff_iff]; simp; omega)
            · rw [if_neg hl, if_neg hl]
              exact gen _ _ (by simp; omega) (by omega) (by rw [Bool.eq_iff_iff]; simp; omega)
          · exact (hn trivial).elim
        rw [es]
        have hnb : (a.n == b.n) = false := by cases h : a.n <;> cases h' : b.n <;> simp [h, h'] at hn ⊢
        by_cases hl : mag a < mag b
        · obtain ⟨c, d, f1, f2⟩ := sub_facts b a hb ha (by omega)
          have f3 := wideOf_mk (n := b.n) (m := mag b - mag a) (by omega)
          have hs : sgnI (mag a) (mag b) = -1 := by unfold sgnI; rw [if_pos hl]
          rw [hs] at ho
          rw [if_pos hl, if_pos hl]
          generalize mag b - mag a = m at *
          generalize mkW b.n m = w at *
          generalize m / 18446744073709551616 = hi at *
          generalize m % 18446744073709551616 = lo at *
          simp only [wd] at ea eb f3 ho ⊢
          simp [k_impl_AddWide_ic, k_impl_AddWide_rv, ea, eb, hnb, ho, f1, f2, f3]
        · obtain ⟨c, d, f1, f2⟩ := sub_facts a b ha hb (by omega)
          have f3 := wideOf_mk (n := a.n) (m := mag a - mag b) (by omega)
          have hs : ¬ sgnI (mag a) (mag b) < 0 := by unfold sgnI; rw [if_neg hl]; split <;> omega
          rw [if_neg hl, if_neg hl]
          generalize mag a - mag b = m at *
          generalize mkW a.n m = w at *
          generalize m / 18446744073709551616 = hi at *
          generalize m % 18446744073709551616 = lo at *
          generalize sgnI (mag a) (mag b) = sg at *
          simp only [wd] at ea eb f3 ho ⊢
          simp [k_impl_AddWide_ic, k_impl_AddWide_rv, ea, eb, hnb, ho, hs, f1, f2, f3]

theorem sumW_same {a b : Wd} (ha : wfU a) (hb : wfU b) (ka : wok a = true) (kb : wok b = true) (hn : a.n = b.n) : sumW a b = if mag a + mag b < 170141183460469231731687303715884105728 then (mkW a.n (mag a + mag b), true) else (zeroW, false) := by
  obtain ⟨ma0, ma1, ma2⟩ := wok_mag ha ka
  obtain ⟨mb0, mb1, mb2⟩ := wok_mag hb kb
  unfold sumW valW
  rw [ka, kb, ← hn]
  simp only [Bool.and_self, if_true]
  cases h : a.n with
  | true =>
    have e1 : (-mag a + -mag b).natAbs = mag a + mag b := by omega
    have e2 : -mag a + -mag b < 0 := by have := ma2 h; omega
    simp only [if_true, e1, decide_eq_true e2]
  | false =>
    have e1 : ((mag a + mag b).natAbs : Int) = mag a + mag b := by omega
    have e2 : ¬ mag a + mag b < 0 := by omega
    simp only [Bool.false_eq_true, if_false, e1, decide_eq_false e2]

theorem sumW_diff {a b : Wd} (ha : wfU a) (hb : wfU b) (ka : wok a = true) (kb : wok b = true) (hn : ¬ a.n = b.n) : sumW a b = (mkW (if mag a < mag b then b.n else a.n) (if mag a < mag b then mag b - mag a else mag a - mag b), true) := by
  obtain ⟨ma0, ma1, ma2⟩ := wok_mag ha ka
  obtain ⟨mb0, mb1, mb2⟩ := wok_mag hb kb
  have gen : ∀ (n : Bool) (m : Int), ((valW a + valW b).natAbs : Int) = m → m < 170141183460469231731687303715884105728 → (decide (valW a + valW b < 0) && decide (0 < m)) = (n && decide (0 < m)) → sumW a b = (mkW n m, true) := by
    intro n m h1 h2 h3
    unfold sumW
    rw [ka, kb, h1]
    simp only [Bool.and_self, if_true, if_pos h2]
    unfold mkW
    rw [h3]
  unfold valW at gen
  cases h : a.n <;> cases h' : b.n <;> simp only [h, h'] at gen hn ⊢
  · exact (hn trivial).elim
  · by_cases hl : mag a < mag b
    · rw [if_pos hl, if_pos hl]
      exact gen _ _ (by simp; omega) (by omega) (by rw [Bool.eq_iff_iff]; simp; omega)
    · rw [if_neg hl, if_neg hl]
      exact gen _ _ (by simp; omega) (by omega) (by rw [Bool.eq_iff_iff]; simp; omega)
  · by_cases hl : mag a < mag b
    · rw [if_pos hl, if_pos hl]
      exact gen _ _ (by simp; omega) (by omega) (by rw [Bool.eq_iff_iff]; simp; omega)
    · rw [if_neg hl, if_neg hl]
      exact gen _ _ (by simp; omega) (by omega) (by rw [Bool.eq_iff_iff]; simp; omega)
  · exact (hn trivial).elim

theorem add_u (a b : Wd) (ha : wfU a) (hb : wfU b) (h : mag a + mag b < 340282366920938463463374607431768211456) :
    IntKind.u64.wrap (a.l + b.l) = (mag a + mag b) % 18446744073709551616 ∧ ((mag a + mag b) % 18446744073709551616 < a.l → IntKind.u64.wrap (IntKind.u64.wrap (a.h + b.h) + 1) = (mag a + mag b) / 18446744073709551616) ∧ (¬ (mag a + mag b) % 18446744073709551616 < a.l → IntKind.u64.wrap (a.h + b.h) = (mag a + mag b) / 18446744073709551616) := by
  obtain ⟨a0, a1, a2, a3⟩ := ha
  obtain ⟨b0, b1, b2, b3⟩ := hb
  unfold mag at *
  refine ⟨?_, fun h => ?_, fun h => ?_⟩ <;> simp only [wu64] at * <;> omega

theorem sub_u (a b : Wd) (ha : wfU a) (hb : wfU b) (h : mag b ≤ mag a) :
    IntKind.u64.wrap (a.l - b.l) = (mag a - mag b) % 18446744073709551616 ∧ (a.l < b.l → IntKind.u64.wrap (IntKind.u64.wrap (a.h - b.h) - 1) = (mag a - mag b) / 18446744073709551616) ∧ (¬ a.l < b.l → IntKind.u64.wrap (a.h - b.h) = (mag a - mag b) / 18446744073709551616) := by
  obtain ⟨a0, a1, a2, a3⟩ := ha
  obtain ⟨b0, b1, b2, b3⟩ := hb
  unfold mag at *
  refine ⟨?_, fun h => ?_, fun h => ?_⟩ <;> simp only [wu64] at * <;> omega

theorem R_spec_AddWide (a b : Wd) (ha : wfU a) (hb : wfU b) : RUN T k_spec_AddWide [.agg (wd a), .agg (wd b)] = some ([.agg (wd (sumW a b).1), bv (sumW a b).2], []) := by
  refine RUN_W T_spec_AddWide rfl ?_
  have ea := R_spec_WideOk a
  have eb := R_spec_WideOk b
  cases ka : wok a with
  | false =>
    have es : sumW a b = (zeroW, false) := by unfold sumW; simp [ka]
    rw [es]; rw [ka] at ea
    simp only [wd] at ea
    simp [k_spec_AddWide_ic, k_spec_AddWide_rv, wd, ea, zeroW]
  | true =>
    cases kb : wok b with
    | false =>
      have es : sumW a b = (zeroW, false) := by unfold sumW; simp [kb]
      rw [es]; rw [ka] at ea; rw [kb] at eb
      simp only [wd] at ea eb
      simp [k_spec_AddWide_ic, k_spec_AddWide_rv, wd, ea, eb, zeroW]
    | true =>
      obtain ⟨ma0, ma1, ma2⟩ := wok_mag ha ka
      obtain ⟨mb0, mb1, mb2⟩ := wok_mag hb kb
      rw [ka] at ea; rw [kb] at eb
      by_cases hn : a.n = b.n
      · obtain ⟨f1, f2, f3⟩ := add_u a b ha hb (by omega)
        have f4 := R_spec_WideOk (mkW a.n (mag a + mag b))
        rw [mkW_ok (by omega)] at f4
        rw [sumW_same ha hb ka kb hn]
        have e6 : mkW a.n (mag a + mag b) = ⟨a.n, (mag a + mag b) / 18446744073709551616, (mag a + mag b) % 18446744073709551616⟩ := by
          unfold mkW
          congr 1
          cases h : a.n with
          | false => rfl
          | true => have := ma2 h; simp; omega
        rw [e6] at f4 ⊢
        generalize hm : mag a + mag b = m at *
        generalize m / 18446744073709551616 = hi at *
        generalize m % 18446744073709551616 = lo at *
        simp only [wd] at ea eb f4 ⊢
        rw [hn] at ea f4
        by_cases hc : lo < a.l
        · have f2 := f2 hc
          by_cases hk : m < 170141183460469231731687303715884105728
          · rw [decide_eq_true hk] at f4
            rw [if_pos hk]
            simp [k_spec_AddWide_ic, k_spec_AddWide_rv, ea, eb, hn, hc, f1, f2, f4]
          · rw [decide_eq_false hk] at f4
            rw [if_neg hk]
            simp [k_spec_AddWide_ic, k_spec_AddWide_rv, ea, eb, hn, hc, f1, f2, f4, zeroW]
        · have f3 := f3 hc
          by_cases hk : m < 170141183460469231731687303715884105728
          · rw [decide_eq_true hk] at f4
            rw [if_pos hk]
            simp [k_spec_AddWide_ic, k_spec_AddWide_rv, ea, eb, hn, hc, f1, f3, f4]
          · rw [decide_eq_false hk] at f4
            rw [if_neg hk]
            simp [k_spec_AddWide_ic, k_spec_AddWide_rv, ea, eb, hn, hc, f1, f3, f4, zeroW]
      · have ho := R_spec_l3Order a b
        rw [ordW_mag ha hb] at ho
        rw [sumW_diff ha hb ka kb hn]
        have hnb : (a.n == b.n) = false := by cases h : a.n <;> cases h' : b.n <;> simp [h, h'] at hn ⊢
        by_cases hl : mag a < mag b
        · obtain ⟨f1, f2, f3⟩ := sub_u b a hb ha (by omega)
          have hz := R_spec_l3Zero ⟨b.n, (mag b - mag a) / 18446744073709551616, (mag b - mag a) % 18446744073709551616⟩
          have hs : sgnI (mag a) (mag b) = -1 := by unfold sgnI; rw [if_pos hl]
          rw [hs] at ho
          rw [if_pos hl, if_pos hl]
          have e6 : mkW b.n (mag b - mag a) = ⟨b.n, (mag b - mag a) / 18446744073709551616, (mag b - mag a) % 18446744073709551616⟩ := by
            unfold mkW
            congr 1
            rw [decide_eq_true (show 0 < mag b - mag a by omega), Bool.and_true]
          have e7 : (decide ((mag b - mag a) / 18446744073709551616 = 0) && decide ((mag b - mag a) % 18446744073709551616 = 0)) = false := by
            rw [Bool.eq_false_iff]; simp; omega
          simp only at hz
          rw [e7] at hz
          rw [e6]
          clear e6 e7
          generalize mag b - mag a = m at *
          generalize m / 18446744073709551616 = hi at *
          generalize m % 18446744073709551616 = lo at *
          simp only [wd] at ea eb ho hz ⊢
          by_cases hc : b.l < a.l
          · have f2 := f2 hc
            simp [k_spec_AddWide_ic, k_spec_AddWide_rv, ea, eb, hnb, ho, hc, f1, f2, hz]
          · have f3 := f3 hc
            simp [k_spec_AddWide_ic, k_spec_AddWide_rv, ea, eb, hnb, ho, hc, f1, f3, hz]
        · obtain ⟨f1, f2, f3⟩ := sub_u a b ha hb (by omega)
          have hz := R_spec_l3Zero ⟨a.n, (mag a - mag b) / 18446744073709551616, (mag a - mag b) % 18446744073709551616⟩
          have hs : ¬ sgnI (mag a) (mag b) < 0 := by unfold sgnI; rw [if_neg hl]; split <;> omega
          rw [if_neg hl, if_neg hl]
          generalize sgnI (mag a) (mag b) = sg at *
          by_cases h0 : mag a - mag b = 0
          · have e6 : mkW a.n (mag a - mag b) = ⟨false, (mag a - mag b) / 18446744073709551616, (mag a - mag b) % 18446744073709551616⟩ := by
              unfold mkW
              congr 1
              simp [h0]
            have e7 : (decide ((mag a - mag b) / 18446744073709551616 = 0) && decide ((mag a - mag b) % 18446744073709551616 = 0)) = true := by
              simp; omega
            simp only at hz
            rw [e7] at hz
            rw [e6]
            clear e6 e7 h0
            generalize mag a - mag b = m at *
            generalize m / 18446744073709551616 = hi at *
            generalize m % 18446744073709551616 = lo at *
            simp only [wd] at ea eb ho hz ⊢
            by_cases hc : a.l < b.l
            · have f2 := f2 hc
              simp [k_spec_AddWide_ic, k_spec_AddWide_rv, ea, eb, hnb, ho, hs, hc, f1, f2, hz]
            · have f3 := f3 hc
              simp [k_spec_AddWide_ic, k_spec_AddWide_rv, ea, eb, hnb, ho, hs, hc, f1, f3, hz]
          · have e6 : mkW a.n (mag a - mag b) = ⟨a.n, (mag a - mag b) / 18446744073709551616, (mag a - mag b) % 18446744073709551616⟩ := by
              unfold mkW
              congr 1
              rw [decide_eq_true (show 0 < mag a - mag b by omega), Bool.and_true]
            have e7 : (decide ((mag a - mag b) / 18446744073709551616 = 0) && decide ((mag a - mag b) % 18446744073709551616 = 0)) = false := by
              rw [Bool.eq_false_iff]; simp; omega
            simp only at hz
            rw [e7] at hz
            rw [e6]
            clear e6 e7 h0
            generalize mag a - mag b = m at *
            generalize m / 18446744073709551616 = hi at *
            generalize m % 18446744073709551616 = lo at *
            simp only [wd] at ea eb ho hz ⊢
            by_cases hc : a.l < b.l
            · have f2 := f2 hc
              simp [k_spec_AddWide_ic, k_spec_AddWide_rv, ea, eb, hnb, ho, hs, hc, f1, f2, hz]
            · have f3 := f3 hc
              simp [k_spec_AddWide_ic, k_spec_AddWide_rv, ea, eb, hnb, ho, hs, hc, f1, f3, hz]

/-- The sum of the squares, from a sum on. -/
def lossG : List Int → Wd → Wd × Bool
  | [], w => (w, true)
  | x :: l, w => if (sumW w (mulW x x)).2 = true then lossG l (sumW w (mulW x x)).1 else (zeroW, false)

theorem mulW_wf {a b : Int} (ha : inI a) (hb : inI b) : wfU (mulW a b) := by
  obtain ⟨m0, m1⟩ := mul_b ha hb
  exact mkW_wf m0 (by omega)

theorem lossG_drop {l : List Int} {i : Nat} {x : Int} (h : l[i]? = some x) (w : Wd) : lossG (l.drop i) w = if (sumW w (mulW x x)).2 = true then lossG (l.drop (i + 1)) (sumW w (mulW x x)).1 else (zeroW, false) := by
  have hlt : i < l.length := by
    rcases Nat.lt_or_ge i l.length with h' | h'
    · exact h'
    · rw [List.getElem?_eq_none (by omega)] at h; cases h
  have : l.drop i = x :: l.drop (i + 1) := by
    rw [List.drop_eq_getElem_cons hlt]
    congr 1
    rw [List.getElem?_eq_getElem hlt] at h
    exact Option.some.inj h
  rw [this, lossG]

set_option maxHeartbeats 1000000 in
theorem R_spec_LossOf (v : List Int) (hv : ∀ x ∈ v, inI x) (hl : v.length ≤ 1048576) : RUN T k_spec_LossOf [.sl 1 (ints v)] = some ([.agg (wd (lossG v zeroW).1), bv (lossG v zeroW).2], []) := by
  refine RUN_W T_spec_LossOf rfl ?_
  simp [k_spec_LossOf_ic, k_spec_LossOf_rv]
  refine W_loop (fun n st => ∃ (i : Nat) (w : Wd), i + n = v.length ∧ wfU w ∧ lossG (v.drop i) w = lossG v zeroW ∧ st.V 0 = .sl 1 (ints v) ∧ st.V 2 = .ptr 0 none 0 0 0 ∧ st.V 4 = .ptr 1 none 0 0 0 ∧ st.V 5 = iv i ∧ 1 < st.nx ∧ st.S 0 = some (.box [bv false, uv 0, uv 0]) ∧ st.S 1 = some (.box (wd w))) ?_ v.length _ ⟨0, zeroW, by simp, ⟨by decide, by decide, by decide, by decide⟩, rfl, by simp, by simp, by simp, by simp, by simp, by simp, by simp [wd, zeroW]⟩
  rintro n st ⟨i, w, hi, hw, hg, v0, v2, v4, v5, hnx, hS, hS1⟩
  simp [k_spec_LossOf_b0, v0, v5]
  refine Br_i (fun h => ?_) (fun h => ?_)
  · simp at h
    obtain ⟨x, hx⟩ : ∃ x, v[i]? = some x := ⟨_, List.getElem?_eq_getElem h⟩
    have hx' := ints_get hx
    have hxi := hv x (List.mem_of_getElem? hx)
    have hws := wS h (by omega : v.length ≤ 9223372036854775807)
    have e1 := R_spec_MulWide x x hxi hxi
    have e2 := R_spec_AddWide w (mulW x x) hw (mulW_wf hxi hxi)
    have hwf := sumW_wf w (mulW x x)
    rw [lossG_drop hx] at hg
    obtain ⟨z1, z2, z3, z4⟩ := fr (show 0 < st.nx by omega)
    obtain ⟨y1, y2, y3, y4⟩ := fr hnx
    generalize sumW w (mulW x x) = r at *
    generalize mulW x x = m at *
    obtain ⟨r, rb⟩ := r
    simp only [wd] at e1 e2 hS1
    cases rb with
    | true =>
      rw [if_pos rfl] at hg
      simp [-getElem?_pos, v0, v2, v4, v5, hS, hS1, hx', e1, e2, z1, z2, z3, z4, y1, y2, y3, y4, hws, h]
      exact Rnd_n (n - 1) (by omega) ⟨i + 1, r, by omega, hwf, hg, by simp [v0], by simp [v2], by simp [v4], by simp, by simp; omega, by simp [z1, z2, z3, z4, y1, y2, y3, y4, hS], by simp [z1, z2, z3, z4, y1, y2, y3, y4, wd]⟩
    | false =>
      rw [if_neg (by simp)] at hg
      rw [← hg]
      simp [-getElem?_pos, v0, v2, v4, v5, hS, hS1, hx', e1, e2, z1, z2, z3, z4, y1, y2, y3, y4, h, wd, zeroW]
  · simp at h
    have e1 : i = v.length := by omega
    rw [e1, List.drop_length, lossG] at hg
    rw [← hg]
    simp only [wd] at hS1
    simp [-getElem?_pos, v0, v2, v4, hS, hS1, wd]

set_option maxHeartbeats 1000000 in
theorem R_impl_LossOf (v : List Int) (hv : ∀ x ∈ v, inI x) (hl : v.length ≤ 1048576) : RUN T k_impl_LossOf [.sl 1 (ints v)] = some ([.agg (wd (lossG v zeroW).1), bv (lossG v zeroW).2], []) := by
  refine RUN_W T_impl_LossOf rfl ?_
  simp [k_impl_LossOf_ic, k_impl_LossOf_rv]
  refine W_loop (fun n st => ∃ (i : Nat) (w : Wd), i + n = v.length ∧ wfU w ∧ lossG (v.drop i) w = lossG v zeroW ∧ st.V 10 = .sl 1 (ints v) ∧ st.V 2 = .ptr 0 none 0 0 0 ∧ st.V 4 = .ptr 1 none 0 0 0 ∧ st.V 12 = iv i ∧ st.V 11 = iv v.length ∧ 1 < st.nx ∧ st.S 0 = some (.box [bv false, uv 0, uv 0]) ∧ st.S 1 = some (.box (wd w))) ?_ v.length _ ⟨0, zeroW, by simp, ⟨by decide, by decide, by decide, by decide⟩, rfl, by simp, by simp, by simp, by simp, by simp, by simp, by simp, by simp [wd, zeroW]⟩
  rintro n st ⟨i, w, hi, hw, hg, v0, v2, v4, v5, v11, hnx, hS, hS1⟩
  simp [k_impl_LossOf_b0, v0, v5, v11]
  refine Br_i (fun h => ?_) (fun h => ?_)
  · simp at h
    obtain ⟨x, hx⟩ : ∃ x, v[i]? = some x := ⟨_, List.getElem?_eq_getElem h⟩
    have hx' := ints_get hx
    have hxi := hv x (List.mem_of_getElem? hx)
    have hws := wS h (by omega : v.length ≤ 9223372036854775807)
    have e1 := R_impl_MulWide x x hxi hxi
    have e2 := R_impl_AddWide w (mulW x x) hw (mulW_wf hxi hxi)
    have hwf := sumW_wf w (mulW x x)
    rw [lossG_drop hx] at hg
    obtain ⟨z1, z2, z3, z4⟩ := fr (show 0 < st.nx by omega)
    obtain ⟨y1, y2, y3, y4⟩ := fr hnx
    generalize sumW w (mulW x x) = r at *
    generalize mulW x x = m at *
    obtain ⟨r, rb⟩ := r
    simp only [wd] at e1 e2 hS1
    cases rb with
    | true =>
      rw [if_pos rfl] at hg
      simp [-getElem?_pos, v0, v2, v4, v5, v11, hS, hS1, hx', e1, e2, z1, z2, z3, z4, y1, y2, y3, y4, hws, h]
      exact Rnd_n (n - 1) (by omega) ⟨i + 1, r, by omega, hwf, hg, by simp [v0], by simp [v2], by simp [v4], by simp, by simp [v11], by simp; omega, by simp [z1, z2, z3, z4, y1, y2, y3, y4, hS], by simp [z1, z2, z3, z4, y1, y2, y3, y4, wd]⟩
    | false =>
      rw [if_neg (by simp)] at hg
      rw [← hg]
      simp [-getElem?_pos, v0, v2, v4, v5, v11, hS, hS1, hx', e1, e2, z1, z2, z3, z4, y1, y2, y3, y4, h, wd, zeroW]
  · simp at h
    have e1 : i = v.length := by omega
    rw [e1, List.drop_length, lossG] at hg
    rw [← hg]
    simp only [wd] at hS1
    simp [-getElem?_pos, v0, v2, v4, hS, hS1, wd]

def wideV (n : Int) : Wd := mkW (decide (n < 0)) n.natAbs

theorem wideV_eq {n : Int} (h : inI n) : wideV n = ⟨decide (n < 0), 0, n.natAbs⟩ := by
  obtain ⟨h0, h1⟩ := h
  unfold wideV mkW
  congr 1
  · rw [Bool.eq_iff_iff]; simp; omega
  · omega
  · omega

theorem wideV_wf {n : Int} (h : inI n) : wfU (wideV n) := by
  obtain ⟨h0, h1⟩ := h
  exact mkW_wf (by omega) (by omega)

theorem R_impl_WideOf (n : Int) (h : inI n) : RUN T k_impl_WideOf [iv n] = some ([.agg (wd (wideV n))], []) := by
  refine RUN_W T_impl_WideOf rfl ?_
  have e1 := R_impl_size n h
  have e2 := R_impl_wideOf (decide (n < 0)) 0 n.natAbs
  rw [wideV_eq h]
  have e3 : (decide (n < 0) && (decide (0 < (0 : Int)) || decide (0 < (n.natAbs : Int)))) = decide (n < 0) := by
    rw [Bool.eq_iff_iff]; simp; omega
  rw [e3] at e2
  simp only [wd] at e2 ⊢
  simp [k_impl_WideOf_ic, k_impl_WideOf_rv, e1, e2]

/-- The largest of the sizes. -/
def maxA : List Int → Int → Int
  | [], a => a
  | x :: l, a => maxA l (max a x.natAbs)

def mostL (l : List Int) : Int := min (maxA l 0) 9223372036854775807

theorem drop_cons' {l : List Int} {i : Nat} {x : Int} (h : l[i]? = some x) : l.drop i = x :: l.drop (i + 1) := by
  have hlt : i < l.length := by
    rcases Nat.lt_or_ge i l.length with h' | h'
    · exact h'
    · rw [List.getElem?_eq_none (by omega)] at h; cases h
  rw [List.drop_eq_getElem_cons hlt]
  congr 1
  rw [List.getElem?_eq_getElem hlt] at h
  exact Option.some.inj h

theorem maxA_ge (l : List Int) : ∀ a, a ≤ maxA l a := by
  induction l with
  | nil => intro a; exact Int.le_refl _
  | cons x l ih => intro a; have := ih (max a x.natAbs); simp only [maxA]; omega

theorem mostL_b (l : List Int) : 0 ≤ mostL l ∧ mostL l ≤ 9223372036854775807 := by
  have := maxA_ge l 0
  unfold mostL; omega

theorem R_impl_MostOf (v : List Int) (hv : ∀ x ∈ v, inI x) (hl : v.length ≤ 9223372036854775807) : RUN T k_impl_MostOf [.sl 1 (ints v)] = some ([iv (mostL v)], []) := by
  refine RUN_W T_impl_MostOf rfl ?_
  simp [k_impl_MostOf_ic, k_impl_MostOf_rv]
  refine W_loop (fun n st => ∃ (i : Nat) (a : Int), i + n = v.length ∧ maxA (v.drop i) a = maxA v 0 ∧ st.V 3 = uv a ∧ st.V 6 = .sl 1 (ints v) ∧ st.V 7 = iv v.length ∧ st.V 8 = iv i) ?_ v.length _ ⟨0, 0, by simp⟩
  rintro n st ⟨i, a, hi, hm, v3, v6, v7, v8⟩
  simp [k_impl_MostOf_b0, v7, v8]
  refine Br_i (fun h => ?_) (fun h => ?_)
  · simp at h
    obtain ⟨x, hx⟩ : ∃ x, v[i]? = some x := ⟨_, List.getElem?_eq_getElem h⟩
    have hx' := ints_get hx
    have hxi := hv x (List.mem_of_getElem? hx)
    have hws := wS h hl
    have e1 := R_impl_size x hxi
    rw [drop_cons' hx, maxA] at hm
    simp [-getElem?_pos, v3, v6, v7, v8, hx', e1, hws]
    exact Rnd_n (n - 1) (by omega) ⟨i + 1, max a x.natAbs, by omega, hm, by simp, by simp [v6], by simp [v7], by simp⟩
  · simp at h
    have e1 : i = v.length := by omega
    rw [e1, List.drop_length, maxA] at hm
    obtain ⟨b0, b1⟩ := mostL_b v
    unfold mostL at *
    have hw : IntKind.i64.wrap (min a 9223372036854775807) = min a 9223372036854775807 := w64 (by omega) (by omega)
    rw [hm] at hw
    simp [v3, hw, hm]

theorem R_spec_MostOf (v : List Int) (hv : ∀ x ∈ v, inI x) (hl : v.length ≤ 9223372036854775807) : RUN T k_spec_MostOf [.sl 1 (ints v)] = some ([iv (mostL v)], []) := by
  refine RUN_W T_spec_MostOf rfl ?_
  simp [k_spec_MostOf_ic, k_spec_MostOf_rv]
  refine W_loop (fun n st => ∃ (i : Nat) (a : Int), i + n = v.length ∧ maxA (v.drop i) a = maxA v 0 ∧ a ≤ 9223372036854775807 ∧ st.V 3 = iv a ∧ st.V 0 = .sl 1 (ints v) ∧ st.V 4 = iv i) ?_ v.length _ ⟨0, 0, by simp⟩
  rintro n st ⟨i, a, hi, hm, ha, v3, v0, v4⟩
  simp [k_spec_MostOf_b0, v0, v4]
  refine Br_i (fun h => ?_) (fun h => ?_)
  · simp at h
    obtain ⟨x, hx⟩ : ∃ x, v[i]? = some x := ⟨_, List.getElem?_eq_getElem h⟩
    have hx' := ints_get hx
    have hxi := hv x (List.mem_of_getElem? hx)
    have hws := wS h hl
    rw [drop_cons' hx, maxA] at hm
    obtain ⟨x0, x1⟩ := hxi
    by_cases hmin : x = -9223372036854775808
    · have := maxA_ge (v.drop (i + 1)) (max a x.natAbs)
      have e : mostL v = 9223372036854775807 := by unfold mostL; omega
      simp [-getElem?_pos, v3, v0, v4, hx', hmin, e, h]
    · by_cases hneg : x < 0
      · have hw : IntKind.i64.wrap (-x) = -x := w64 (by omega) (by omega)
        have e2 : max a (-x) = max a (x.natAbs : Int) := by omega
        simp [-getElem?_pos, v3, v0, v4, hx', hmin, hneg, hws, h, hw, e2]
        exact Rnd_n (n - 1) (by omega) ⟨i + 1, max a x.natAbs, by omega, hm, by omega, by simp, by simp [v0], by simp⟩
      · have e2 : max a x = max a (x.natAbs : Int) := by omega
        simp [-getElem?_pos, v3, v0, v4, hx', hmin, hneg, hws, h, e2]
        exact Rnd_n (n - 1) (by omega) ⟨i + 1, max a x.natAbs, by omega, hm, by omega, by simp, by simp [v0], by simp⟩
  · simp at h
    have e1 : i = v.length := by omega
    rw [e1, List.drop_length, maxA] at hm
    have e : mostL v = a := by unfold mostL; omega
    simp [v3, e]

def scaleW (w : Wd) (k : Int) : Wd × Bool := if wok w = true ∧ mag w * k.natAbs < 170141183460469231731687303715884105728 then (mkW (w.n != decide (k < 0)) (mag w * k.natAbs), true) else (zeroW, false)

theorem scale_facts (w : Wd) (k : Int) (hw : wfU w) (hk : inI k) : ∃ p q : Int, w.h * k.natAbs = p ∧ w.l * k.natAbs = q ∧ 0 ≤ p ∧ 0 ≤ q ∧ q ≤ 170141183460469231722463931679029329920 ∧ mag w * k.natAbs = p * 18446744073709551616 + q := by
  obtain ⟨a0, a1, a2, a3⟩ := hw
  obtain ⟨k0, k1⟩ := natAbs_b hk
  refine ⟨_, _, rfl, rfl, Int.mul_nonneg a0 k0, Int.mul_nonneg a2 k0, Int.le_trans (Int.mul_le_mul (show w.l ≤ 18446744073709551615 by omega) k1 k0 (by decide)) (by decide), ?_⟩
  unfold mag
  rw [Int.add_mul, Int.mul_assoc, Int.mul_comm 18446744073709551616, ← Int.mul_assoc]

theorem scale_key (w : Wd) (k : Int) (ka : wok w = true) (p q : Int) (p0 : 0 ≤ p) (q0 : 0 ≤ q) (q1 : q ≤ 170141183460469231722463931679029329920) (hP : mag w * k.natAbs = p * 18446744073709551616 + q) :
    (scaleW w k = (zeroW, false) ∧ (0 < p / 18446744073709551616 ∨ 0 < (p % 18446744073709551616 + q / 18446744073709551616) / 18446744073709551616 ∨ wok ⟨(w.n != decide (k < 0)) && (decide (0 < (p % 18446744073709551616 + q / 18446744073709551616) % 18446744073709551616) || decide (0 < q % 18446744073709551616)), (p % 18446744073709551616 + q / 18446744073709551616) % 18446744073709551616, q % 18446744073709551616⟩ = false)) ∨
    (scaleW w k = (⟨(w.n != decide (k < 0)) && (decide (0 < (p % 18446744073709551616 + q / 18446744073709551616) % 18446744073709551616) || decide (0 < q % 18446744073709551616)), (p % 18446744073709551616 + q / 18446744073709551616) % 18446744073709551616, q % 18446744073709551616⟩, true) ∧ ¬ 0 < p / 18446744073709551616 ∧ ¬ 0 < (p % 18446744073709551616 + q / 18446744073709551616) / 18446744073709551616 ∧ wok ⟨(w.n != decide (k < 0)) && (decide (0 < (p % 18446744073709551616 + q / 18446744073709551616) % 18446744073709551616) || decide (0 < q % 18446744073709551616)), (p % 18446744073709551616 + q / 18446744073709551616) % 18446744073709551616, q % 18446744073709551616⟩ = true) := by
  by_cases hk : p * 18446744073709551616 + q < 170141183460469231731687303715884105728
  · right
    have e : (⟨(w.n != decide (k < 0)) && (decide (0 < (p % 18446744073709551616 + q / 18446744073709551616) % 18446744073709551616) || decide (0 < q % 18446744073709551616)), (p % 18446744073709551616 + q / 18446744073709551616) % 18446744073709551616, q % 18446744073709551616⟩ : Wd) = mkW (w.n != decide (k < 0)) (p * 18446744073709551616 + q) := by
      unfold mkW
      congr 1
      · congr 1
        rw [Bool.eq_iff_iff]; simp; omega
      · omega
      · omega
    rw [e, mkW_ok (by omega)]
    refine ⟨?_, by omega, by omega, decide_eq_true hk⟩
    unfold scaleW
    rw [hP, if_pos ⟨ka, hk⟩]
  · left
    refine ⟨?_, ?_⟩
    · unfold scaleW
      rw [hP, if_neg (fun h => hk h.2)]
    · by_cases h1 : 0 < p / 18446744073709551616
      · exact .inl h1
      · by_cases h2 : 0 < (p % 18446744073709551616 + q / 18446744073709551616) / 18446744073709551616
        · exact .inr (.inl h2)
        · refine .inr (.inr ?_)
          unfold wok
          rw [decide_eq_false (show ¬ (p % 18446744073709551616 + q / 18446744073709551616) % 18446744073709551616 < 9223372036854775808 by omega)]
          rfl

set_option maxHeartbeats 1000000 in
theorem R_impl_ScaleWide (w : Wd) (k : Int) (hw : wfU w) (hk : inI k) : RUN T k_impl_ScaleWide [.agg (wd w), iv k] = some ([.agg (wd (scaleW w k).1), bv (scaleW w k).2], []) := by
  refine RUN_W T_impl_ScaleWide rfl ?_
  have ea := R_impl_WideOk w
  cases ka : wok w with
  | false =>
    have es : scaleW w k = (zeroW, false) := by unfold scaleW; simp [ka]
    rw [es]; rw [ka] at ea
    simp only [wd] at ea
    simp [k_impl_ScaleWide_ic, k_impl_ScaleWide_rv, wd, ea, zeroW]
  | true =>
    rw [ka] at ea
    obtain ⟨a0, a1, a2, a3⟩ := hw
    obtain ⟨k0, k1⟩ := natAbs_b hk
    have e1 := R_impl_size k hk
    have e2 := R_math_bits_Mul64 w.h k.natAbs a0 a1 k0 (by omega)
    have e3 := R_math_bits_Mul64 w.l k.natAbs a2 a3 k0 (by omega)
    obtain ⟨p, q, hp, hq, p0, q0, q1, hP⟩ := scale_facts w k ⟨a0, a1, a2, a3⟩ hk
    rw [hp] at e2
    rw [hq] at e3
    have e4 := RUN_add64 T_math_bits_Add64 (x := p % 18446744073709551616) (y := q / 18446744073709551616) (c := 0) (by omega) (by omega) (by decide) (by decide)
    rw [Int.add_zero] at e4
    have e5 := R_impl_wideOf (w.n != decide (k < 0)) ((p % 18446744073709551616 + q / 18446744073709551616) % 18446744073709551616) (q % 18446744073709551616)
    have e6 := R_impl_WideOk ⟨(w.n != decide (k < 0)) && (decide (0 < (p % 18446744073709551616 + q / 18446744073709551616) % 18446744073709551616) || decide (0 < q % 18446744073709551616)), (p % 18446744073709551616 + q / 18446744073709551616) % 18446744073709551616, q % 18446744073709551616⟩
    have key := scale_key w k ka p q p0 q0 q1 hP
    generalize ((w.n != decide (k < 0)) && (decide (0 < (p % 18446744073709551616 + q / 18446744073709551616) % 18446744073709551616) || decide (0 < q % 18446744073709551616))) = sn at *
    generalize p / 18446744073709551616 = P1 at *
    generalize p % 18446744073709551616 = P2 at *
    generalize q / 18446744073709551616 = Q1 at *
    generalize q % 18446744073709551616 = Q2 at *
    generalize (P2 + Q1) / 18446744073709551616 = S1 at *
    generalize (P2 + Q1) % 18446744073709551616 = S2 at *
    generalize scaleW w k = r at *
    generalize wok ⟨sn, S2, Q2⟩ = o at *
    obtain ⟨wn, wh, wl⟩ := w
    simp only [wd] at ea e5 e6 ⊢
    simp only at e2 e3
    rcases key with ⟨rfl, c | c | rfl⟩ | ⟨rfl, c1, c2, rfl⟩
    · cases wn <;> by_cases sb : k < 0 <;> simp [sb] at e5 <;> simp [k_impl_ScaleWide_ic, k_impl_ScaleWide_rv, ea, e1, e2, e3, e4, e5, sb, c, zeroW]
    · by_cases c' : 0 < P1
      · cases wn <;> by_cases sb : k < 0 <;> simp [sb] at e5 <;> simp [k_impl_ScaleWide_ic, k_impl_ScaleWide_rv, ea, e1, e2, e3, e4, e5, sb, c', zeroW]
      · cases wn <;> by_cases sb : k < 0 <;> simp [sb] at e5 <;> simp [k_impl_ScaleWide_ic, k_impl_ScaleWide_rv, ea, e1, e2, e3, e4, e5, sb, c', c, zeroW]
    · by_cases c' : 0 < P1
      · cases wn <;> by_cases sb : k < 0 <;> simp [sb] at e5 <;> simp [k_impl_ScaleWide_ic, k_impl_ScaleWide_rv, ea, e1, e2, e3, e4, e5, sb, c', zeroW]
      · by_cases c : 0 < S1
        · cases wn <;> by_cases sb : k < 0 <;> simp [sb] at e5 <;> simp [k_impl_ScaleWide_ic, k_impl_ScaleWide_rv, ea, e1, e2, e3, e4, e5, sb, c', c, zeroW]
        · cases wn <;> by_cases sb : k < 0 <;> simp [sb] at e5 <;> simp [k_impl_ScaleWide_ic, k_impl_ScaleWide_rv, ea, e1, e2, e3, e4, e5, e6, sb, c', c, zeroW]
    · cases wn <;> by_cases sb : k < 0 <;> simp [sb] at e5 <;> simp [k_impl_ScaleWide_ic, k_impl_ScaleWide_rv, ea, e1, e2, e3, e4, e5, e6, sb, c1, c2]

def topW (v : List Int) : Wd := mkW false (mostL v + 1)

theorem topW_wf (v : List Int) : wfU (topW v) := mkW_wf (by have := mostL_b v; omega) (by have := mostL_b v; omega)

def roomW (v : List Int) : Wd × Bool := scaleW (topW v) (4 * v.length)

theorem topW_eq (v : List Int) : sumW (wideV (mostL v)) (wideV 1) = (topW v, true) := by
  obtain ⟨b0, b1⟩ := mostL_b v
  have e1 : wok (wideV (mostL v)) = true := by
    unfold wideV; rw [mkW_ok (by omega)]; exact decide_eq_true (by omega)
  have e2 : wok (wideV 1) = true := by decide
  have e3 : valW (wideV (mostL v)) = mostL v := by
    unfold valW wideV
    rw [mkW_mag]
    have : (mkW (decide (mostL v < 0)) (mostL v).natAbs).n = false := by unfold mkW; rw [decide_eq_false (show ¬ mostL v < 0 by omega)]; rfl
    rw [this]; simp; omega
  have e4 : valW (wideV 1) = 1 := by decide
  unfold sumW
  rw [e1, e2, e3, e4]
  have e5 : ((mostL v + 1).natAbs : Int) = mostL v + 1 := by omega
  rw [e5, if_pos (show mostL v + 1 < 170141183460469231731687303715884105728 by omega), decide_eq_false (show ¬ mostL v + 1 < 0 by omega)]
  rfl

theorem R_impl_LossRoom (v : List Int) (hv : ∀ x ∈ v, inI x) (hl : v.length ≤ 1048576) : RUN T k_impl_LossRoom [.sl 1 (ints v)] = some ([.agg (wd (roomW v).1), bv (roomW v).2], []) := by
  refine RUN_W T_impl_LossRoom rfl ?_
  obtain ⟨b0, b1⟩ := mostL_b v
  have e1 := R_impl_MostOf v hv (by omega)
  have e2 := R_impl_WideOf (mostL v) ⟨by omega, by omega⟩
  have e3 := R_impl_WideOf 1 ⟨by omega, by omega⟩
  have e4 := R_impl_AddWide (wideV (mostL v)) (wideV 1) (wideV_wf ⟨by omega, by omega⟩) (wideV_wf ⟨by omega, by omega⟩)
  have e5 := R_impl_ScaleWide (topW v) (4 * v.length) (topW_wf v) ⟨by omega, by omega⟩
  have hw : IntKind.i64.wrap (4 * v.length) = 4 * v.length := w64 (by omega) (by omega)
  unfold roomW
  rw [topW_eq] at e4
  generalize topW v = t at *
  generalize wideV (mostL v) = w1 at *
  generalize wideV 1 = w2 at *
  generalize scaleW t (4 * v.length) = r at *
  clear b0 b1
  simp only [wd] at e2 e3 e4 e5 ⊢
  simp [k_impl_LossRoom_ic, k_impl_LossRoom_rv, e1, e2, e3, e4, e5, hw]

def negW (w : Wd) : Bool := w.n && !(decide (w.h = 0) && decide (w.l = 0))

def cmpW (a b : Wd) : Int := if negW a = true then (if negW b = true then ordW b a else -1) else (if negW b = true then 1 else ordW a b)

theorem R_spec_CompareWide (a b : Wd) : RUN T k_spec_CompareWide [.agg (wd a), .agg (wd b)] = some ([iv (cmpW a b)], []) := by
  refine RUN_W T_spec_CompareWide rfl ?_
  have e1 := R_spec_l3Zero a
  have e2 := R_spec_l3Zero b
  have e3 := R_spec_l3Order a b
  have e4 := R_spec_l3Order b a
  unfold cmpW negW
  generalize ordW a b = x at *
  generalize ordW b a = y at *
  generalize (decide (a.h = 0) && decide (a.l = 0)) = z at *
  generalize (decide (b.h = 0) && decide (b.l = 0)) = z' at *
  obtain ⟨an, ah, al⟩ := a
  obtain ⟨bn, bh, bl⟩ := b
  simp only [wd] at e1 e2 e3 e4 ⊢
  cases an <;> cases bn <;> cases z <;> cases z' <;> simp [k_spec_CompareWide_ic, k_spec_CompareWide_rv, e1, e2, e3, e4]

theorem R_spec_DrawLossOf (B : List Int) (hB : B.length ≤ 9223372036854775807) : ∃ l : List Int, l.length ≤ 64 ∧ (∀ x ∈ l, inI x) ∧ RUN T k_spec_DrawLossOf [.sl 1 (byts B)] = some ([.own 1 (ints l)], []) := by
  obtain ⟨r, h, s, rfl⟩ := R_spec_l1New B hB
  obtain ⟨r2, h2, v2, p2, s2, ⟨l, rfl, hl, hli⟩, hp2, rfl⟩ := R_spec_l10List B 0 s (by omega) hB
  refine ⟨l, hl, hli, ?_⟩
  refine RUN_W T_spec_DrawLossOf rfl ?_
  simp only [Int.natCast_zero] at *
  simp [-getElem?_pos, k_spec_DrawLossOf_ic, k_spec_DrawLossOf_rv, h, h2]

theorem mulW_neg (x : Int) : mulW (-x) (-x) = mulW x x := by
  unfold mulW
  have e1 : ((-x).natAbs : Int) = x.natAbs := by omega
  rw [e1]
  congr 1
  cases decide (-x < 0) <;> cases decide (x < 0) <;> rfl

theorem lossG_neg (l : List Int) : ∀ w, lossG (l.map fun x => -x) w = lossG l w := by
  induction l with
  | nil => intro w; rfl
  | cons x l ih =>
    intro w
    simp only [List.map_cons, lossG, mulW_neg, ih]

theorem maxA_neg (l : List Int) : ∀ a, maxA (l.map fun x => -x) a = maxA l a := by
  induction l with
  | nil => intro a; rfl
  | cons x l ih =>
    intro a
    have e1 : ((-x).natAbs : Int) = x.natAbs := by omega
    simp only [List.map_cons, maxA, ih, e1]

theorem mostL_neg (l : List Int) : mostL (l.map fun x => -x) = mostL l := by unfold mostL; rw [maxA_neg]

theorem roomW_small {l : List Int} (h : l.length ≤ 64) : (roomW l).2 = true ∧ cmpW (roomW l).1 zeroW ≥ 0 := by
  obtain ⟨b0, b1⟩ := mostL_b l
  have e1 : mag (topW l) = mostL l + 1 := by unfold topW; exact mkW_mag
  have e2 : wok (topW l) = true := by unfold topW; rw [mkW_ok (by omega)]; exact decide_eq_true (by omega)
  have e3 : ((4 * (l.length : Int)).natAbs : Int) = 4 * (l.length : Int) := by omega
  have e4 : (mostL l + 1) * (4 * (l.length : Int)) ≤ 2361183241434822606848 := Int.le_trans (Int.mul_le_mul (show mostL l + 1 ≤ 9223372036854775808 by omega) (show 4 * (l.length : Int) ≤ 256 by omega) (by omega) (by decide)) (by decide)
  have e5 : 0 ≤ (mostL l + 1) * (4 * (l.length : Int)) := Int.mul_nonneg (by omega) (by omega)
  have e6 : (topW l).n = false := rfl
  have e7 : roomW l = (mkW false ((mostL l + 1) * (4 * (l.length : Int))), true) := by
    unfold roomW scaleW
    rw [e1, e3, e6, if_pos ⟨e2, by omega⟩, decide_eq_false (show ¬ 4 * (l.length : Int) < 0 by omega)]
    rfl
  rw [e7]
  refine ⟨rfl, ?_⟩
  generalize (mostL l + 1) * (4 * (l.length : Int)) = m at *
  have n1 : negW (mkW false m) = false := rfl
  have n2 : negW zeroW = false := rfl
  simp only
  unfold cmpW
  rw [n1, n2, if_neg (by simp), if_neg (by simp), ordW_mag (mkW_wf e5 (by omega)) ⟨by decide, by decide, by decide, by decide⟩, mkW_mag]
  have : mag zeroW = 0 := by decide
  rw [this]
  unfold sgnI
  split
  · omega
  · split <;> omega

theorem eqP_W (a : Bool) (b c : Int) : eqP [.b, .i .u64, .i .u64] (.agg [bv a, uv b, uv c]) (.agg [bv a, uv b, uv c]) = some true := by
  simp [eqP, eqCells, eqV]

set_option maxHeartbeats 1000000 in
theorem law_FnLoss (B : List Int) (hB : B.length ≤ 9223372036854775807) : RUN T k_laws_FnLoss [.sl 1 (byts B)] = some ([bv true], []) := by
  refine RUN_W T_laws_FnLoss rfl ?_
  have hb := R_laws_big (byts B)
  rw [byts_len] at hb
  by_cases c : (1048576 : Int) < B.length
  · simp [-getElem?_pos, k_laws_FnLoss_ic, k_laws_FnLoss_rv, hb, c]
  obtain ⟨l, hl, hli, hd⟩ := R_spec_DrawLossOf B hB
  have h1 := R_impl_LossOf l hli (by omega)
  have h2 := R_spec_LossOf l hli (by omega)
  have h3 := R_impl_MostOf l hli (by omega)
  have h4 := R_spec_MostOf l hli (by omega)
  have hz := lossG_neg l zeroW
  have hm := mostL_neg l
  have h5 := R_impl_LossRoom l hli (by omega)
  obtain ⟨hr, hc⟩ := roomW_small hl
  have h6 := R_spec_CompareWide (roomW l).1 zeroW
  rw [hr] at h5
  generalize lossG l zeroW = g at *
  generalize (roomW l).1 = rm at *
  generalize cmpW rm zeroW = cv at *
  obtain ⟨g, gb⟩ := g
  simp only [wd] at h1 h2 h5 h6
  simp [-getElem?_pos, k_laws_FnLoss_ic, k_laws_FnLoss_rv, hb, c, hd, h1, h2, h3, h4, eqP_W]
  refine W_loop (fun n st => ∃ (i o e : Nat) (m : List Int), i + n = l.length ∧ m.length = i ∧ m = (l.take i).map (fun x => -x) ∧ (∀ x ∈ l.take i, -9223372036854775807 ≤ x) ∧ st.V 3 = .ref 0 none 0 0 l.length ∧ st.V 4 = .ptr 1 none 0 0 0 ∧ st.V 5 = bv gb ∧ st.V 8 = .ref o none e 0 m.length ∧ st.V 9 = iv i ∧ 2 < o ∧ o < st.nx ∧ st.S o = some (.row 1 (ints m)) ∧ st.S 0 = some (.row 1 (ints l)) ∧ st.S 1 = some (.box [bv g.n, uv g.h, uv g.l])) ?_ l.length _ ⟨0, 3, 0, [], by simp [ints]⟩
  rintro n st ⟨i, o, e, m, hi, hml, hme, hall, v3, v4, v5, v8, v9, ho, hox, hSo, hS, hS1⟩
  simp [k_laws_FnLoss_b0, v3, v9, hS]
  obtain ⟨f1, f2, f3, f4⟩ := fr hox
  obtain ⟨g1, g2, g3, g4⟩ := fr (show 0 < o by omega)
  obtain ⟨z1, z2, z3, z4⟩ := fr (show 0 < st.nx by omega)
  obtain ⟨y1, y2, y3, y4⟩ := fr (show 1 < o by omega)
  obtain ⟨x1, x2, x3, x4⟩ := fr (show 1 < st.nx by omega)
  refine Br_i (fun h => ?_) (fun h => ?_)
  · simp at h
    obtain ⟨x, hx⟩ : ∃ x, l[i]? = some x := ⟨_, List.getElem?_eq_getElem h⟩
    have hx' := ints_get hx
    have hws := wS h (by omega : l.length ≤ 9223372036854775807)
    obtain ⟨x0, x9⟩ := hli x (List.mem_of_getElem? hx)
    rcases Classical.propComplete (x < -9223372036854775807) with hlt | hlt
    · simp [-getElem?_pos, v3, v9, hS, hx', h, hlt]
    · have hlt' : ¬ x < -9223372036854775807 := by rw [hlt]; exact id
      have hn : IntKind.i64.wrap (-x) = -x := w64 (by omega) (by omega)
      have hr8 := room8 (n := i + 1) (by omega)
      have htk : m ++ [-x] = (l.take (i + 1)).map (fun x => -x) := by
        rw [List.take_succ, hx, hme]; simp
      rw [← hml] at hr8
      simp [-getElem?_pos, v3, v4, v5, v8, v9, hS, hS1, hSo, hx', h, hlt, hn, hws, hr8, ints_snoc, f1, f2, f3, f4, g1, g2, g3, g4, z1, z2, z3, z4, y1, y2, y3, y4, x1, x2, x3, x4]
      refine Rnd_n (n - 1) (by omega) ⟨i + 1, st.nx + 1, st.ep, m ++ [-x], by omega, by simp [hml], htk, ?_, by simp [v3], by simp [v4], by simp [v5], by (try simp), by (try simp), by (try simp); omega, by (try simp); try omega, ?_⟩
      · intro y hy
        rw [List.take_succ, hx] at hy
        rcases List.mem_append.mp hy with hy | hy
        · exact hall y hy
        · simp at hy; omega
      · simp [f1, f2, f3, f4, g1, g2, g3, g4, z1, z2, z3, z4, y1, y2, y3, y4, x1, x2, x3, x4, hS, hS1]
  · simp at h
    have e1 : i = l.length := by omega
    rw [e1, List.take_length] at hme
    rw [e1, List.take_length] at hall
    subst hme
    have hni : ∀ y ∈ l.map (fun x => -x), inI y := by
      intro y hy
      obtain ⟨x, hx, rfl⟩ := List.mem_map.mp hy
      have := hall x hx
      obtain ⟨x0, x1⟩ := hli x hx
      exact ⟨by omega, by omega⟩
    have k1 := R_impl_LossOf (l.map fun x => -x) hni (by simp; omega)
    have k2 := R_impl_MostOf (l.map fun x => -x) hni (by simp; omega)
    rw [hz] at k1
    rw [hm] at k2
    have hll : (l.map fun x => -x).length = l.length := by simp
    generalize (l.map fun x => -x) = l' at *
    simp only [wd, zeroW] at k1 h6
    simp [-getElem?_pos, v3, v4, v5, v8, v9, hS, hS1, hSo, k1, k2, h3, h5, h6, hc, hll, eqP_W, f1, f2, f3, f4, g1, g2, g3, g4, z1, z2, z3, z4, y1, y2, y3, y4, x1, x2, x3, x4]

theorem shp_byteL (cs : List PV) (h : ShpL [.int .u8] cs) : ∃ n : Int, [PV.v (.int .u8 n)] = cs ∧ True := by
  simp only [ShpL, Shp] at h
  obtain ⟨_, _, rfl, ⟨a, rfl, h1⟩, rfl⟩ := h
  exact ⟨a, rfl, trivial⟩

theorem shp_bytes {c : PV} (h : ShpA false [.sl [.int .u8]] c) : ∃ B : List Int, c = .sl 1 (byts B) ∧ B.length ≤ 9223372036854775807 := by
  simp only [ShpA, Bool.false_eq_true, if_false, ShpL, Shp] at h
  obtain ⟨c', r, e, ⟨es, he, h1, h2⟩, hr⟩ := h
  simp only [List.cons.injEq] at e
  obtain ⟨l, hl, hp⟩ := rows_of (f := fun n : Int => [PV.v (.int .u8 n)]) (tys := [.int .u8]) shp_byteL h2
  subst hl
  simp [maxLen] at h1
  exact ⟨l, e.1.trans he, by omega⟩

end Go.Pe
